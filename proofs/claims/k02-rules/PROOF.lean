import PyProof.Rows.All
import Wide.All
import OpenK.AllK
import Wide.FinOn
import PyProof.EqAt
import PyProof.EqKinds
import PyProof.TupleCall
import HandS.ForMost
import HandS.ForExc
import HandS.IsInst
import HandS.TupAny
import HandS.Zip
import HandS.SortInts
import HandS.SortRule
import HandS.Deep
import HandS.Conv
import HandS.Flow
import HandS.More
import HandS.SetFor
import PySem.Challenge.RW_formlines_k02_rules
set_option Elab.async false
set_option linter.all false
set_option maxRecDepth 100000
set_option maxHeartbeats 1000000
set_option Elab.async false
set_option linter.all false
set_option maxRecDepth 100000
set_option maxHeartbeats 4000000
/-! a small layer over HandS: one rule for each operator whatever the kinds, steps through readings, heaps that grow -/
namespace Fl
open PySem PySem.Spec PyProof.Rows L2
abbrev Ctx0 := L2.Cx

/-! ### what stands at the module's top -/
/-- the built-in names that no text here binds -/
structure Mg (mg : Str → Option Value) : Prop where
  all : mg "all" = none
  any : mg "any" = none
  bool : mg "bool" = none
  dict : mg "dict" = none
  int : mg "int" = none
  isinstance : mg "isinstance" = none
  len : mg "len" = none
  list : mg "list" = none
  max : mg "max" = none
  min : mg "min" = none
  range : mg "range" = none
  reversed : mg "reversed" = none
  sorted : mg "sorted" = none
  str : mg "str" = none
  sum : mg "sum" = none
  tuple : mg "tuple" = none
  zip : mg "zip" = none
/-- a def of the text at its place -/
structure DefAt (K : PySem.W.Frag) (mg : Str → Option Value) (x : Str) (st : Stmt) (ps : List Str) : Prop where
  ex : ∃ (f : Addr) (fd : FuncData), Fun K x x st f fd ∧ mg x = some (.ref f) ∧ Binds K fd ps []
/-- a def that may be called, by its promise -/
structure Has (P : Program) (w : World) (K : PySem.W.Frag) (mg : Str → Option Value) (base : Heap) (x : Str) (ps : List Str) (k : Nat) (sp : Sp) : Prop where
  ex : ∃ (f : Addr) (fd : FuncData), FnOk P w K mg base (L2.CX P w) k f fd ps sp ∧ mg x = some (.ref f) ∧ PySem.W.keepIn K (.ref f) = true ∧ Binds K fd ps []
section
variable {P : Program} {w : World} {K : PySem.W.Frag} {mg : Str → Option Value} {base : Heap} {x : Str} {st : Stmt} {N ps : List Str} {k j : Nat} {sp sp' : Sp}
theorem Has.mono (h : Has P w K mg base x ps j sp) (l : j ≤ k) : Has P w K mg base x ps k sp := by
  obtain ⟨f, fd, F, a, b, c⟩ := h.ex
  exact ⟨f, fd, F.mono l, a, b, c⟩
theorem Has.imp (h : Has P w K mg base x ps k sp) (i : ∀ vs H Q E, sp' vs H Q E → sp vs H Q E) : Has P w K mg base x ps k sp' := by
  obtain ⟨f, fd, F, a, b, c⟩ := h.ex
  exact ⟨f, fd, F.imp i, a, b, c⟩
/-- the body's context -/
abbrev cx (P : Program) (w : World) (K : PySem.W.Frag) (mg : Str → Option Value) (base : Heap) (N : List Str) (x : Str) (st : Stmt) (f : Addr) (cdv : Value) (A : Around) (outer : List Env) (s : Shared) (H : Hp) (E : XK) : L2.Cx :=
  cxOf (L2.CX P w) P w K mg base N x (defScope st) f cdv A outer s H E
theorem Has.mk' (D : DefAt K mg x st ps) (S : FnScope N ps (defScope st)) (len : ∀ vs H Q E, sp vs H Q E → vs.length = ps.length)
    (hbody : ∀ (f : Addr) (cdv : Value) (A : Around) (outer : List Env) (s : Shared) (H : Hp) (vs : List V) (Q : VK) (E : XK), Room k (A.deeper (envOfC x (defScope st) s.heap.objs.size f cdv)) → sp vs H Q E →
      ∃ t, PSs (cx P w K mg base N x st f cdv A outer s H E) (defBody st) t ∧ t { nx := fun _ H' => Q .non H', rt := Q } (start N vs) H) : Has P w K mg base x ps (k + 1) sp := by
  obtain ⟨f, fd, F, hm, hb⟩ := D.ex
  exact ⟨f, fd, F.okX S len (fun cdv A outer s H vs Q E hr h => hbody f cdv A outer s H vs Q E hr h), hm, F.kp, hb⟩
/-- promises by arity -/
abbrev Sp1 := V → Hp → VK → XK → Prop
abbrev Sp2 := V → V → Hp → VK → XK → Prop
abbrev Sp3 := V → V → V → Hp → VK → XK → Prop
abbrev Sp4 := V → V → V → V → Hp → VK → XK → Prop
abbrev Sp5 := V → V → V → V → V → Hp → VK → XK → Prop
abbrev Sp7 := V → V → V → V → V → V → V → Hp → VK → XK → Prop
def sp1 (g : Sp1) : Sp := fun vs H Q E => ∃ a, vs = [a] ∧ g a H Q E
def sp2 (g : Sp2) : Sp := fun vs H Q E => ∃ a b, vs = [a, b] ∧ g a b H Q E
def sp3 (g : Sp3) : Sp := fun vs H Q E => ∃ a b c, vs = [a, b, c] ∧ g a b c H Q E
def sp4 (g : Sp4) : Sp := fun vs H Q E => ∃ a b c d, vs = [a, b, c, d] ∧ g a b c d H Q E
def sp5 (g : Sp5) : Sp := fun vs H Q E => ∃ a b c d e, vs = [a, b, c, d, e] ∧ g a b c d e H Q E
def sp7 (g : Sp7) : Sp := fun vs H Q E => ∃ a b c d e f i, vs = [a, b, c, d, e, f, i] ∧ g a b c d e f i H Q E
/-- the room that a body of level k has -/
abbrev RoomOf (k : Nat) (x : Str) (st : Stmt) (f : Addr) (cdv : Value) (A : Around) (s : Shared) : Prop := Room k (A.deeper (envOfC x (defScope st) s.heap.objs.size f cdv))
abbrev Body (P : Program) (w : World) (K : PySem.W.Frag) (mg : Str → Option Value) (base : Heap) (N : List Str) (x : Str) (st : Stmt) (f : Addr) (cdv : Value) (A : Around) (outer : List Env) (s : Shared) (H : Hp) (vs : List V) (Q : VK) (E : XK) : Prop :=
  ∃ t, PSs (cx P w K mg base N x st f cdv A outer s H E) (defBody st) t ∧ t { nx := fun _ H' => Q .non H', rt := Q } (start N vs) H
theorem Has.mk1 {g : Sp1} {p1 : Str} (D : DefAt K mg x st [p1]) (S : FnScope N [p1] (defScope st))
    (hb : ∀ f cdv A outer s H a Q E, RoomOf k x st f cdv A s → g a H Q E → Body P w K mg base N x st f cdv A outer s H [a] Q E) : Has P w K mg base x [p1] (k + 1) (sp1 g) :=
  .mk' D S (fun vs H Q E ⟨a, e, _⟩ => by rw [e]; rfl) fun f cdv A outer s H vs Q E hr ⟨a, e, h⟩ => by subst e; exact hb f cdv A outer s H a Q E hr h
theorem Has.mk2 {g : Sp2} {p1 p2 : Str} (D : DefAt K mg x st [p1, p2]) (S : FnScope N [p1, p2] (defScope st))
    (hb : ∀ f cdv A outer s H a b Q E, RoomOf k x st f cdv A s → g a b H Q E → Body P w K mg base N x st f cdv A outer s H [a, b] Q E) : Has P w K mg base x [p1, p2] (k + 1) (sp2 g) :=
  .mk' D S (fun vs H Q E ⟨a, b, e, _⟩ => by rw [e]; rfl) fun f cdv A outer s H vs Q E hr ⟨a, b, e, h⟩ => by subst e; exact hb f cdv A outer s H a b Q E hr h
theorem Has.mk3 {g : Sp3} {p1 p2 p3 : Str} (D : DefAt K mg x st [p1, p2, p3]) (S : FnScope N [p1, p2, p3] (defScope st))
    (hb : ∀ f cdv A outer s H a b c Q E, RoomOf k x st f cdv A s → g a b c H Q E → Body P w K mg base N x st f cdv A outer s H [a, b, c] Q E) : Has P w K mg base x [p1, p2, p3] (k + 1) (sp3 g) :=
  .mk' D S (fun vs H Q E ⟨a, b, c, e, _⟩ => by rw [e]; rfl) fun f cdv A outer s H vs Q E hr ⟨a, b, c, e, h⟩ => by subst e; exact hb f cdv A outer s H a b c Q E hr h
theorem Has.mk4 {g : Sp4} {p1 p2 p3 p4 : Str} (D : DefAt K mg x st [p1, p2, p3, p4]) (S : FnScope N [p1, p2, p3, p4] (defScope st))
    (hb : ∀ f cdv A outer s H a b c d Q E, RoomOf k x st f cdv A s → g a b c d H Q E → Body P w K mg base N x st f cdv A outer s H [a, b, c, d] Q E) : Has P w K mg base x [p1, p2, p3, p4] (k + 1) (sp4 g) :=
  .mk' D S (fun vs H Q E ⟨a, b, c, d, e, _⟩ => by rw [e]; rfl) fun f cdv A outer s H vs Q E hr ⟨a, b, c, d, e, h⟩ => by subst e; exact hb f cdv A outer s H a b c d Q E hr h
theorem Has.mk5 {g : Sp5} {p1 p2 p3 p4 p5 : Str} (D : DefAt K mg x st [p1, p2, p3, p4, p5]) (S : FnScope N [p1, p2, p3, p4, p5] (defScope st))
    (hb : ∀ f cdv A outer s H a b c d e Q E, RoomOf k x st f cdv A s → g a b c d e H Q E → Body P w K mg base N x st f cdv A outer s H [a, b, c, d, e] Q E) : Has P w K mg base x [p1, p2, p3, p4, p5] (k + 1) (sp5 g) :=
  .mk' D S (fun vs H Q E ⟨a, b, c, d, e, z, _⟩ => by rw [z]; rfl) fun f cdv A outer s H vs Q E hr ⟨a, b, c, d, e, z, h⟩ => by subst z; exact hb f cdv A outer s H a b c d e Q E hr h
theorem Has.mk7 {g : Sp7} {p1 p2 p3 p4 p5 p6 p7 : Str} (D : DefAt K mg x st [p1, p2, p3, p4, p5, p6, p7]) (S : FnScope N [p1, p2, p3, p4, p5, p6, p7] (defScope st))
    (hb : ∀ f cdv A outer s H a b c d e i j Q E, RoomOf k x st f cdv A s → g a b c d e i j H Q E → Body P w K mg base N x st f cdv A outer s H [a, b, c, d, e, i, j] Q E) : Has P w K mg base x [p1, p2, p3, p4, p5, p6, p7] (k + 1) (sp7 g) :=
  .mk' D S (fun vs H Q E ⟨a, b, c, d, e, i, j, z, _⟩ => by rw [z]; rfl) fun f cdv A outer s H vs Q E hr ⟨a, b, c, d, e, i, j, z, h⟩ => by subst z; exact hb f cdv A outer s H a b c d e i j Q E hr h
/-- nothing is asked where no call is left -/
theorem Has.none_left {sp : Sp} (D : DefAt K mg x st ps) (no : ∀ vs H Q E, ¬ sp vs H Q E) : Has P w K mg base x ps k sp := by
  obtain ⟨f, fd, F, hm, hb⟩ := D.ex
  exact ⟨f, fd, ⟨fun vs H Q E h => absurd h (no vs H Q E), fun A outer s H args us vs Q E _ _ _ _ h => absurd h (no vs H Q E)⟩, hm, F.kp, hb⟩
end

/-! ### calls of own defs -/
section
variable {X : L2.Cx} {x : Str} {ps : List Str} {k : Nat} {sp : Sp} {E : XK} {p pos : Pos} {e : Expr} {es : List Expr} {t : TA}
def tCallO (sp : Sp) (E : XK) (t : TA) : TE := fun σ H Q => t σ H fun vs H1 => sp vs H1 Q E
theorem pe_own (h : Has X.prog X.w X.K X.mg X.base x ps k sp) (hr : Room k X.A) (hg : Gl X x) (hx : Passes (L2.CX X.prog X.w) X E)
    (ha : PA X (e :: es) t) (hdb : (x == ("__debug__" : Str)) = false := by decide) (he : starEach (e :: es) X.env = (false, eval e X.env) :: starEach es X.env := by rfl) (hpl : (backTo pos (starEach es X.env)).any (·.1) = false := by rfl) :
    PE X (.Call (.Name x p) (e :: es) [] pos) (tCallO sp E t) := by
  obtain ⟨f, fd, F, hm, hk, hb⟩ := h.ex
  have q := pe_call (sp := sp) (p := p) (pos := pos) F hr hg hm hk hb .nil hx ha hdb he hpl
  refine ⟨fun pins s σ H Q I w => q.run pins s σ H Q I ?_⟩
  have e2 : (fun (vs : List V) (H1 : Hp) => sp (vs ++ []) H1 Q E) = fun vs H1 => sp vs H1 Q E := by
    funext vs H1
    rw [List.append_nil]
  show t σ H (fun vs H1 => sp (vs ++ []) H1 Q E)
  rw [e2]
  exact w
/-- a whole number, a text of the module -/
theorem pe_gi {c : Int} (hg : Gl X x) (h : ∃ t, X.mg x = some (.int c t)) (hd : (x == ("__debug__" : Str)) = false := by decide) : PE X (.Name x pos) (tC (.int c)) := by
  obtain ⟨t, h⟩ := h
  exact pe_glob hg h ⟨t, rfl⟩ hd
theorem pe_gs {c : Str} (hg : Gl X x) (h : ∃ t, X.mg x = some (.str c t)) (hd : (x == ("__debug__" : Str)) = false := by decide) : PE X (.Name x pos) (tC (.str c)) := by
  obtain ⟨t, h⟩ := h
  exact pe_glob hg h ⟨t, rfl⟩ hd
end

/-! ### ways that meet behind a statement -/
def tCutF (t u : TS) : TS := fun D σ H => ∃ M : L2.St → Hp → Prop, t ⟨M, D.rt, D.bk, D.ct⟩ σ H ∧ ∀ σ' H', M σ' H' → u D σ' H'
theorem pss_meet {X : L2.Cx} {st : Stmt} {rest : List Stmt} {t u : TS} (h1 : PS X st t) (h2 : PSs X rest u) : PSs X (st :: rest) (tCutF t u) := by
  refine ⟨fun pins s σ H D I ⟨M, a, b⟩ => wpAny_execs_cons (thn (h1.run pins s σ H ⟨M, D.rt, D.bk, D.ct⟩ I a) fun f s1 q => ?_)⟩
  cases f with
  | next =>
    obtain ⟨σ', H', I', q⟩ := q
    exact h2.run pins s1 σ' H' D I' (b σ' H' q)
  | ret v => exact q
  | brk => exact q
  | cont => exact q

/-! ### one rule for an operator -/
section
variable {X : L2.Cx}
def uAdd (K : PySem.W.Frag) : R2 := fun x y H Q => match x, y with
  | .int i, .int j => Q (.int (i + j)) H
  | .str i, .str j => i.length + j.length ≤ sizeLine ∧ Q (.str (i ++ j)) H
  | .ref a, .ref b => rCat (.ref a) (.ref b) H Q ∨ rCatA K (.ref a) (.ref b) H Q
  | _, _ => False
theorem o_add : OpR X (binaryOp .Add) (uAdd X.K) := by
  intro pins s σ H x y v u Q I rx ry h
  cases x <;> cases y <;> first | exact h.elim | skip
  · exact op_add pins s σ H _ _ v u Q I rx ry ⟨_, _, rfl, rfl, h⟩
  · exact op_add_str pins s σ H _ _ v u Q I rx ry ⟨_, _, rfl, rfl, h⟩
  · rcases h with h | h
    · exact op_cat pins s σ H _ _ v u Q I rx ry h
    · exact op_catA pins s σ H _ _ v u Q I rx ry h
def uSub : R2 := fun x y H Q => match x, y with
  | .int i, .int j => Q (.int (i - j)) H
  | _, _ => False
theorem o_sub : OpR X (binaryOp .Sub) uSub := by
  intro pins s σ H x y v u Q I rx ry h
  cases x <;> cases y <;> first | exact h.elim | skip
  exact op_sub pins s σ H _ _ v u Q I rx ry ⟨_, _, rfl, rfl, h⟩
def uMul : R2 := fun x y H Q => match x, y with
  | .int i, .int j => CMul i j ∧ Q (.int (i * j)) H
  | .ref a, .int k => rRep (.ref a) (.int k) H Q
  | _, _ => False
theorem o_mul : OpR X (binaryOp .Mult) uMul := by
  intro pins s σ H x y v u Q I rx ry h
  cases x <;> cases y <;> first | exact h.elim | skip
  · exact op_mul pins s σ H _ _ v u Q I rx ry ⟨_, _, rfl, rfl, h.1, h.2⟩
  · exact op_rep pins s σ H _ _ v u Q I rx ry h
def uDiv : R2 := fun x y H Q => match x, y with
  | .int i, .int j => CDiv i j ∧ Q (.int (i / j)) H
  | _, _ => False
theorem o_div : OpR X (binaryOp .FloorDiv) uDiv := by
  intro pins s σ H x y v u Q I rx ry h
  cases x <;> cases y <;> first | exact h.elim | skip
  exact op_fdiv pins s σ H _ _ v u Q I rx ry ⟨_, _, rfl, rfl, h.1, h.2⟩
def uMod : R2 := fun x y H Q => match x, y with
  | .int i, .int j => 0 < j ∧ Q (.int (i % j)) H
  | _, _ => False
theorem o_mod : OpR X (binaryOp .Mod) uMod := by
  intro pins s σ H x y v u Q I rx ry h
  cases x <;> cases y <;> first | exact h.elim | skip
  exact op_mod pins s σ H _ _ v u Q I rx ry ⟨_, _, rfl, rfl, h.1, h.2⟩
def uPow : R2 := fun x y H Q => match x, y with
  | .int i, .int j => CPow i j ∧ Q (.int (i ^ j.toNat)) H
  | _, _ => False
theorem o_pow : OpR X (binaryOp .Pow) uPow := by
  intro pins s σ H x y v u Q I rx ry h
  cases x <;> cases y <;> first | exact h.elim | skip
  exact op_pow pins s σ H _ _ v u Q I rx ry ⟨_, _, rfl, rfl, h.1, h.2⟩
def uNeg : V → Hp → VK → Prop := fun x H Q => match x with
  | .int i => Q (.int (-i)) H
  | _ => False
theorem o_neg : UnR X (unaryOp .USub) uNeg := by
  intro pins s σ H x v Q I rx h
  cases x <;> first | exact h.elim | skip
  exact un_neg pins s σ H _ v Q I rx ⟨_, rfl, h⟩
def uCmp (p : Int → Int → Bool) : R2 := fun x y H Q => match x, y with
  | .int i, .int j => Q (.bl (p i j)) H
  | _, _ => False
abbrev uLt : R2 := uCmp fun i j => decide (i < j)
abbrev uLe : R2 := uCmp fun i j => decide (i ≤ j)
abbrev uGt : R2 := uCmp fun i j => decide (j < i)
abbrev uGe : R2 := uCmp fun i j => decide (j ≤ i)
theorem o_lt : OpR X (compareOp .Lt) uLt := by
  intro pins s σ H x y v u Q I rx ry h
  cases x <;> cases y <;> first | exact h.elim | skip
  exact op_lt pins s σ H _ _ v u Q I rx ry ⟨_, _, rfl, rfl, h⟩
theorem o_le : OpR X (compareOp .LtE) uLe := by
  intro pins s σ H x y v u Q I rx ry h
  cases x <;> cases y <;> first | exact h.elim | skip
  exact op_le pins s σ H _ _ v u Q I rx ry ⟨_, _, rfl, rfl, h⟩
theorem o_gt : OpR X (compareOp .Gt) uGt := by
  intro pins s σ H x y v u Q I rx ry h
  cases x <;> cases y <;> first | exact h.elim | skip
  exact op_gt pins s σ H _ _ v u Q I rx ry ⟨_, _, rfl, rfl, h⟩
theorem o_ge : OpR X (compareOp .GtE) uGe := by
  intro pins s σ H x y v u Q I rx ry h
  cases x <;> cases y <;> first | exact h.elim | skip
  exact op_ge pins s σ H _ _ v u Q I rx ry ⟨_, _, rfl, rfl, h⟩
/-- ==, != : plain values by themselves, else data at any depth -/
def uEq (K : PySem.W.Frag) : R2 := fun x y H Q => rEq x y H Q ∨ rEqD K x y H Q
def uNe (K : PySem.W.Frag) : R2 := fun x y H Q => rNe x y H Q ∨ rNeD K x y H Q
theorem o_eq {k : Nat} (hr : Room k X.A) : OpR X (compareOp .Eq) (uEq X.K) := op_eq.or (op_eqD hr.units)
theorem o_ne {k : Nat} (hr : Room k X.A) : OpR X (compareOp .NotEq) (uNe X.K) := op_ne.or (op_neD hr.units)
def uIn (K : PySem.W.Frag) : R2 := fun x y H Q => match y with
  | .str j => ∃ i, x = .str i ∧ Q (.bl (!(Builtin.Str.occurrences j i 0 j.length 1).isEmpty)) H
  | _ => rIn K false x y H Q ∨ rInD K x y H Q
def uNotIn (K : PySem.W.Frag) : R2 := fun x y H Q => match y with
  | .str j => ∃ i, x = .str i ∧ Q (.bl (!(!(Builtin.Str.occurrences j i 0 j.length 1).isEmpty))) H
  | _ => rIn K true x y H Q ∨ rNotInD K x y H Q
theorem Room.units65 {k : Nat} {A : Around} (r : Room k A) : A.units + 65 < cLine := by have := r.un; omega
theorem o_in {k : Nat} (hr : Room k X.A) : OpR X (compareOp .In) (uIn X.K) := by
  intro pins s σ H x y v u Q I rx ry h
  have go : rIn X.K false x y H Q ∨ rInD X.K x y H Q → wpAny (model X.prog X.w) X.A (compareOp .In v u) (EP X pins σ Q) X.xe s := fun h => by
    rcases h with h | h
    · exact op_in_seq pins s σ H _ _ v u Q I rx ry h
    · exact op_inD (Room.units65 hr) pins s σ H _ _ v u Q I rx ry h
  cases y with
  | str j =>
    obtain ⟨i, e, q⟩ := h
    exact op_in_str pins s σ H _ _ v u Q I rx ry ⟨_, _, e, rfl, q⟩
  | _ => exact go h
theorem o_notin {k : Nat} (hr : Room k X.A) : OpR X (compareOp .NotIn) (uNotIn X.K) := by
  intro pins s σ H x y v u Q I rx ry h
  have go : rIn X.K true x y H Q ∨ rNotInD X.K x y H Q → wpAny (model X.prog X.w) X.A (compareOp .NotIn v u) (EP X pins σ Q) X.xe s := fun h => by
    rcases h with h | h
    · exact op_notIn_seq pins s σ H _ _ v u Q I rx ry h
    · exact op_notInD (Room.units65 hr) pins s σ H _ _ v u Q I rx ry h
  cases y with
  | str j =>
    obtain ⟨i, e, q⟩ := h
    exact op_notin_str pins s σ H _ _ v u Q I rx ry ⟨_, _, e, rfl, q⟩
  | _ => exact go h
/-- len -/
def uLen (K : PySem.W.Frag) : List V → Hp → VK → Prop := fun xs H Q => ∃ x n, xs = [x] ∧ LenV K x H n ∧ Q (.int n) H
theorem c_len : CallR X (.builtin "len") (uLen X.K) := call_len
/-- slices -/
def uSl (K : PySem.W.Frag) : V → Option Int → Option Int → Hp → VK → Prop := fun x lo hi H Q => rSlL K x lo hi H Q ∨ rSlA K x lo hi H Q ∨ ∃ z, x = .str z ∧ z.length ≤ sizeLine ∧ Q (.str (cutS z lo hi)) H
theorem sl_any : SlR X (uSl X.K) := sl_list.or (sl_tupA.or sl_str)
/-- a list, a tuple that is walked -/
def uIter (K : PySem.W.Frag) (tl : TE) : TI := fun σ H R => tl σ H fun x H1 => ∃ a, x = .ref a ∧ (((∃ xs, SqL K H1 a xs) ∧ R (Itl K a) H1) ∨ ((∃ xs, SqT K H1 a xs) ∧ R (Itt K a) H1))
theorem pi_any {tg l : Expr} {tl : TE} (hl : PE X l tl) : PI X tg l (uIter X.K tl) := by
  refine ⟨fun pins s σ H R I h => ?_⟩
  refine thn (hl.run pins s σ H _ I h) fun v s1 ⟨x, H1, I1, r1, q1⟩ => ?_
  obtain ⟨a, e, q1⟩ := q1
  subst e
  cases r1
  rcases q1 with ⟨⟨xs, hq⟩, q⟩ | ⟨⟨xs, hq⟩, q⟩
  · obtain ⟨its, rv, p, hz⟩ := I1.list hq
    refine wpAny_pyIter_list p.isList ?_
    refine ⟨s1.heap.objs.size, [s1.heap.objs.size], _, _, H1, rfl, I1.kept (t' := s1.toks) fun b o e => Heap.get?_push_of_some _ e, turn_list a _, ⟨_, Heap.get?_push_size _ rfl, rfl, rfl⟩, fun b hb => ?_, q⟩
    have e : b = s1.heap.objs.size := by simpa using hb
    subst e
    exact I1.fpOk (Nat.le_refl _) (I1.hok.fresh (Nat.le_refl _))
  · obtain ⟨its, rv, p, hz⟩ := I1.tuple hq
    refine wpAny_pyIter_tuple (show s1.heap.IsTuple a its.toArray from p) ?_
    refine ⟨s1.heap.objs.size, [s1.heap.objs.size], _, _, H1, rfl, I1.kept (t' := s1.toks) fun b o e => Heap.get?_push_of_some _ e, turn_tuple a _, ⟨_, Heap.get?_push_size _ rfl, rfl, rfl⟩, fun b hb => ?_, q⟩
    have e : b = s1.heap.objs.size := by simpa using hb
    subst e
    exact I1.fpOk (Nat.le_refl _) (I1.hok.fresh (Nat.le_refl _))
/-- int(x), of a number or a truth -/
def uInt : List V → Hp → VK → Prop := fun xs H Q => match xs with
  | [.int i] => Q (.int i) H
  | [.bl k] => Q (.int (if k then 1 else 0)) H
  | _ => False
theorem c_int : CallR X (.type "int") uInt := by
  intro pins s σ H xs us Q I r h
  unfold uInt at h
  split at h
  · exact call_int1 pins s σ H _ us Q I r (.inl ⟨_, rfl, h⟩)
  · exact call_int1 pins s σ H _ us Q I r (.inr ⟨_, rfl, h⟩)
  · exact h.elim
end

/-! the same with the written part told -/
section
variable (K : PySem.W.Frag) {X : L2.Cx} (h : X.K = K)
include h
theorem k_add : OpR X (binaryOp .Add) (uAdd K) := by subst h; exact o_add
theorem k_eq {k : Nat} (hr : Room k X.A) : OpR X (compareOp .Eq) (uEq K) := by subst h; exact o_eq hr
theorem k_ne {k : Nat} (hr : Room k X.A) : OpR X (compareOp .NotEq) (uNe K) := by subst h; exact o_ne hr
theorem k_in {k : Nat} (hr : Room k X.A) : OpR X (compareOp .In) (uIn K) := by subst h; exact o_in hr
theorem k_notin {k : Nat} (hr : Room k X.A) : OpR X (compareOp .NotIn) (uNotIn K) := by subst h; exact o_notin hr
theorem k_ix : IxR X (rIx K) := by subst h; exact ix_seq
theorem k_len : CallR X (.builtin "len") (uLen K) := by subst h; exact c_len
theorem k_sl : SlR X (uSl K) := by subst h; exact sl_any
theorem k_isi : CallR X (.builtin "isinstance") (rIsi K) := by subst h; exact call_isi
theorem k_all (hc : X.calm = true) : CallR X (.builtin "all") (rAll K) := by subst h; exact cr_all hc
theorem k_any (hc : X.calm = true) : CallR X (.builtin "any") (rAny K) := by subst h; exact cr_any hc
theorem k_sum (hc : X.calm = true) : CallR X (.builtin "sum") (rSum K) := by subst h; exact cr_sum hc
theorem k_max (hc : X.calm = true) : CallR X (.builtin "max") (rMax K) := by subst h; exact cr_max hc
theorem k_min (hc : X.calm = true) : CallR X (.builtin "min") (rMin K) := by subst h; exact cr_min hc
theorem k_sortI : CallR X (.builtin "sorted") (rSortedI K) := by subst h; exact cr_sortedI
theorem k_sortS : CallR X (.builtin "sorted") (rSortedS K) := by subst h; exact cr_sortedS
theorem k_sortPO : CallR X (.builtin "sorted") (rSortedPO K) := by subst h; exact cr_sortedPO
/-- tuple(x), list(x) -/
def uTup (K : PySem.W.Frag) : List V → Hp → VK → Prop := fun xs H Q => ∃ p ys, xs = [.ref p] ∧ ((SqL K H p ys ∧ ∀ l, H l = none → Q (.ref l) (upd H l (.tup ys))) ∨ (SqT K H p ys ∧ Q (.ref p) H))
def uLst (K : PySem.W.Frag) : List V → Hp → VK → Prop := fun xs H Q => ∃ p ys, xs = [.ref p] ∧ (SqL K H p ys ∨ SqT K H p ys) ∧ ∀ l, H l = none → Q (.ref l) (upd H l (.lst ys))
theorem k_tuple : CallR X (.type "tuple") (uTup K) := by subst h; exact call_tuple_of
theorem k_list : CallR X (.type "list") (uLst K) := by subst h; exact call_list_of
theorem k_pi {tg l : Expr} {tl : TE} (hl : PE X l tl) : PI X tg l (uIter K tl) := by subst h; exact pi_any hl
theorem k_zip {e e2 : Expr} {ta : TA} {p pos tpos : Pos} {elts : List Expr} {kk : Nat} (hg : Gl X "zip") (hm : X.mg "zip" = none) (ha : PA X [e, e2] ta)
    (hs : starEach [e, e2] X.env = (false, eval e X.env) :: starEach [e2] X.env := by rfl) (hpl : (backTo pos (starEach [e2] X.env)).any (·.1) = false := by rfl) :
    PI X (.Tuple elts kk tpos) (.Call (.Name "zip" p) [e, e2] [] pos) (RZ.iZipA K ta) := by subst h; exact RZ.pi_zipA hg hm ha hs hpl
theorem k_fld {e : Expr} {f : Str} {ta : TE} {pos : Pos} (he : PE X e ta) (hb : attributeBase e f X.env (eval e X.env) = eval e X.env) : PE X (.Attribute e f pos) (tFld K ta f) := by subst h; exact pe_fld he hb
theorem k_bm0 {o : Expr} {to : TE} {name : Str} {apos cpos : Pos} {T id : String} {r : V → List V → Hp → VK → Prop} (pa : PlainAttrs T) (slot : Slot T name id) (hty : typeOf (.builtin id) = pure (.type "method_descriptor")) (hm : MtR X id r) (ho : PE X o to)
    (hbase : attributeBase o name X.env (eval o X.env) = eval o X.env := by rfl) (hline : (apos.endLine == cpos.line) = true := by rfl) : PE X (.Call (.Attribute o name apos) [] [] cpos) (tBM0 K T r to) := by subst h; exact pe_bm0 pa slot hty hm ho hbase hline
theorem k_bm {o e : Expr} {es : List Expr} {to : TE} {t : TA} {name : Str} {apos cpos : Pos} {T id : String} {r : V → List V → Hp → VK → Prop} (pa : PlainAttrs T) (slot : Slot T name id) (hty : typeOf (.builtin id) = pure (.type "method_descriptor")) (hm : MtR X id r) (ho : PE X o to) (ha : PA X (e :: es) t)
    (hbase : attributeBase o name X.env (eval o X.env) = eval o X.env := by rfl)
    (hfew : ((backTo cpos (starEach (e :: es) X.env)).all (fun x => !x.1) && (backToKw cpos (keywordEach [] X.env)).all (fun x => x.1.isSome)
      && decide ((e :: es).length + ([] : List Keyword).length + (if ([] : List Keyword).isEmpty then 0 else 1) < 30)) = true := by rfl)
    (hline : (apos.endLine == cpos.line) = true := by rfl) (hs : starEach (e :: es) X.env = (false, eval e X.env) :: starEach es X.env := by rfl) (hplain : (backTo cpos (starEach es X.env)).any (·.1) = false := by rfl) :
    PE X (.Call (.Attribute o name apos) (e :: es) [] cpos) (tBM K T r to t) := by subst h; exact pe_bm pa slot hty hm ho ha hbase hfew hline hs hplain
end
end Fl

set_option Elab.async false
set_option linter.all false
set_option maxRecDepth 100000
set_option maxHeartbeats 4000000
/-! steps through readings; heaps; data -/
namespace Fl
open PySem PySem.Spec PyProof.Rows L2

/-! ### steps: each reading is what it says -/
section
variable {σ : L2.St} {H : Hp} {D : Ends} {i : Nat} {v x y : V} {Q : VK} {te ta tb tl th : TE} {t u : TS} {c : TT} {g : TG} {K : PySem.W.Frag} {r : R2}
theorem r_seq (h : t { D with nx := u D } σ H) : tSeq t u D σ H := h
theorem r_set (h : te σ H fun x H1 => D.nx (σ.set i (some x)) H1) : tAsg te (gName i) D σ H := h
theorem r_asg (h : te σ H fun x H1 => g x σ H1 D.nx) : tAsg te g D σ H := h
theorem r_if (h : c σ H fun b H1 => if b = true then t D σ H1 else u D σ H1) : tIfS c t u D σ H := h
theorem r_ret (h : te σ H D.rt) : tRet te D σ H := h
theorem r_retN (h : D.rt .non H) : tRetN D σ H := h
theorem r_next (h : D.nx σ H) : tNext D σ H := h
theorem r_brk (h : D.bk σ H) : tBreak D σ H := h
theorem r_cont (h : D.ct σ H) : tCont D σ H := h
theorem r_drop (h : te σ H fun _ H1 => D.nx σ H1) : tDrop te D σ H := h
theorem r_var (e : σ[i]? = some (some v)) (h : Q v H) : tVar i σ H Q := ⟨v, e, h⟩
theorem r_c (h : Q v H) : tC v σ H Q := h
theorem r_op (h : ta σ H fun x H1 => tb σ H1 fun y H2 => r x y H2 Q) : tOp r ta tb σ H Q := h
theorem r_un {r : V → Hp → VK → Prop} (h : ta σ H fun x H1 => r x H1 Q) : tUn r ta σ H Q := h
theorem r_chain {r r' : R2} {tc : TE} (h : ta σ H fun x H1 => tb σ H1 fun y H2 => r x y H2 fun z H3 => ∃ k, z = .bl k ∧ if k = true then tc σ H3 fun w H4 => r' y w H4 Q else Q (.bl false) H3) : tChain r r' ta tb tc σ H Q := h
theorem r_test {Q : Bool → Hp → Prop} (h : te σ H fun x H' => ∃ k, x = .bl k ∧ Q k H') : tTest te σ H Q := h
theorem r_tB {Q : Bool → Hp → Prop} (h : te σ H fun x H1 => ∃ c, x = .bl c ∧ Q c H1) : tB te σ H Q := h
theorem r_and {t u : TT} {Q : Bool → Hp → Prop} (h : t σ H fun c H1 => if c = true then u σ H1 Q else Q false H1) : tAnd t u σ H Q := h
theorem r_or {t u : TT} {Q : Bool → Hp → Prop} (h : t σ H fun c H1 => if c = true then Q true H1 else u σ H1 Q) : tOr t u σ H Q := h
theorem r_not {t : TT} {Q : Bool → Hp → Prop} (h : t σ H fun c H1 => Q (!c) H1) : tNot t σ H Q := h
theorem r_andV (h : ta σ H fun x H1 => ∃ c, x = .bl c ∧ if c = true then tb σ H1 Q else Q (.bl false) H1) : tAndV ta tb σ H Q := h
theorem r_orV (h : ta σ H fun x H1 => ∃ c, x = .bl c ∧ if c = true then Q (.bl true) H1 else tb σ H1 Q) : tOrV ta tb σ H Q := h
theorem r_notV (h : ta σ H fun x H1 => ∃ c, x = .bl c ∧ Q (.bl (!c)) H1) : tNotV ta σ H Q := h
theorem r_ifE {t : TT} (h : t σ H fun c H1 => if c = true then ta σ H1 Q else tb σ H1 Q) : tIf t ta tb σ H Q := h
theorem r_nil {Q : List V → Hp → Prop} (h : Q [] H) : tNil σ H Q := h
theorem r_cons {tr : TA} {Q : List V → Hp → Prop} (h : te σ H fun x H1 => tr σ H1 fun xs H2 => Q (x :: xs) H2) : tCons te tr σ H Q := h
theorem r_cb {r : List V → Hp → VK → Prop} {a : TA} (h : a σ H fun vs H1 => r vs H1 Q) : tCB r a σ H Q := h
theorem r_own {sp : Sp} {E : XK} {a : TA} (h : a σ H fun vs H1 => sp vs H1 Q E) : tCallO sp E a σ H Q := h
theorem r_tup {a : TA} (h : a σ H fun xs H1 => xs.length ≤ sizeLine ∧ ∀ p, H1 p = none → Q (.ref p) (upd H1 p (.tup xs))) : tTup a σ H Q := h
theorem r_lst {a : TA} (h : a σ H fun xs H1 => xs.length ≤ sizeLine ∧ ∀ p, H1 p = none → Q (.ref p) (upd H1 p (.lst xs))) : tLst a σ H Q := h
theorem r_sl {r : V → Option Int → Option Int → Hp → VK → Prop} {a b : TO} (h : te σ H fun x H1 => a σ H1 fun l H2 => b σ H2 fun u H3 => r x l u H3 Q) : tSl r te a b σ H Q := h
theorem r_noPart {Q : Option Int → Hp → Prop} (h : Q none H) : tNoPart σ H Q := h
theorem r_part {Q : Option Int → Hp → Prop} (h : te σ H fun x H1 => ∃ i, x = .int i ∧ Q (some i) H1) : tPart te σ H Q := h
theorem r_bm {T : String} {r : V → List V → Hp → VK → Prop} {a : TA} (h : ta σ H fun x H1 => tyV K T x H1 ∧ a σ H1 fun xs H2 => r x xs H2 Q) : tBM K T r ta a σ H Q := h
theorem r_bm0 {T : String} {r : V → List V → Hp → VK → Prop} (h : ta σ H fun x H1 => tyV K T x H1 ∧ r x [] H1 Q) : tBM0 K T r ta σ H Q := h
-- the operators
theorem q_addI {i j : Int} (h : Q (.int (i + j)) H) : uAdd K (.int i) (.int j) H Q := h
theorem q_addS {i j : Str} (l : i.length + j.length ≤ sizeLine) (h : Q (.str (i ++ j)) H) : uAdd K (.str i) (.str j) H Q := ⟨l, h⟩
theorem q_addL {a b : Addr} {xs zs : List V} (ha : H a = some (.lst xs)) (hb : H b = some (.lst zs)) (l : xs.length + zs.length ≤ sizeLine) (h : ∀ p, H p = none → Q (.ref p) (upd H p (.lst (xs ++ zs)))) : uAdd K (.ref a) (.ref b) H Q :=
  .inl ⟨a, b, xs, zs, rfl, rfl, ha, hb, l, h⟩
theorem q_addT {a b : Addr} {xs zs : List V} (ha : H a = some (.tup xs)) (hb : H b = some (.tup zs)) (l : xs.length + zs.length ≤ sizeLine) (h0 : xs = [] → Q (.ref b) H) (h1 : xs ≠ [] → zs = [] → Q (.ref a) H)
    (h : xs ≠ [] → zs ≠ [] → ∀ p, H p = none → Q (.ref p) (upd H p (.tup (xs ++ zs)))) : uAdd K (.ref a) (.ref b) H Q :=
  .inr ⟨a, b, xs, zs, rfl, rfl, .of ha, .of hb, l, h0, h1, h⟩
theorem q_sub {i j : Int} (h : Q (.int (i - j)) H) : uSub (.int i) (.int j) H Q := h
theorem q_mul {i j : Int} (l : CMul i j) (h : Q (.int (i * j)) H) : uMul (.int i) (.int j) H Q := ⟨l, h⟩
theorem q_div {i j : Int} (l : CDiv i j) (h : Q (.int (i / j)) H) : uDiv (.int i) (.int j) H Q := ⟨l, h⟩
theorem q_mod {i j : Int} (l : 0 < j) (h : Q (.int (i % j)) H) : uMod (.int i) (.int j) H Q := ⟨l, h⟩
theorem q_pow {i j : Int} (l : CPow i j) (h : Q (.int (i ^ j.toNat)) H) : uPow (.int i) (.int j) H Q := ⟨l, h⟩
theorem q_neg {i : Int} (h : Q (.int (-i)) H) : uNeg (.int i) H Q := h
theorem q_cmp {p : Int → Int → Bool} {i j : Int} (h : Q (.bl (p i j)) H) : uCmp p (.int i) (.int j) H Q := h
theorem q_eq (l : scal x y = true) (h : Q (.bl (decide (x = y))) H) : uEq K x y H Q := .inl ⟨l, h⟩
theorem q_ne (l : scal x y = true) (h : Q (.bl (!decide (x = y))) H) : uNe K x y H Q := .inl ⟨l, h⟩
theorem q_ixL {a : Addr} {xs : List V} {i : Int} (ha : H a = some (.lst xs)) (e : atI xs i = some v) (h : Q v H) : rIx K (.ref a) (.int i) H Q := .inl ⟨a, xs, i, v, rfl, rfl, .of ha, e, h⟩
theorem q_ixT {a : Addr} {xs : List V} {i : Int} (ha : H a = some (.tup xs)) (e : atI xs i = some v) (h : Q v H) : rIx K (.ref a) (.int i) H Q := .inr (.inl ⟨a, xs, i, v, rfl, rfl, .of ha, e, h⟩)
theorem q_ixS {z : Str} {i : Int} {c : Nat} (l : z.length ≤ sizeLine) (e : atI z.cps.toList i = some c) (h : Q (.str ⟨#[c]⟩) H) : rIx K (.str z) (.int i) H Q := .inr (.inr ⟨z, i, c, rfl, rfl, l, e, h⟩)
theorem q_lenL {a : Addr} {xs : List V} (ha : H a = some (.lst xs)) (h : Q (.int xs.length) H) : uLen K [.ref a] H Q := ⟨_, _, rfl, .inl ⟨_, .of ha, rfl⟩, h⟩
theorem q_lenT {a : Addr} {xs : List V} (ha : H a = some (.tup xs)) (h : Q (.int xs.length) H) : uLen K [.ref a] H Q := ⟨_, _, rfl, .inr ⟨_, .of ha, rfl⟩, h⟩
theorem q_lenS {z : Str} (l : z.length ≤ sizeLine) (h : Q (.int z.length) H) : uLen K [.str z] H Q := ⟨_, _, rfl, ⟨l, rfl⟩, h⟩
theorem q_intI {i : Int} (h : Q (.int i) H) : uInt [.int i] H Q := h
theorem q_intB {k : Bool} (h : Q (.int (if k then 1 else 0)) H) : uInt [.bl k] H Q := h
theorem q_isi {T T' : String} {b : Bool} (t : TyX K H x (.type T)) (e : kitB T T' = some b) (h : Q (.bl b) H) : rIsi K [x, .ty T'] H Q := ⟨x, .ty T', .type T, .type T', b, rfl, .ty _, t, kit_ty e, h⟩
-- ifs whose answer is known
theorem if_t {b : Bool} {A B : Prop} (e : b = true) (h : A) : if b = true then A else B := by rw [if_pos e]; exact h
theorem if_f {b : Bool} {A B : Prop} (e : b = false) (h : B) : if b = true then A else B := by rw [e]; exact iteF h
theorem if_dt {p : Prop} [Decidable p] {A B : Prop} (e : p) (h : A) : if decide p = true then A else B := by rw [decide_eq_true e]; exact iteT h
theorem if_df {p : Prop} [Decidable p] {A B : Prop} (e : ¬ p) (h : B) : if decide p = true then A else B := by rw [decide_eq_false e]; exact iteF h
theorem if_nt {p : Prop} [Decidable p] {A B : Prop} (e : ¬ p) (h : A) : if (!decide p) = true then A else B := by rw [decide_eq_false e]; exact iteT h
theorem if_nf {p : Prop} [Decidable p] {A B : Prop} (e : p) (h : B) : if (!decide p) = true then A else B := by rw [decide_eq_true e]; exact iteF h
/-- both ways of a test -/
theorem if_d {p : Prop} [Decidable p] {A B : Prop} (h1 : p → A) (h2 : ¬ p → B) : if decide p = true then A else B := by
  by_cases e : p
  · exact if_dt e (h1 e)
  · exact if_df e (h2 e)
theorem if_n {p : Prop} [Decidable p] {A B : Prop} (h1 : ¬ p → A) (h2 : p → B) : if (!decide p) = true then A else B := by
  by_cases e : p
  · exact if_nf e (h2 e)
  · exact if_nt e (h1 e)
theorem if_b {b : Bool} {A B : Prop} (h1 : b = true → A) (h2 : b = false → B) : if b = true then A else B := by
  cases b with
  | true => exact iteT (h1 rfl)
  | false => exact iteF (h2 rfl)
end
/-- the slots at the entry, written out -/
theorem go_start {t : TS} {D : Ends} {σ σ0 : L2.St} {H : Hp} (e : σ = σ0) (h : t D σ0 H) : t D σ H := by rw [e]; exact h
theorem small_of {n : Nat} (h : n ≤ 100000) : n ≤ sizeLine := Nat.le_trans h (by decide)
theorem small_lt {n : Nat} (h : n < 100000) : n < sizeLine := Nat.lt_of_lt_of_le h (by decide)

/-! ### heaps that grow -/
theorem Same.new {H H1 : Hp} {p : Addr} {o : HO} (e : Same H H1) (h : H1 p = none) : Same H (upd H1 p o) := fun b u q => by
  have q' := e b u q
  rw [upd_ne (ne_of_none q' h)]
  exact q'
theorem Same.mut {H H1 : Hp} {p : Addr} {o : HO} (e : Same H H1) (h : H p = none) : Same H (upd H1 p o) := fun b u q => by
  rw [upd_ne (ne_of_none q h)]
  exact e b u q
/-- all but the list at s stands; there stands a list of one number -/
structure Gs (s : Addr) (H H' : Hp) : Prop where
  keep : ∀ b o, b ≠ s → H b = some o → H' b = some o
  st : ∃ y : Int, H' s = some (.lst [.int y])
theorem Gs.trans {s : Addr} {H H1 H2 : Hp} (a : Gs s H H1) (b : Gs s H1 H2) : Gs s H H2 := ⟨fun c o n h => b.keep c o n (a.keep c o n h), b.st⟩
theorem Gs.refl {s : Addr} {H : Hp} {y : Int} (h : H s = some (.lst [.int y])) : Gs s H H := ⟨fun _ _ _ q => q, y, h⟩
theorem Gs.put {s : Addr} {H : Hp} {y : Int} : Gs s H (upd H s (.lst [.int y])) := ⟨fun b o n q => by rw [upd_ne n]; exact q, y, upd_same⟩
theorem Gs.same {s : Addr} {H H1 : Hp} {y : Int} (h : H s = some (.lst [.int y])) (e : Same H H1) : Gs s H H1 := ⟨fun b o _ q => e b o q, y, e _ _ h⟩
theorem Gs.new {s : Addr} {H H1 : Hp} {p : Addr} {o : HO} (e : Gs s H H1) (h : H1 p = none) : Gs s H (upd H1 p o) := ⟨fun b u n q => by
  have q' := e.keep b u n q
  rw [upd_ne (ne_of_none q' h)]
  exact q', by
  obtain ⟨y, q⟩ := e.st
  exact ⟨y, by rw [upd_ne (ne_of_none q h)]; exact q⟩⟩
theorem Gs.then {s : Addr} {H H1 H2 : Hp} (a : Gs s H H1) (b : Same H1 H2) : Gs s H H2 := by
  obtain ⟨y, q⟩ := a.st
  exact a.trans (.same q b)
theorem Gs.mut {s : Addr} {H H1 : Hp} {p : Addr} {o : HO} (e : Gs s H H1) (h : H p = none) (n : s ≠ p) : Gs s H (upd H1 p o) := ⟨fun b u nb q => by
  rw [upd_ne (ne_of_none q h)]
  exact e.keep b u nb q, by
  obtain ⟨y, q⟩ := e.st
  exact ⟨y, by rw [upd_ne n]; exact q⟩⟩
theorem Gs.free {s : Addr} {H H' : Hp} {l : Addr} (e : Gs s H H') (n : l ≠ s) (h : H' l = none) : H l = none := by
  cases q : H l with
  | none => rfl
  | some o =>
    rw [e.keep l o n q] at h
    cases h

/-! ### data -/
mutual
/-- the value v bears the data d (tuples and lists that are tracked; no list of it is of one number) -/
def At (H : Hp) : PyData → V → Prop
  | .none, v => v = .non
  | .bool b, v => v = .bl b
  | .int i, v => v = .int i
  | .str s, v => v = .str s
  | .list ds, v => ∃ a vs, v = .ref a ∧ H a = some (.lst vs) ∧ (∀ x, vs ≠ [.int x]) ∧ AtAll H ds vs
  | .tuple ds, v => ∃ a vs, v = .ref a ∧ H a = some (.tup vs) ∧ AtAll H ds vs
  | .dict _, _ => False
def AtAll (H : Hp) : List PyData → List V → Prop
  | [], vs => vs = []
  | d :: ds, vs => ∃ v r, vs = v :: r ∧ At H d v ∧ AtAll H ds r
end
/-- what data leans on stays -/
def Le (H H' : Hp) : Prop := ∀ b o, H b = some o → (∀ x, o ≠ .lst [.int x]) → H' b = some o
theorem Le.refl (H : Hp) : Le H H := fun _ _ q _ => q
theorem Le.trans {H H1 H2 : Hp} (a : Le H H1) (b : Le H1 H2) : Le H H2 := fun c o h n => b c o (a c o h n) n
theorem Same.le {H H' : Hp} (e : Same H H') : Le H H' := fun b o q _ => e b o q
theorem Gs.le {s : Addr} {H H' : Hp} {x : Int} (h : H s = some (.lst [.int x])) (e : Gs s H H') : Le H H' := fun b o q n => e.keep b o (fun z => by
  subst z
  rw [h] at q
  exact n x (Option.some.inj q).symm) q
theorem Le.new {H H1 : Hp} {p : Addr} {o : HO} (e : Le H H1) (h : H1 p = none) : Le H (upd H1 p o) := fun b u q n => by
  have q' := e b u q n
  rw [upd_ne (ne_of_none q' h)]
  exact q'
theorem Le.mut {H H1 : Hp} {p : Addr} {o : HO} (e : Le H H1) (h : H p = none) : Le H (upd H1 p o) := fun b u q n => by
  rw [upd_ne (ne_of_none q h)]
  exact e b u q n
theorem Le.put {H H1 : Hp} {p : Addr} {o : HO} {x : Int} (e : Le H H1) (h : H1 p = some (.lst [.int x])) : Le H (upd H1 p o) := fun b u q n => by
  have q' := e b u q n
  have ne : b ≠ p := fun z => by
    subst z
    rw [h] at q'
    exact n x (Option.some.inj q').symm
  rw [upd_ne ne]
  exact q'
mutual
theorem At.le {H H' : Hp} (e : Le H H') : ∀ {d : PyData} {v : V}, At H d v → At H' d v
  | .none, _, h => h
  | .bool _, _, h => h
  | .int _, _, h => h
  | .str _, _, h => h
  | .list _, _, ⟨a, vs, q, h, n, r⟩ => ⟨a, vs, q, e _ _ h (fun x z => n x (by injection z)), n, AtAll.le e r⟩
  | .tuple _, _, ⟨a, vs, q, h, r⟩ => ⟨a, vs, q, e _ _ h (fun x z => by cases z), AtAll.le e r⟩
  | .dict _, _, h => h
theorem AtAll.le {H H' : Hp} (e : Le H H') : ∀ {ds : List PyData} {vs : List V}, AtAll H ds vs → AtAll H' ds vs
  | [], _, h => h
  | _ :: _, _, ⟨v, r, q, h, t⟩ => ⟨v, r, q, At.le e h, AtAll.le e t⟩
end
mutual
theorem At.dp {K : PySem.W.Frag} {H : Hp} : ∀ {d : PyData} {v : V}, At H d v → Dp K H v d
  | .none, _, h => by cases (show _ = _ from h); exact .non
  | .bool _, _, h => by cases (show _ = _ from h); exact .bl _
  | .int _, _, h => by cases (show _ = _ from h); exact .int _
  | .str _, _, h => by cases (show _ = _ from h); exact .str _
  | .list _, _, ⟨a, vs, q, h, n, r⟩ => by subst q; exact .lst (.of h) (AtAll.dp r)
  | .tuple _, _, ⟨a, vs, q, h, r⟩ => by subst q; exact .tup (.of h) (AtAll.dp r)
  | .dict _, _, h => h.elim
theorem AtAll.dp {K : PySem.W.Frag} {H : Hp} : ∀ {ds : List PyData} {vs : List V}, AtAll H ds vs → DpAll K H vs ds
  | [], _, h => by cases (show _ = _ from h); exact .nil
  | _ :: _, _, ⟨v, r, q, h, t⟩ => by subst q; exact .cons (At.dp h) (AtAll.dp t)
end
theorem AtAll.length {H : Hp} : ∀ {ds : List PyData} {vs : List V}, AtAll H ds vs → vs.length = ds.length
  | [], _, h => by rw [show _ = _ from h]; rfl
  | _ :: _, _, ⟨v, r, q, _, t⟩ => by rw [q, List.length_cons, List.length_cons, AtAll.length t]
theorem AtAll.get {H : Hp} : ∀ {ds : List PyData} {vs : List V} {i : Nat} {d : PyData}, AtAll H ds vs → ds[i]? = some d → ∃ v, vs[i]? = some v ∧ At H d v
  | [], _, _, _, _, e => by simp at e
  | _ :: _, _, 0, _, ⟨v, r, q, h, t⟩, e => by
    have e := Option.some.inj e
    subst e q
    exact ⟨v, rfl, h⟩
  | _ :: _, _, i + 1, _, ⟨v, r, q, h, t⟩, e => by
    subst q
    obtain ⟨w, h1, h2⟩ := AtAll.get (i := i) t (by simpa using e)
    exact ⟨w, by simpa using h1, h2⟩
theorem AtAll.ix {H : Hp} : ∀ {ds : List PyData} {vs : List V} {i : Nat} {v : V}, AtAll H ds vs → vs[i]? = some v → ∃ d, ds[i]? = some d ∧ At H d v
  | [], _, _, _, h, e => by rw [show _ = _ from h] at e; simp at e
  | d :: _, _, 0, _, ⟨v, r, q, h, t⟩, e => by
    subst q
    have e := Option.some.inj e
    subst e
    exact ⟨d, rfl, h⟩
  | _ :: _, _, i + 1, _, ⟨v, r, q, h, t⟩, e => by
    subst q
    obtain ⟨w, h1, h2⟩ := AtAll.ix (i := i) t (by simpa using e)
    exact ⟨w, by simpa using h1, h2⟩
theorem AtAll.append {H : Hp} : ∀ {ds es : List PyData} {vs ws : List V}, AtAll H ds vs → AtAll H es ws → AtAll H (ds ++ es) (vs ++ ws)
  | [], _, _, _, h, k => by rw [show _ = _ from h]; exact k
  | _ :: _, _, _, _, ⟨v, r, q, h, t⟩, k => by subst q; exact ⟨v, _, rfl, h, AtAll.append t k⟩
theorem AtAll.one {H : Hp} {d : PyData} {v : V} (h : At H d v) : AtAll H [d] [v] := ⟨v, [], rfl, h, rfl⟩
theorem AtAll.take {H : Hp} : ∀ {ds : List PyData} {vs : List V} (n : Nat), AtAll H ds vs → AtAll H (ds.take n) (vs.take n)
  | [], _, n, h => by rw [show _ = _ from h]; simp; exact rfl
  | _ :: _, _, 0, _ => rfl
  | _ :: _, _, n + 1, ⟨v, r, q, h, t⟩ => by subst q; exact ⟨v, _, rfl, h, AtAll.take n t⟩
theorem AtAll.drop {H : Hp} : ∀ {ds : List PyData} {vs : List V} (n : Nat), AtAll H ds vs → AtAll H (ds.drop n) (vs.drop n)
  | _, _, 0, h => h
  | [], _, n + 1, h => by rw [show _ = _ from h]; simp; exact rfl
  | _ :: _, _, n + 1, ⟨v, r, q, h, t⟩ => by subst q; exact AtAll.drop n t

theorem AtAll.ex1 {H : Hp} {ds : List PyData} {vs : List V} (h : AtAll H ds vs) (l : vs.length = 1) : ∃ d0 v0, ds = [d0] ∧ vs = [v0] ∧ At H d0 v0 := by
  match ds, h with
  | [], h => rw [show _ = _ from h] at l; cases l
  | [d0], ⟨v0, r, q, h0, h1⟩ => rw [show _ = _ from h1] at q; exact ⟨d0, v0, rfl, q, h0⟩
  | _ :: _ :: _, ⟨v0, r, q, h0, ⟨v1, r1, q1, _, _⟩⟩ => subst q1 q; simp at l
theorem AtAll.ex2 {H : Hp} {ds : List PyData} {vs : List V} (h : AtAll H ds vs) (l : vs.length = 2) : ∃ d0 d1 v0 v1, ds = [d0, d1] ∧ vs = [v0, v1] ∧ At H d0 v0 ∧ At H d1 v1 := by
  match ds, h with
  | [], h => rw [show _ = _ from h] at l; cases l
  | d0 :: r, ⟨v0, r', q, h0, h1⟩ =>
    subst q
    obtain ⟨d1, v1, e1, e2, h2⟩ := AtAll.ex1 h1 (by simpa using l)
    subst e1 e2
    exact ⟨d0, d1, v0, v1, rfl, rfl, h0, h2⟩
theorem AtAll.ex3 {H : Hp} {ds : List PyData} {vs : List V} (h : AtAll H ds vs) (l : vs.length = 3) : ∃ d0 d1 d2 v0 v1 v2, ds = [d0, d1, d2] ∧ vs = [v0, v1, v2] ∧ At H d0 v0 ∧ At H d1 v1 ∧ At H d2 v2 := by
  match ds, h with
  | [], h => rw [show _ = _ from h] at l; cases l
  | d0 :: r, ⟨v0, r', q, h0, h1⟩ =>
    subst q
    obtain ⟨d1, d2, v1, v2, e1, e2, h2, h3⟩ := AtAll.ex2 h1 (by simpa using l)
    subst e1 e2
    exact ⟨d0, d1, d2, v0, v1, v2, rfl, rfl, h0, h2, h3⟩
theorem AtAll.ex4 {H : Hp} {ds : List PyData} {vs : List V} (h : AtAll H ds vs) (l : vs.length = 4) : ∃ d0 d1 d2 d3 v0 v1 v2 v3, ds = [d0, d1, d2, d3] ∧ vs = [v0, v1, v2, v3] ∧ At H d0 v0 ∧ At H d1 v1 ∧ At H d2 v2 ∧ At H d3 v3 := by
  match ds, h with
  | [], h => rw [show _ = _ from h] at l; cases l
  | d0 :: r, ⟨v0, r', q, h0, h1⟩ =>
    subst q
    obtain ⟨d1, d2, d3, v1, v2, v3, e1, e2, h2, h3, h4⟩ := AtAll.ex3 h1 (by simpa using l)
    subst e1 e2
    exact ⟨d0, d1, d2, d3, v0, v1, v2, v3, rfl, rfl, h0, h2, h3, h4⟩
theorem decInt {i j : Int} : decide (V.int i = V.int j) = decide (i = j) := by
  by_cases e : i = j
  · subst e; simp
  · rw [decide_eq_false e, decide_eq_false (fun z => e (V.int.inj z))]
/-- plain values by themselves -/
theorem q_eqI {K : PySem.W.Frag} {H : Hp} {i j : Int} {Q : VK} (h : Q (.bl (decide (i = j))) H) : uEq K (.int i) (.int j) H Q := q_eq rfl (by rw [decInt]; exact h)
theorem q_neI {K : PySem.W.Frag} {H : Hp} {i j : Int} {Q : VK} (h : Q (.bl (!decide (i = j))) H) : uNe K (.int i) (.int j) H Q := q_ne rfl (by rw [decInt]; exact h)

theorem at1 {H : Hp} {a : Addr} {d0 : PyData} {v0 : V} (h : H a = some (.tup [v0])) (h0 : At H d0 v0) : At H (.tuple [d0]) (.ref a) := ⟨a, _, rfl, h, _, _, rfl, h0, rfl⟩
theorem at2 {H : Hp} {a : Addr} {d0 d1 : PyData} {v0 v1 : V} (h : H a = some (.tup [v0, v1])) (h0 : At H d0 v0) (h1 : At H d1 v1) : At H (.tuple [d0, d1]) (.ref a) := ⟨a, _, rfl, h, _, _, rfl, h0, _, _, rfl, h1, rfl⟩
theorem at3 {H : Hp} {a : Addr} {d0 d1 d2 : PyData} {v0 v1 v2 : V} (h : H a = some (.tup [v0, v1, v2])) (h0 : At H d0 v0) (h1 : At H d1 v1) (h2 : At H d2 v2) : At H (.tuple [d0, d1, d2]) (.ref a) := ⟨a, _, rfl, h, _, _, rfl, h0, _, _, rfl, h1, _, _, rfl, h2, rfl⟩
theorem at4 {H : Hp} {a : Addr} {d0 d1 d2 d3 : PyData} {v0 v1 v2 v3 : V} (h : H a = some (.tup [v0, v1, v2, v3])) (h0 : At H d0 v0) (h1 : At H d1 v1) (h2 : At H d2 v2) (h3 : At H d3 v3) : At H (.tuple [d0, d1, d2, d3]) (.ref a) := ⟨a, _, rfl, h, _, _, rfl, h0, _, _, rfl, h1, _, _, rfl, h2, _, _, rfl, h3, rfl⟩
/-! data of tuples alone -/
mutual
def tupOnly : PyData → Bool
  | .list _ => false
  | .tuple ds => tupsOnly ds
  | _ => true
def tupsOnly : List PyData → Bool
  | [] => true
  | d :: ds => tupOnly d && tupsOnly ds
end
def LeT (H H' : Hp) : Prop := ∀ b xs, H b = some (.tup xs) → H' b = some (.tup xs)
theorem LeT.refl (H : Hp) : LeT H H := fun _ _ q => q
theorem LeT.trans {H H1 H2 : Hp} (a : LeT H H1) (b : LeT H1 H2) : LeT H H2 := fun c o h => b c o (a c o h)
theorem Le.let {H H' : Hp} (e : Le H H') : LeT H H' := fun b xs q => e b _ q (fun x z => by cases z)
mutual
theorem At.leT {H H' : Hp} (e : LeT H H') : ∀ {d : PyData} {v : V}, tupOnly d = true → At H d v → At H' d v
  | .none, _, _, h => h
  | .bool _, _, _, h => h
  | .int _, _, _, h => h
  | .str _, _, _, h => h
  | .list _, _, t, _ => by simp [tupOnly] at t
  | .tuple ds, _, t, ⟨a, vs, q, h, r⟩ => ⟨a, vs, q, e _ _ h, AtAll.leT e (by simpa [tupOnly] using t) r⟩
  | .dict _, _, _, h => h
theorem AtAll.leT {H H' : Hp} (e : LeT H H') : ∀ {ds : List PyData} {vs : List V}, tupsOnly ds = true → AtAll H ds vs → AtAll H' ds vs
  | [], _, _, h => h
  | d :: ds, _, t, ⟨v, r, q, h, k⟩ => by
    have t' : tupOnly d = true ∧ tupsOnly ds = true := by simpa [tupsOnly] using t
    exact ⟨v, r, q, At.leT e t'.1 h, AtAll.leT e t'.2 k⟩
end
theorem tupsOnly_all : ∀ {ds : List PyData}, (∀ d ∈ ds, tupOnly d = true) → tupsOnly ds = true
  | [], _ => rfl
  | d :: ds, h => by
    show (tupOnly d && tupsOnly ds) = true
    rw [h d (by simp), tupsOnly_all fun x hx => h x (by simp [hx])]
    rfl
theorem LeT.new1 {H H1 : Hp} {p : Addr} {o : HO} (h : H1 p = none) (e : LeT H H1) : LeT H (upd H1 p o) := fun b xs q => by
  have q' := e b xs q
  rw [upd_ne (ne_of_none q' h)]
  exact q'
theorem LeT.same1 {H H1 H2 : Hp} (b : Same H1 H2) (a : LeT H H1) : LeT H H2 := a.trans (Same.le b).let
theorem LeT.gs1 {s : Addr} {x : Int} {H H1 H2 : Hp} (b : Gs s H1 H2) (h : H1 s = some (.lst [.int x])) (a : LeT H H1) : LeT H H2 := a.trans (b.le h).let
theorem LeT.put1 {H H1 : Hp} {p : Addr} {o : HO} {xs : List V} (h : H1 p = some (.lst xs)) (e : LeT H H1) : LeT H (upd H1 p o) := fun b ys q => by
  have q' := e b ys q
  rw [upd_ne (ne_of q' h (fun z => by cases z))]
  exact q'
/-! the same with what is sought first ahead -/
theorem hp_ne {H : Hp} {a b : Addr} {o u : HO} (n : b ≠ a) (h : H b = some u) : upd H a o b = some u := (upd_ne n).trans h
theorem hp_new {H : Hp} {a b : Addr} {o u : HO} (n : H a = none) (h : H b = some u) : upd H a o b = some u := (upd_ne (ne_of_none h n)).trans h
theorem hp_put {H : Hp} {a b : Addr} {o u : HO} (_ : H a = none ∨ True) (n : b ≠ a) (h : H b = some u) : upd H a o b = some u := (upd_ne n).trans h
theorem hp_same {H H' : Hp} {b : Addr} {u : HO} (e : Same H H') (h : H b = some u) : H' b = some u := e _ _ h
theorem hp_gs {s : Addr} {H H' : Hp} {b : Addr} {u : HO} (e : Gs s H H') (n : b ≠ s) (h : H b = some u) : H' b = some u := e.keep _ _ n h
theorem at_int {H : Hp} {i : Int} : At H (.int i) (.int i) := rfl
theorem at_bl {H : Hp} {i : Bool} : At H (.bool i) (.bl i) := rfl
theorem at_str {H : Hp} {i : Str} : At H (.str i) (.str i) := rfl
theorem at_non {H : Hp} : At H .none .non := rfl
theorem ne1 {H : Hp} {a b : Addr} {o : HO} (h' : H b = none) (h : H a = some o) : a ≠ b := ne_of_none h h'
theorem ne2 {H : Hp} {a b : Addr} {o : HO} (h' : H b = none) (h : H a = some o) : b ≠ a := (ne_of_none h h').symm
theorem At.le1 {H H' : Hp} {d : PyData} {v : V} (h : At H d v) (e : Le H H') : At H' d v := h.le e
theorem AtAll.le1 {H H' : Hp} {d : List PyData} {v : List V} (h : AtAll H d v) (e : Le H H') : AtAll H' d v := h.le e
theorem Same.free1 {H H' : Hp} {l : Addr} (h : H' l = none) (e : Same H H') : H l = none := L2.Same.free e h
theorem Same.new1 {H H1 : Hp} {p : Addr} {o : HO} (h : H1 p = none) (e : Same H H1) : Same H (upd H1 p o) := Same.new e h
theorem Same.trans1 {H H1 H2 : Hp} (b : Same H1 H2) (a : Same H H1) : Same H H2 := L2.Same.trans a b
theorem Gs.new1 {s : Addr} {H H1 : Hp} {p : Addr} {o : HO} (h : H1 p = none) (e : Gs s H H1) : Gs s H (upd H1 p o) := e.new h
theorem Gs.free1 {s : Addr} {H H' : Hp} {l : Addr} (h : H' l = none) (e : Gs s H H') (n : l ≠ s) : H l = none := e.free n h
theorem Gs.mut1 {s : Addr} {H H1 : Hp} {p : Addr} {o : HO} (h : H p = none) (n : s ≠ p) (e : Gs s H H1) : Gs s H (upd H1 p o) := e.mut h n
theorem Gs.trans1 {s : Addr} {H H1 H2 : Hp} (b : Gs s H1 H2) (a : Gs s H H1) : Gs s H H2 := a.trans b
theorem Gs.then1 {s : Addr} {H H1 H2 : Hp} (b : Same H1 H2) (a : Gs s H H1) : Gs s H H2 := a.then b
theorem Gs.put1 {s : Addr} {H H1 : Hp} {y : Int} (a : Gs s H H1) : Gs s H (upd H1 s (.lst [.int y])) := a.trans .put
theorem Le.new1 {H H1 : Hp} {p : Addr} {o : HO} (h : H1 p = none) (e : Le H H1) : Le H (upd H1 p o) := e.new h
theorem Le.same1 {H H1 H2 : Hp} (b : Same H1 H2) (a : Le H H1) : Le H H2 := a.trans (Same.le b)
theorem Le.gs1 {s : Addr} {x : Int} {H H1 H2 : Hp} (b : Gs s H1 H2) (h : H1 s = some (.lst [.int x])) (a : Le H H1) : Le H H2 := a.trans (b.le h)
theorem Le.put1 {H H1 : Hp} {p : Addr} {o : HO} {x : Int} (h : H1 p = some (.lst [.int x])) (e : Le H H1) : Le H (upd H1 p o) := e.put h

/-- the type of data -/
def tyOf : PyData → String
  | .none => "NoneType"
  | .bool _ => "bool"
  | .int _ => "int"
  | .str _ => "str"
  | .list _ => "list"
  | .tuple _ => "tuple"
  | .dict _ => "dict"
theorem At.ty {K : PySem.W.Frag} {H : Hp} {d : PyData} {v : V} (h : At H d v) : TyX K H v (.type (tyOf d)) := by
  cases d with
  | none => cases (show _ = _ from h); exact .base .non
  | bool b => cases (show _ = _ from h); exact .base (.bl _)
  | int i => cases (show _ = _ from h); exact .base (.int _)
  | str s => cases (show _ = _ from h); exact .base (.str _)
  | list ds => obtain ⟨a, vs, q, h, n, r⟩ := h; subst q; exact .base (.lst h)
  | tuple ds => obtain ⟨a, vs, q, h, r⟩ := h; subst q; exact .base (.tup h)
  | dict _ => exact h.elim

/-! ### isinstance of data -/
def isIntD : PyData → Bool
  | .int _ => true
  | .bool _ => true
  | _ => false
def isBoolD : PyData → Bool
  | .bool _ => true
  | _ => false
def isTupD : PyData → Bool
  | .tuple _ => true
  | _ => false
def isStrD : PyData → Bool
  | .str _ => true
  | _ => false
def isLstD : PyData → Bool
  | .list _ => true
  | _ => false
theorem kb_int : ∀ d : PyData, (∀ k, d ≠ .dict k) → kitB (tyOf d) "int" = some (isIntD d)
  | .none, _ => (by decide +kernel : kitB "NoneType" "int" = some false)
  | .bool _, _ => (by decide +kernel : kitB "bool" "int" = some true)
  | .int _, _ => (by decide +kernel : kitB "int" "int" = some true)
  | .str _, _ => (by decide +kernel : kitB "str" "int" = some false)
  | .list _, _ => (by decide +kernel : kitB "list" "int" = some false)
  | .tuple _, _ => (by decide +kernel : kitB "tuple" "int" = some false)
  | .dict k, h => absurd rfl (h k)
theorem kb_bool : ∀ d : PyData, (∀ k, d ≠ .dict k) → kitB (tyOf d) "bool" = some (isBoolD d)
  | .none, _ => (by decide +kernel : kitB "NoneType" "bool" = some false)
  | .bool _, _ => (by decide +kernel : kitB "bool" "bool" = some true)
  | .int _, _ => (by decide +kernel : kitB "int" "bool" = some false)
  | .str _, _ => (by decide +kernel : kitB "str" "bool" = some false)
  | .list _, _ => (by decide +kernel : kitB "list" "bool" = some false)
  | .tuple _, _ => (by decide +kernel : kitB "tuple" "bool" = some false)
  | .dict k, h => absurd rfl (h k)
theorem kb_tuple : ∀ d : PyData, (∀ k, d ≠ .dict k) → kitB (tyOf d) "tuple" = some (isTupD d)
  | .none, _ => (by decide +kernel : kitB "NoneType" "tuple" = some false)
  | .bool _, _ => (by decide +kernel : kitB "bool" "tuple" = some false)
  | .int _, _ => (by decide +kernel : kitB "int" "tuple" = some false)
  | .str _, _ => (by decide +kernel : kitB "str" "tuple" = some false)
  | .list _, _ => (by decide +kernel : kitB "list" "tuple" = some false)
  | .tuple _, _ => (by decide +kernel : kitB "tuple" "tuple" = some true)
  | .dict k, h => absurd rfl (h k)
theorem kb_str : ∀ d : PyData, (∀ k, d ≠ .dict k) → kitB (tyOf d) "str" = some (isStrD d)
  | .none, _ => (by decide +kernel : kitB "NoneType" "str" = some false)
  | .bool _, _ => (by decide +kernel : kitB "bool" "str" = some false)
  | .int _, _ => (by decide +kernel : kitB "int" "str" = some false)
  | .str _, _ => (by decide +kernel : kitB "str" "str" = some true)
  | .list _, _ => (by decide +kernel : kitB "list" "str" = some false)
  | .tuple _, _ => (by decide +kernel : kitB "tuple" "str" = some false)
  | .dict k, h => absurd rfl (h k)
theorem kb_list : ∀ d : PyData, (∀ k, d ≠ .dict k) → kitB (tyOf d) "list" = some (isLstD d)
  | .none, _ => (by decide +kernel : kitB "NoneType" "list" = some false)
  | .bool _, _ => (by decide +kernel : kitB "bool" "list" = some false)
  | .int _, _ => (by decide +kernel : kitB "int" "list" = some false)
  | .str _, _ => (by decide +kernel : kitB "str" "list" = some false)
  | .list _, _ => (by decide +kernel : kitB "list" "list" = some true)
  | .tuple _, _ => (by decide +kernel : kitB "tuple" "list" = some false)
  | .dict k, h => absurd rfl (h k)
/-! ### steps that are found by their head -/
class Step (g : Prop) (n : outParam Prop) : Prop where
  h : n → g
section
variable {σ : L2.St} {H : Hp} {nx bk ct : L2.St → Hp → Prop} {rt : VK} {i : Nat} {v x y : V} {Q : VK} {te ta tb tl th : TE} {t u : TS} {c : TT} {g : TG} {K : PySem.W.Frag} {r : R2}
instance : Step (tSeq t u ⟨nx, rt, bk, ct⟩ σ H) (t ⟨u ⟨nx, rt, bk, ct⟩, rt, bk, ct⟩ σ H) := ⟨fun h => h⟩
instance : Step (tAsg te (gName i) ⟨nx, rt, bk, ct⟩ σ H) (te σ H fun x H1 => nx (σ.set i (some x)) H1) := ⟨fun h => h⟩
instance (priority := low) : Step (tAsg te g ⟨nx, rt, bk, ct⟩ σ H) (te σ H fun x H1 => g x σ H1 nx) := ⟨fun h => h⟩
instance {P : L2.St → Hp → Prop} : Step (gName i v σ H P) (P (σ.set i (some v)) H) := ⟨fun h => h⟩
instance {P : L2.St → Hp → Prop} {to ti : TE} {s : TSet} : Step (gSub to ti s v σ H P) (to σ H fun o H1 => ti σ H1 fun i H2 => s o i v H2 fun H3 => P σ H3) := ⟨fun h => h⟩
instance : Step (tIfS c t u ⟨nx, rt, bk, ct⟩ σ H) (c σ H fun b H1 => if b = true then t ⟨nx, rt, bk, ct⟩ σ H1 else u ⟨nx, rt, bk, ct⟩ σ H1) := ⟨fun h => h⟩
instance : Step (tRet te ⟨nx, rt, bk, ct⟩ σ H) (te σ H rt) := ⟨fun h => h⟩
instance : Step (tRetN ⟨nx, rt, bk, ct⟩ σ H) (rt .non H) := ⟨fun h => h⟩
instance : Step (tNext ⟨nx, rt, bk, ct⟩ σ H) (nx σ H) := ⟨fun h => h⟩
instance : Step (tBreak ⟨nx, rt, bk, ct⟩ σ H) (bk σ H) := ⟨fun h => h⟩
instance : Step (tCont ⟨nx, rt, bk, ct⟩ σ H) (ct σ H) := ⟨fun h => h⟩
instance : Step (tDrop te ⟨nx, rt, bk, ct⟩ σ H) (te σ H fun _ H1 => nx σ H1) := ⟨fun h => h⟩
instance {i j : Nat} {ta : TA} : Step (tPar i j ta ⟨nx, rt, bk, ct⟩ σ H) (ta σ H fun vs H1 => ∃ v w, vs = [v, w] ∧ nx ((σ.set i (some v)).set j (some w)) H1) := ⟨fun h => h⟩
instance : Step (tC v σ H Q) (Q v H) := ⟨fun h => h⟩
instance : Step (tOp r ta tb σ H Q) (ta σ H fun x H1 => tb σ H1 fun y H2 => r x y H2 Q) := ⟨fun h => h⟩
instance {r : V → Hp → VK → Prop} : Step (tUn r ta σ H Q) (ta σ H fun x H1 => r x H1 Q) := ⟨fun h => h⟩
instance {r r' : R2} {tc : TE} : Step (tChain r r' ta tb tc σ H Q) (ta σ H fun x H1 => tb σ H1 fun y H2 => r x y H2 fun z H3 => ∃ k, z = .bl k ∧ if k = true then tc σ H3 fun w H4 => r' y w H4 Q else Q (.bl false) H3) := ⟨fun h => h⟩
instance {Q : Bool → Hp → Prop} : Step (tTest te σ H Q) (te σ H fun x H' => ∃ k, x = .bl k ∧ Q k H') := ⟨fun h => h⟩
instance {Q : Bool → Hp → Prop} : Step (tB te σ H Q) (te σ H fun x H1 => ∃ c, x = .bl c ∧ Q c H1) := ⟨fun h => h⟩
instance {t u : TT} {Q : Bool → Hp → Prop} : Step (tAnd t u σ H Q) (t σ H fun c H1 => if c = true then u σ H1 Q else Q false H1) := ⟨fun h => h⟩
instance {t u : TT} {Q : Bool → Hp → Prop} : Step (tOr t u σ H Q) (t σ H fun c H1 => if c = true then Q true H1 else u σ H1 Q) := ⟨fun h => h⟩
instance {t : TT} {Q : Bool → Hp → Prop} : Step (tNot t σ H Q) (t σ H fun c H1 => Q (!c) H1) := ⟨fun h => h⟩
instance {Q : Bool → Hp → Prop} : Step (tYes σ H Q) (Q true H) := ⟨fun h => h⟩
instance : Step (tAndV ta tb σ H Q) (ta σ H fun x H1 => ∃ c, x = .bl c ∧ if c = true then tb σ H1 Q else Q (.bl false) H1) := ⟨fun h => h⟩
instance : Step (tOrV ta tb σ H Q) (ta σ H fun x H1 => ∃ c, x = .bl c ∧ if c = true then Q (.bl true) H1 else tb σ H1 Q) := ⟨fun h => h⟩
instance : Step (tNotV ta σ H Q) (ta σ H fun x H1 => ∃ c, x = .bl c ∧ Q (.bl (!c)) H1) := ⟨fun h => h⟩
instance {t : TT} : Step (tIf t ta tb σ H Q) (t σ H fun c H1 => if c = true then ta σ H1 Q else tb σ H1 Q) := ⟨fun h => h⟩
instance {Q : List V → Hp → Prop} : Step (tNil σ H Q) (Q [] H) := ⟨fun h => h⟩
instance {tr : TA} {Q : List V → Hp → Prop} : Step (tCons te tr σ H Q) (te σ H fun x H1 => tr σ H1 fun xs H2 => Q (x :: xs) H2) := ⟨fun h => h⟩
instance {r : List V → Hp → VK → Prop} {a : TA} : Step (tCB r a σ H Q) (a σ H fun vs H1 => r vs H1 Q) := ⟨fun h => h⟩
instance {sp : Sp} {E : XK} {a : TA} : Step (tCallO sp E a σ H Q) (a σ H fun vs H1 => sp vs H1 Q E) := ⟨fun h => h⟩
instance {a : TA} : Step (tTup a σ H Q) (a σ H fun xs H1 => xs.length ≤ sizeLine ∧ ∀ p, H1 p = none → Q (.ref p) (upd H1 p (.tup xs))) := ⟨fun h => h⟩
instance {a : TA} : Step (tLst a σ H Q) (a σ H fun xs H1 => xs.length ≤ sizeLine ∧ ∀ p, H1 p = none → Q (.ref p) (upd H1 p (.lst xs))) := ⟨fun h => h⟩
instance {r : V → Option Int → Option Int → Hp → VK → Prop} {a b : TO} : Step (tSl r te a b σ H Q) (te σ H fun x H1 => a σ H1 fun l H2 => b σ H2 fun u H3 => r x l u H3 Q) := ⟨fun h => h⟩
instance {Q : Option Int → Hp → Prop} : Step (tNoPart σ H Q) (Q none H) := ⟨fun h => h⟩
instance {Q : Option Int → Hp → Prop} : Step (tPart te σ H Q) (te σ H fun x H1 => ∃ i, x = .int i ∧ Q (some i) H1) := ⟨fun h => h⟩
instance {T : String} {r : V → List V → Hp → VK → Prop} {a : TA} : Step (tBM K T r ta a σ H Q) (ta σ H fun x H1 => tyV K T x H1 ∧ a σ H1 fun xs H2 => r x xs H2 Q) := ⟨fun h => h⟩
instance {T : String} {r : V → List V → Hp → VK → Prop} : Step (tBM0 K T r ta σ H Q) (ta σ H fun x H1 => tyV K T x H1 ∧ r x [] H1 Q) := ⟨fun h => h⟩
-- the operators
instance {i j : Int} : Step (uAdd K (.int i) (.int j) H Q) (Q (.int (i + j)) H) := ⟨fun h => h⟩
instance {i j : Str} : Step (uAdd K (.str i) (.str j) H Q) (i.length + j.length ≤ sizeLine ∧ Q (.str (i ++ j)) H) := ⟨fun h => h⟩
instance {i j : Int} : Step (uSub (.int i) (.int j) H Q) (Q (.int (i - j)) H) := ⟨fun h => h⟩
instance {i j : Int} : Step (uMul (.int i) (.int j) H Q) (CMul i j ∧ Q (.int (i * j)) H) := ⟨fun h => h⟩
instance {i j : Int} : Step (uDiv (.int i) (.int j) H Q) (CDiv i j ∧ Q (.int (i / j)) H) := ⟨fun h => h⟩
instance {i j : Int} : Step (uMod (.int i) (.int j) H Q) (0 < j ∧ Q (.int (i % j)) H) := ⟨fun h => h⟩
instance {i j : Int} : Step (uPow (.int i) (.int j) H Q) (CPow i j ∧ Q (.int (i ^ j.toNat)) H) := ⟨fun h => h⟩
instance {i : Int} : Step (uNeg (.int i) H Q) (Q (.int (-i)) H) := ⟨fun h => h⟩
instance {p : Int → Int → Bool} {i j : Int} : Step (uCmp p (.int i) (.int j) H Q) (Q (.bl (p i j)) H) := ⟨fun h => h⟩
instance {i j : Int} : Step (uEq K (.int i) (.int j) H Q) (Q (.bl (decide (i = j))) H) := ⟨q_eqI⟩
instance {i j : Int} : Step (uNe K (.int i) (.int j) H Q) (Q (.bl (!decide (i = j))) H) := ⟨q_neI⟩
instance {i j : Str} : Step (uEq K (.str i) (.str j) H Q) (Q (.bl (decide (i = j))) H) := ⟨fun h => q_eq rfl (by
  have e : decide (V.str i = V.str j) = decide (i = j) := by simp
  rw [e]; exact h)⟩
instance {i j : Str} : Step (uNe K (.str i) (.str j) H Q) (Q (.bl (!decide (i = j))) H) := ⟨fun h => q_ne rfl (by
  have e : decide (V.str i = V.str j) = decide (i = j) := by simp
  rw [e]; exact h)⟩
instance {i j : Bool} : Step (uEq K (.bl i) (.bl j) H Q) (Q (.bl (decide (i = j))) H) := ⟨fun h => q_eq rfl (by
  have e : decide (V.bl i = V.bl j) = decide (i = j) := by simp
  rw [e]; exact h)⟩
instance {i j : Bool} : Step (uNe K (.bl i) (.bl j) H Q) (Q (.bl (!decide (i = j))) H) := ⟨fun h => q_ne rfl (by
  have e : decide (V.bl i = V.bl j) = decide (i = j) := by simp
  rw [e]; exact h)⟩
/-- a list or a tuple that is read -/
def IsSq (K : PySem.W.Frag) (H : Hp) (a : Addr) (xs : List V) : Prop := SqL K H a xs ∨ SqT K H a xs
def HoIt : HO → List V → Prop
  | .lst xs, ys => xs = ys
  | .tup xs, ys => xs = ys
  | _, _ => False
theorem sq_o {a : Addr} {o : HO} {xs : List V} (h : H a = some o) (e : HoIt o xs) : IsSq K H a xs := by
  cases o <;> first | exact e.elim | (cases (show _ = _ from e); first | exact .inl (.of h) | exact .inr (.of h))
theorem sq_l {a : Addr} {xs : List V} (h : H a = some (.lst xs)) : IsSq K H a xs := .inl (.of h)
theorem sq_t {a : Addr} {xs : List V} (h : H a = some (.tup xs)) : IsSq K H a xs := .inr (.of h)
instance {a : Addr} {i : Int} : Step (rIx K (.ref a) (.int i) H Q) (∃ xs, IsSq K H a xs ∧ ∃ v, atI xs i = some v ∧ Q v H) := ⟨fun ⟨xs, h, v, e, q⟩ => by
  rcases h with h | h
  · exact .inl ⟨a, xs, i, v, rfl, rfl, h, e, q⟩
  · exact .inr (.inl ⟨a, xs, i, v, rfl, rfl, h, e, q⟩)⟩
instance {z : Str} {i : Int} : Step (rIx K (.str z) (.int i) H Q) (∃ c, (z.length ≤ sizeLine ∧ atI z.cps.toList i = some c) ∧ Q (.str ⟨#[c]⟩) H) := ⟨fun ⟨c, h, q⟩ => q_ixS h.1 h.2 q⟩
instance {a : Addr} : Step (uLen K [.ref a] H Q) (∃ xs, IsSq K H a xs ∧ Q (.int xs.length) H) := ⟨fun ⟨xs, h, q⟩ => by
  rcases h with h | h
  · exact ⟨_, _, rfl, .inl ⟨xs, h, rfl⟩, q⟩
  · exact ⟨_, _, rfl, .inr ⟨xs, h, rfl⟩, q⟩⟩
instance {z : Str} : Step (uLen K [.str z] H Q) (z.length ≤ sizeLine ∧ Q (.int z.length) H) := ⟨fun h => q_lenS h.1 h.2⟩
instance {i : Int} : Step (uInt [.int i] H Q) (Q (.int i) H) := ⟨fun h => h⟩
instance {k : Bool} : Step (uInt [.bl k] H Q) (Q (.int (if k then 1 else 0)) H) := ⟨fun h => h⟩
/-- the value's type is that of the data -/
def Typ (H : Hp) (x : V) (d : PyData) : Prop := At H d x ∨ (∃ a vs, x = .ref a ∧ H a = some (.lst vs) ∧ d = .list []) ∨ ∃ a vs, x = .ref a ∧ H a = some (.tup vs) ∧ d = .tuple []
theorem typ_at {x : V} {d : PyData} (h : At H d x) : Typ H x d := .inl h
theorem typ_l {a : Addr} {vs : List V} (h : H a = some (.lst vs)) : Typ H (.ref a) (.list []) := .inr (.inl ⟨a, vs, rfl, h, rfl⟩)
theorem typ_t {a : Addr} {vs : List V} (h : H a = some (.tup vs)) : Typ H (.ref a) (.tuple []) := .inr (.inr ⟨a, vs, rfl, h, rfl⟩)
def HoTy : HO → PyData → Prop
  | .lst _, d => d = .list []
  | .tup _, d => d = .tuple []
  | _, _ => False
theorem typ_o {a : Addr} {o : HO} {d : PyData} (h : H a = some o) (e : HoTy o d) : Typ H (.ref a) d := by
  cases o <;> first | exact e.elim | (cases (show _ = _ from e); first | exact typ_l h | exact typ_t h)
theorem Typ.ty {x : V} {d : PyData} (h : Typ H x d) : TyX K H x (.type (tyOf d)) := by
  rcases h with h | ⟨a, vs, rfl, h, rfl⟩ | ⟨a, vs, rfl, h, rfl⟩
  · exact h.ty
  · exact .base (.lst h)
  · exact .base (.tup h)
theorem Typ.nodict {x : V} {d : PyData} (h : Typ H x d) : ∀ k, d ≠ .dict k := fun k e => by
  subst e
  rcases h with h | ⟨_, _, _, _, h⟩ | ⟨_, _, _, _, h⟩ <;> first | exact h.elim | cases h
instance : Step (rIsi K [x, .ty "int"] H Q) (∃ d, Typ H x d ∧ Q (.bl (isIntD d)) H) := ⟨fun ⟨d, h, q⟩ => q_isi h.ty (kb_int d h.nodict) q⟩
instance : Step (rIsi K [x, .ty "bool"] H Q) (∃ d, Typ H x d ∧ Q (.bl (isBoolD d)) H) := ⟨fun ⟨d, h, q⟩ => q_isi h.ty (kb_bool d h.nodict) q⟩
instance : Step (rIsi K [x, .ty "tuple"] H Q) (∃ d, Typ H x d ∧ Q (.bl (isTupD d)) H) := ⟨fun ⟨d, h, q⟩ => q_isi h.ty (kb_tuple d h.nodict) q⟩
instance : Step (rIsi K [x, .ty "str"] H Q) (∃ d, Typ H x d ∧ Q (.bl (isStrD d)) H) := ⟨fun ⟨d, h, q⟩ => q_isi h.ty (kb_str d h.nodict) q⟩
instance : Step (rIsi K [x, .ty "list"] H Q) (∃ d, Typ H x d ∧ Q (.bl (isLstD d)) H) := ⟨fun ⟨d, h, q⟩ => q_isi h.ty (kb_list d h.nodict) q⟩
-- answers that are there
instance {b : Bool} {R : Bool → Prop} : Step (∃ k, V.bl b = V.bl k ∧ R k) (R b) := ⟨fun h => ⟨b, rfl, h⟩⟩
instance {j : Int} {R : Int → Prop} : Step (∃ i, V.int j = V.int i ∧ R i) (R j) := ⟨fun h => ⟨j, rfl, h⟩⟩
instance {a : Addr} {R : Addr → Prop} : Step (∃ b, V.ref a = V.ref b ∧ R b) (R a) := ⟨fun h => ⟨a, rfl, h⟩⟩
instance {a b : V} {R : V → V → Prop} : Step (∃ v w, [a, b] = [v, w] ∧ R v w) (R a b) := ⟨fun h => ⟨a, b, rfl, h⟩⟩
instance {a : V} {R : V → Prop} : Step (∃ v, [a] = [v] ∧ R v) (R a) := ⟨fun h => ⟨a, rfl, h⟩⟩
instance {A B : Prop} : Step (if true = true then A else B) A := ⟨iteT⟩
instance {A B : Prop} : Step (if false = true then A else B) B := ⟨iteF⟩
instance {A B : Prop} : Step (if (!true) = true then A else B) B := ⟨iteF⟩
instance {A B : Prop} : Step (if (!false) = true then A else B) A := ⟨iteT⟩
-- own defs
instance {g : Sp1} {E : XK} {a : V} : Step (sp1 g [a] H Q E) (g a H Q E) := ⟨fun h => ⟨_, rfl, h⟩⟩
instance {g : Sp2} {E : XK} {a b : V} : Step (sp2 g [a, b] H Q E) (g a b H Q E) := ⟨fun h => ⟨_, _, rfl, h⟩⟩
instance {g : Sp3} {E : XK} {a b c : V} : Step (sp3 g [a, b, c] H Q E) (g a b c H Q E) := ⟨fun h => ⟨_, _, _, rfl, h⟩⟩
instance {g : Sp4} {E : XK} {a b c d : V} : Step (sp4 g [a, b, c, d] H Q E) (g a b c d H Q E) := ⟨fun h => ⟨_, _, _, _, rfl, h⟩⟩
instance {g : Sp5} {E : XK} {a b c d e : V} : Step (sp5 g [a, b, c, d, e] H Q E) (g a b c d e H Q E) := ⟨fun h => ⟨_, _, _, _, _, rfl, h⟩⟩
instance {g : Sp7} {E : XK} {a b c d e i j : V} : Step (sp7 g [a, b, c, d, e, i, j] H Q E) (g a b c d e i j H Q E) := ⟨fun h => ⟨_, _, _, _, _, _, _, rfl, h⟩⟩
end
theorem step {g n : Prop} [s : Step g n] (h : n) : g := s.h h
theorem ex_sq {K : PySem.W.Frag} {H : Hp} {a : Addr} {xs : List V} {S : List V → Prop} (h : IsSq K H a xs) (s : S xs) : ∃ xs, IsSq K H a xs ∧ S xs := ⟨xs, h, s⟩
theorem ex_v {o : Option V} {v : V} {S : V → Prop} (h : o = some v) (s : S v) : ∃ v, o = some v ∧ S v := ⟨v, h, s⟩
theorem ex_typ {H : Hp} {x : V} {d : PyData} {S : PyData → Prop} (h : Typ H x d) (s : S d) : ∃ d, Typ H x d ∧ S d := ⟨d, h, s⟩
theorem ex_at {H : Hp} {x : V} {d : PyData} {S : PyData → Prop} (h : At H d x) (s : S d) : ∃ d, At H d x ∧ S d := ⟨d, h, s⟩
theorem and_new {n : Nat} {H : Hp} {R : Addr → Prop} (l : n ≤ sizeLine) (h : ∀ p, H p = none → R p) : n ≤ sizeLine ∧ ∀ p, H p = none → R p := ⟨l, h⟩

/-! ### the body's context -/
section
variable {P : Program} {w : World} {K : PySem.W.Frag} {mg : Str → Option Value} {base : Heap} {N : List Str} {x : Str} {st : Stmt} {f : Addr} {cdv : Value} {A : Around} {outer : List Env} {s : Shared} {H : Hp} {E : XK}
theorem t_body : Takes (cx P w K mg base N x st f cdv A outer s H E) (fun cls d _ H => E cls d H) := takes_of rfl rfl rfl rfl
theorem p_body : Passes (L2.CX P w) (cx P w K mg base N x st f cdv A outer s H E) E := passes_call (W := fun cls d _ H => E cls d H) t_body fun _ _ _ _ h => h
theorem own_p : PassesOwn (model P w) (cx P w K mg base N x st f cdv A outer s H E).A (cx P w K mg base N x st f cdv A outer s H E).env (cx P w K mg base N x st f cdv A outer s H E).xe := passes_of rfl
end
instance {i j : Int} : Decidable (CPow i j) := by unfold CPow; infer_instance
end Fl

set_option Elab.async false
set_option linter.all false
set_option maxRecDepth 100000
set_option maxHeartbeats 4000000
/-! loops and comprehensions -/
namespace Fl
open PySem PySem.Spec PyProof.Rows L2 RZ
section
variable {σ : L2.St} {H : Hp} {nx bk ct : L2.St → Hp → Prop} {rt : VK} {Q : VK} {te tl : TE} {tb : TS} {g : TG} {tt : TT} {K : PySem.W.Frag} {wi : TI} {vs : List Nat}
/-- what a for asks of its iterator -/
def forG (g : TG) (tb : TS) (D : Ends) (σ : L2.St) : It → Hp → Prop := fun J H1 => ∃ W : Nat → Nat → L2.St → Hp → Prop, (∃ m, W 0 m σ H1) ∧ ∀ i m σ H, W i m σ H →
  (J.stop i H ∧ D.nx σ H) ∨ (J.go i H ∧ ∃ N : L2.St → Hp → Prop, (∀ σ' H', N σ' H' → ∃ m', m' < m ∧ W (i + 1) m' σ' H') ∧ ∀ x H', J.yld i H x H' → g x σ H' fun σ2 H2 => tb { D with nx := N, ct := N, bk := D.nx } σ2 H2)
instance {D : Ends} : Step (tFor wi g tb D σ H) (wi σ H (forG g tb D σ)) := ⟨fun h => h⟩
/-- what a comprehension asks of its iterator -/
def lcG (g : TG) (tt : TT) (te : TE) (vs : List Nat) (σ : L2.St) (Q : VK) : It → Hp → Prop := fun J H1 => ∀ D, H1 D = none → ∃ W : Nat → Nat → Hp → Prop, (∃ m, W 0 m (upd H1 D (.lst []))) ∧ ∀ i m H, W i m H →
  (J.stop i H ∧ Q (.ref D) H) ∨ (J.go i H ∧ ∃ Nx : Hp → Prop, (∀ H', Nx H' → ∃ m', m' < m ∧ W (i + 1) m' H') ∧ ∀ x H', J.yld i H x H' → g x (wipe σ vs) H' fun σ2 H2 => wipe σ2 vs = wipe σ vs ∧ tt σ2 H2 fun b H3 =>
    if b = true then te σ2 H3 fun y H4 => ∃ acc, H4 D = some (.lst acc) ∧ acc.length < sizeLine ∧ Nx (upd H4 D (.lst (acc ++ [y]))) else Nx H3)
instance : Step (tLc wi g tt te vs σ H Q) (wi σ H (lcG g tt te vs σ Q)) := ⟨fun h => h⟩
/-- the iterator of a list, a tuple -/
def ItOf (K : PySem.W.Frag) (x : V) (H : Hp) (R : It → Hp → Prop) : Prop := ∃ a, x = .ref a ∧ (((∃ xs, SqL K H a xs) ∧ R (Itl K a) H) ∨ ((∃ xs, SqT K H a xs) ∧ R (Itt K a) H))
instance {R : It → Hp → Prop} : Step (uIter K tl σ H R) (tl σ H fun x H1 => ItOf K x H1 R) := ⟨fun h => h⟩
instance {ta : TA} {R : It → Hp → Prop} : Step (iRng1 ta σ H R) (ta σ H fun vs H1 => ∃ v, vs = [v] ∧ ∃ j, v = .int j ∧ (-(2 ^ 62) ≤ j ∧ j < 2 ^ 62) ∧ R (Itr 0 j.toNat) H1) := ⟨fun h => by
  have e : (fun (vs : List V) (H1 : Hp) => ∃ v, vs = [v] ∧ ∃ j, v = .int j ∧ (-(2 ^ 62) ≤ j ∧ j < 2 ^ 62) ∧ R (Itr 0 j.toNat) H1) = (fun vs H1 => ∃ j : Int, vs = [.int j] ∧ -(2 ^ 62) ≤ j ∧ j < 2 ^ 62 ∧ R (Itr 0 j.toNat) H1) := by
    funext vs H1
    exact propext ⟨fun ⟨v, e, j, e2, ⟨a, b⟩, r⟩ => ⟨j, by rw [e, e2], a, b, r⟩, fun ⟨j, e, a, b, r⟩ => ⟨_, e, j, rfl, ⟨a, b⟩, r⟩⟩
  show ta σ H _
  rw [← e]
  exact h⟩
instance {ta : TA} {R : It → Hp → Prop} : Step (iRng2 ta σ H R) (ta σ H fun vs H1 => ∃ v w, vs = [v, w] ∧ ∃ i, v = .int i ∧ ∃ j, w = .int j ∧ (-(2 ^ 62) ≤ i ∧ i < 2 ^ 62 ∧ -(2 ^ 62) ≤ j ∧ j < 2 ^ 62) ∧ R (Itr i (j - i).toNat) H1) := ⟨fun h => by
  have e : (fun (vs : List V) (H1 : Hp) => ∃ v w, vs = [v, w] ∧ ∃ i, v = .int i ∧ ∃ j, w = .int j ∧ (-(2 ^ 62) ≤ i ∧ i < 2 ^ 62 ∧ -(2 ^ 62) ≤ j ∧ j < 2 ^ 62) ∧ R (Itr i (j - i).toNat) H1) =
      (fun vs H1 => ∃ i j : Int, vs = [.int i, .int j] ∧ (-(2 ^ 62) ≤ i ∧ i < 2 ^ 62 ∧ -(2 ^ 62) ≤ j ∧ j < 2 ^ 62) ∧ R (Itr i (j - i).toNat) H1) := by
    funext vs H1
    exact propext ⟨fun ⟨v, w, e, i, e2, j, e3, b, r⟩ => ⟨i, j, by rw [e, e2, e3], b, r⟩, fun ⟨i, j, e, b, r⟩ => ⟨_, _, e, i, rfl, j, rfl, b, r⟩⟩
  show ta σ H _
  rw [← e]
  exact h⟩
/-- zip -/
def ZipOf (K : PySem.W.Frag) (x y : V) (H : Hp) (R : It → Hp → Prop) : Prop := ∃ a b xs ys, x = .ref a ∧ y = .ref b ∧ ((SqL K H a xs ∧ SqL K H b ys ∧ R (Itz K a b) H) ∨ (SqT K H a xs ∧ SqT K H b ys ∧ R (ItzT K a b) H))
instance {ta : TA} {R : It → Hp → Prop} : Step (iZipA K ta σ H R) (ta σ H fun vs H1 => ∃ v w, vs = [v, w] ∧ ZipOf K v w H1 R) := ⟨fun h => by
  have e : (fun (vs : List V) (H1 : Hp) => ∃ v w, vs = [v, w] ∧ ZipOf K v w H1 R) = (fun vs H1 => ∃ a b xs ys, vs = [.ref a, .ref b] ∧ ((SqL K H1 a xs ∧ SqL K H1 b ys ∧ R (Itz K a b) H1) ∨ (SqT K H1 a xs ∧ SqT K H1 b ys ∧ R (ItzT K a b) H1))) := by
    funext vs H1
    exact propext ⟨fun ⟨v, w, e, a, b, xs, ys, e1, e2, r⟩ => ⟨a, b, xs, ys, by rw [e, e1, e2], r⟩, fun ⟨a, b, xs, ys, e, r⟩ => ⟨_, _, e, a, b, xs, ys, rfl, rfl, r⟩⟩
  show ta σ H _
  rw [← e]
  exact h⟩
/-- a for over a list that stays -/
theorem for_lst {a : Addr} {xs : List V} (Pv : Nat → L2.St → Hp → Prop) (ha : H a = some (.lst xs)) (h0 : Pv 0 σ H) (hl : ∀ i σ H, i ≤ xs.length → Pv i σ H → H a = some (.lst xs))
    (hs : ∀ i x σ H, xs[i]? = some x → Pv i σ H → g x σ H fun σ2 H2 => tb ⟨Pv (i + 1), rt, nx, Pv (i + 1)⟩ σ2 H2) (hd : ∀ σ H, Pv xs.length σ H → nx σ H) : ItOf K (.ref a) H (forG g tb ⟨nx, rt, bk, ct⟩ σ) :=
  ⟨a, rfl, .inl ⟨⟨xs, .of ha⟩, for_list Pv h0 (fun i σ H hi p => .of (hl i σ H hi p)) hs hd⟩⟩
theorem for_tpl {a : Addr} {xs : List V} (Pv : Nat → L2.St → Hp → Prop) (ha : H a = some (.tup xs)) (h0 : Pv 0 σ H) (hl : ∀ i σ H, i ≤ xs.length → Pv i σ H → H a = some (.tup xs))
    (hs : ∀ i x σ H, xs[i]? = some x → Pv i σ H → g x σ H fun σ2 H2 => tb ⟨Pv (i + 1), rt, nx, Pv (i + 1)⟩ σ2 H2) (hd : ∀ σ H, Pv xs.length σ H → nx σ H) : ItOf K (.ref a) H (forG g tb ⟨nx, rt, bk, ct⟩ σ) :=
  ⟨a, rfl, .inr ⟨⟨xs, .of ha⟩, for_tup Pv h0 (fun i σ H hi p => .of (hl i σ H hi p)) hs hd⟩⟩
theorem for_rng {lo : Int} {n : Nat} (Pv : Nat → L2.St → Hp → Prop) (h0 : Pv 0 σ H)
    (hs : ∀ (i : Nat) σ H, i < n → Pv i σ H → g (.int (lo + i)) σ H fun σ2 H2 => tb ⟨Pv (i + 1), rt, nx, Pv (i + 1)⟩ σ2 H2) (hd : ∀ σ H, Pv n σ H → nx σ H) : forG g tb ⟨nx, rt, bk, ct⟩ σ (Itr lo n) H :=
  for_range Pv h0 hs hd
/-- a comprehension over a list, a tuple, a range; te may change the heap; D is the list that is made -/
theorem lc_lst {a : Addr} {xs : List V} (Pv : Addr → Nat → Hp → Prop) (ha : H a = some (.lst xs)) (h0 : ∀ D, H D = none → Pv D 0 (upd H D (.lst []))) (hl : ∀ D i H', H D = none → i ≤ xs.length → Pv D i H' → H' a = some (.lst xs))
    (hs : ∀ D i x H', H D = none → xs[i]? = some x → Pv D i H' → g x (wipe σ vs) H' fun σ2 H2 => wipe σ2 vs = wipe σ vs ∧ tt σ2 H2 fun b H3 =>
      if b = true then te σ2 H3 fun y H4 => ∃ acc, H4 D = some (.lst acc) ∧ acc.length < sizeLine ∧ Pv D (i + 1) (upd H4 D (.lst (acc ++ [y]))) else Pv D (i + 1) H3)
    (hd : ∀ D H', H D = none → Pv D xs.length H' → Q (.ref D) H') : ItOf K (.ref a) H (lcG g tt te vs σ Q) :=
  ⟨a, rfl, .inl ⟨⟨xs, .of ha⟩, fun D hD => lc_list (Pv D) (h0 D hD) (fun i H' hi p => .of (hl D i H' hD hi p)) (fun i x H' e p => hs D i x H' hD e p) fun H' p => hd D H' hD p⟩⟩
theorem lc_tpl {a : Addr} {xs : List V} (Pv : Addr → Nat → Hp → Prop) (ha : H a = some (.tup xs)) (h0 : ∀ D, H D = none → Pv D 0 (upd H D (.lst []))) (hl : ∀ D i H', H D = none → i ≤ xs.length → Pv D i H' → H' a = some (.tup xs))
    (hs : ∀ D i x H', H D = none → xs[i]? = some x → Pv D i H' → g x (wipe σ vs) H' fun σ2 H2 => wipe σ2 vs = wipe σ vs ∧ tt σ2 H2 fun b H3 =>
      if b = true then te σ2 H3 fun y H4 => ∃ acc, H4 D = some (.lst acc) ∧ acc.length < sizeLine ∧ Pv D (i + 1) (upd H4 D (.lst (acc ++ [y]))) else Pv D (i + 1) H3)
    (hd : ∀ D H', H D = none → Pv D xs.length H' → Q (.ref D) H') : ItOf K (.ref a) H (lcG g tt te vs σ Q) :=
  ⟨a, rfl, .inr ⟨⟨xs, .of ha⟩, fun D hD => lc_tup (Pv D) (h0 D hD) (fun i H' hi p => .of (hl D i H' hD hi p)) (fun i x H' e p => hs D i x H' hD e p) fun H' p => hd D H' hD p⟩⟩
theorem lc_rng {lo : Int} {n : Nat} (Pv : Addr → Nat → Hp → Prop) (h0 : ∀ D, H D = none → Pv D 0 (upd H D (.lst [])))
    (hs : ∀ D (i : Nat) H', H D = none → i < n → Pv D i H' → g (.int (lo + i)) (wipe σ vs) H' fun σ2 H2 => wipe σ2 vs = wipe σ vs ∧ tt σ2 H2 fun b H3 =>
      if b = true then te σ2 H3 fun y H4 => ∃ acc, H4 D = some (.lst acc) ∧ acc.length < sizeLine ∧ Pv D (i + 1) (upd H4 D (.lst (acc ++ [y]))) else Pv D (i + 1) H3)
    (hd : ∀ D H', H D = none → Pv D n H' → Q (.ref D) H') : lcG g tt te vs σ Q (Itr lo n) H :=
  fun D hD => lc_range (Pv D) (h0 D hD) (fun i H' hi p => hs D i H' hD hi p) fun H' p => hd D H' hD p
/-- .. each item by a function of its place, nothing changed: ys is what comes -/
def Pure (te : TE) (σ : L2.St) (H : Hp) (y : V) : Prop := ∀ Q : VK, (∀ H2, Same H H2 → Q y H2) → te σ H Q
theorem take_snoc {α : Type} {ys : List α} {i : Nat} {y : α} (h : ys[i]? = some y) : ys.take i ++ [y] = ys.take (i + 1) := by
  rw [List.take_add_one, h]
  rfl
section
variable {j : Nat} {xs ys : List V} {a : Addr}
theorem pure_step (hl : ys.length < 100000) (hw : ∀ x, wipe ((wipe σ vs).set j (some x)) vs = wipe σ vs) {D : Addr} {i : Nat} {x y : V} {H' : Hp} (hD : H D = none) (hy : ys[i]? = some y) (p : H' D = some (.lst (ys.take i)) ∧ Same H H')
    (hp : Pure te ((wipe σ vs).set j (some x)) H' y) : gName j x (wipe σ vs) H' fun σ2 H2 => wipe σ2 vs = wipe σ vs ∧ tYes σ2 H2 fun b H3 =>
      if b = true then te σ2 H3 fun y H4 => ∃ acc, H4 D = some (.lst acc) ∧ acc.length < sizeLine ∧ (upd H4 D (.lst (acc ++ [y]))) D = some (.lst (ys.take (i + 1))) ∧ Same H (upd H4 D (.lst (acc ++ [y]))) else H3 D = some (.lst (ys.take (i + 1))) ∧ Same H H3 := by
  refine ⟨hw x, ?_⟩
  refine Step.h (n := if true = true then _ else _) ?_
  rw [if_pos rfl]
  refine hp _ fun H2 e => ⟨_, e _ _ p.1, ?_, ?_, ?_⟩
  · refine small_lt (Nat.lt_of_le_of_lt ?_ hl)
    rw [List.length_take]
    exact Nat.min_le_right _ _
  · rw [upd_same, take_snoc hy]
  · exact Same.mut (L2.Same.trans p.2 e) hD
theorem lc_seqL (ys : List V) (ha : H a = some (.lst xs)) (hy : ys.length = xs.length) (hl : ys.length < 100000) (hw : ∀ x, wipe ((wipe σ vs).set j (some x)) vs = wipe σ vs)
    (hs : ∀ (i : Nat) x y H', xs[i]? = some x → ys[i]? = some y → Same H H' → Pure te ((wipe σ vs).set j (some x)) H' y) (hd : ∀ D H', H D = none → Same H H' → H' D = some (.lst ys) → Q (.ref D) H') : ItOf K (.ref a) H (lcG (gName j) tYes te vs σ Q) := by
  refine lc_lst (fun D i H' => H' D = some (.lst (ys.take i)) ∧ Same H H') ha (fun D hD => ⟨upd_same, Same.new (.refl _) hD⟩) (fun D i H' _ _ p => p.2 _ _ ha) (fun D i x H' hD e p => ?_) fun D H' hD p => ?_
  · have hi : i < ys.length := by
      rw [hy]
      exact (List.getElem?_eq_some_iff.mp e).1
    exact pure_step hl hw hD (List.getElem?_eq_getElem hi) p (hs i x _ H' e (List.getElem?_eq_getElem hi) p.2)
  · refine hd D H' hD p.2 ?_
    rw [← hy, List.take_length] at p
    exact p.1
theorem lc_seqT (ys : List V) (ha : H a = some (.tup xs)) (hy : ys.length = xs.length) (hl : ys.length < 100000) (hw : ∀ x, wipe ((wipe σ vs).set j (some x)) vs = wipe σ vs)
    (hs : ∀ (i : Nat) x y H', xs[i]? = some x → ys[i]? = some y → Same H H' → Pure te ((wipe σ vs).set j (some x)) H' y) (hd : ∀ D H', H D = none → Same H H' → H' D = some (.lst ys) → Q (.ref D) H') : ItOf K (.ref a) H (lcG (gName j) tYes te vs σ Q) := by
  refine lc_tpl (fun D i H' => H' D = some (.lst (ys.take i)) ∧ Same H H') ha (fun D hD => ⟨upd_same, Same.new (.refl _) hD⟩) (fun D i H' _ _ p => p.2 _ _ ha) (fun D i x H' hD e p => ?_) fun D H' hD p => ?_
  · have hi : i < ys.length := by
      rw [hy]
      exact (List.getElem?_eq_some_iff.mp e).1
    exact pure_step hl hw hD (List.getElem?_eq_getElem hi) p (hs i x _ H' e (List.getElem?_eq_getElem hi) p.2)
  · refine hd D H' hD p.2 ?_
    rw [← hy, List.take_length] at p
    exact p.1
theorem lc_seqR {lo : Int} {n : Nat} (ys : List V) (hy : ys.length = n) (hl : ys.length < 100000) (hw : ∀ x, wipe ((wipe σ vs).set j (some x)) vs = wipe σ vs)
    (hs : ∀ (i : Nat) y H', i < n → ys[i]? = some y → Same H H' → Pure te ((wipe σ vs).set j (some (.int (lo + i)))) H' y) (hd : ∀ D H', H D = none → Same H H' → H' D = some (.lst ys) → Q (.ref D) H') : lcG (gName j) tYes te vs σ Q (Itr lo n) H := by
  refine lc_rng (fun D i H' => H' D = some (.lst (ys.take i)) ∧ Same H H') (fun D hD => ⟨upd_same, Same.new (.refl _) hD⟩) (fun D i H' hD hi p => ?_) fun D H' hD p => ?_
  · have hi' : i < ys.length := by rw [hy]; exact hi
    exact pure_step hl hw hD (List.getElem?_eq_getElem hi') p (hs i _ H' hi (List.getElem?_eq_getElem hi') p.2)
  · refine hd D H' hD p.2 ?_
    rw [← hy, List.take_length] at p
    exact p.1
end
/-- .. with a test: which items stay, and what comes of each -/
def PureT (tt : TT) (σ : L2.St) (H : Hp) (b : Bool) : Prop := ∀ Q : Bool → Hp → Prop, (∀ H2, Same H H2 → Q b H2) → tt σ H Q
theorem filterMap_snoc {α β : Type} {xs : List α} {f : α → Option β} {i : Nat} {x : α} (h : xs[i]? = some x) : (xs.take (i + 1)).filterMap f = (xs.take i).filterMap f ++ (f x).toList := by
  rw [← take_snoc h, List.filterMap_append]
  cases e : f x <;> simp [List.filterMap, e]
theorem filt_step {f : V → Option V} {j : Nat} {xs : List V} (hl : xs.length < 100000) (hw : ∀ x, wipe ((wipe σ vs).set j (some x)) vs = wipe σ vs) {D : Addr} {i : Nat} {x : V} {H' : Hp} (hD : H D = none) (e : xs[i]? = some x)
    (p : H' D = some (.lst ((xs.take i).filterMap f)) ∧ Same H H') (ht : PureT tt ((wipe σ vs).set j (some x)) H' (f x).isSome) (hp : ∀ y H2, f x = some y → Same H' H2 → Pure te ((wipe σ vs).set j (some x)) H2 y) :
    gName j x (wipe σ vs) H' fun σ2 H2 => wipe σ2 vs = wipe σ vs ∧ tt σ2 H2 fun b H3 =>
      if b = true then te σ2 H3 fun y H4 => ∃ acc, H4 D = some (.lst acc) ∧ acc.length < sizeLine ∧ (upd H4 D (.lst (acc ++ [y]))) D = some (.lst ((xs.take (i + 1)).filterMap f)) ∧ Same H (upd H4 D (.lst (acc ++ [y])))
      else H3 D = some (.lst ((xs.take (i + 1)).filterMap f)) ∧ Same H H3 := by
  refine ⟨hw x, ht _ fun H2 e2 => ?_⟩
  cases ex : f x with
  | none =>
    refine iteF ⟨?_, L2.Same.trans p.2 e2⟩
    rw [filterMap_snoc e, ex]
    rw [show ((xs.take i).filterMap f ++ (none : Option V).toList) = (xs.take i).filterMap f by simp]
    exact e2 _ _ p.1
  | some y =>
    refine iteT (hp y H2 ex e2 _ fun H3 e3 => ⟨_, e3 _ _ (e2 _ _ p.1), ?_, ?_, ?_⟩)
    · refine small_lt (Nat.lt_of_le_of_lt (Nat.le_trans (List.length_filterMap_le _ _) ?_) hl)
      rw [List.length_take]
      exact Nat.min_le_right _ _
    · rw [upd_same, filterMap_snoc e, ex]
      rfl
    · exact Same.mut (L2.Same.trans p.2 (L2.Same.trans e2 e3)) hD
theorem lc_filtL {j : Nat} {xs : List V} {a : Addr} (f : V → Option V) (ha : H a = some (.lst xs)) (hl : xs.length < 100000) (hw : ∀ x, wipe ((wipe σ vs).set j (some x)) vs = wipe σ vs)
    (ht : ∀ x H', x ∈ xs → Same H H' → PureT tt ((wipe σ vs).set j (some x)) H' (f x).isSome) (hp : ∀ x y H', x ∈ xs → f x = some y → Same H H' → Pure te ((wipe σ vs).set j (some x)) H' y)
    (hd : ∀ D H', H D = none → Same H H' → H' D = some (.lst (xs.filterMap f)) → Q (.ref D) H') : ItOf K (.ref a) H (lcG (gName j) tt te vs σ Q) := by
  refine lc_lst (fun D i H' => H' D = some (.lst ((xs.take i).filterMap f)) ∧ Same H H') ha (fun D hD => ⟨by rw [upd_same]; rfl, Same.new (.refl _) hD⟩) (fun D i H' _ _ p => p.2 _ _ ha) (fun D i x H' hD e p => ?_) fun D H' hD p => ?_
  · have hm := List.mem_of_getElem? e
    exact filt_step hl hw hD e p (ht x H' hm p.2) fun y H2 ey e2 => hp x y H2 hm ey (L2.Same.trans p.2 e2)
  · rw [List.take_length] at p
    exact hd D H' hD p.2 p.1
theorem lc_filtR {j : Nat} {n : Nat} {lo : Int} (f : V → Option V) (hl : n < 100000) (hw : ∀ x, wipe ((wipe σ vs).set j (some x)) vs = wipe σ vs)
    (ht : ∀ (i : Nat) H', i < n → Same H H' → PureT tt ((wipe σ vs).set j (some (.int (lo + i)))) H' (f (.int (lo + i))).isSome) (hp : ∀ (i : Nat) y H', i < n → f (.int (lo + i)) = some y → Same H H' → Pure te ((wipe σ vs).set j (some (.int (lo + i)))) H' y)
    (hd : ∀ D H', H D = none → Same H H' → H' D = some (.lst (((List.range n).map fun (i : Nat) => V.int (lo + i)).filterMap f)) → Q (.ref D) H') : lcG (gName j) tt te vs σ Q (Itr lo n) H := by
  have hlen : ((List.range n).map fun (i : Nat) => V.int (lo + i)).length = n := by simp
  refine lc_rng (fun D i H' => H' D = some (.lst (((((List.range n).map fun (i : Nat) => V.int (lo + i))).take i).filterMap f)) ∧ Same H H') (fun D hD => ⟨by rw [upd_same]; rfl, Same.new (.refl _) hD⟩) (fun D i H' hD hi p => ?_) fun D H' hD p => ?_
  · have e : ((List.range n).map fun (i : Nat) => V.int (lo + i))[i]? = some (.int (lo + i)) := by simp [hi]
    exact filt_step (by rw [hlen]; exact hl) hw hD e p (ht i H' hi p.2) fun y H2 ey e2 => hp i y H2 hi ey (L2.Same.trans p.2 e2)
  · refine hd D H' hD p.2 ?_
    rw [List.take_of_length_le (by rw [hlen]; exact Nat.le_refl _)] at p
    exact p.1
/-- .. each item new data -/
def PureD (te : TE) (σ : L2.St) (H : Hp) (d : PyData) : Prop := ∀ R : VK, (∀ y H2, Same H H2 → At H2 d y → R y H2) → te σ H R
theorem tupsOnly_take : ∀ {ds : List PyData} (n : Nat), tupsOnly ds = true → tupsOnly (ds.take n) = true
  | [], n, _ => by simp [tupsOnly]
  | _ :: _, 0, _ => rfl
  | d :: ds, n + 1, h => by
    have t' : tupOnly d = true ∧ tupsOnly ds = true := by simpa [tupsOnly] using h
    show (tupOnly d && tupsOnly (ds.take n)) = true
    rw [t'.1, tupsOnly_take n t'.2]
    rfl
theorem dat_step {j : Nat} {ds : List PyData} (hl : ds.length < 100000) (tup : tupsOnly ds = true) (hw : ∀ x, wipe ((wipe σ vs).set j (some x)) vs = wipe σ vs) {D : Addr} {i : Nat} {x : V} {d : PyData} {H' : Hp} (hD : H D = none) (hy : ds[i]? = some d)
    (p : ∃ ys, H' D = some (.lst ys) ∧ AtAll H' (ds.take i) ys ∧ Same H H') (hp : PureD te ((wipe σ vs).set j (some x)) H' d) : gName j x (wipe σ vs) H' fun σ2 H2 => wipe σ2 vs = wipe σ vs ∧ tYes σ2 H2 fun b H3 =>
      if b = true then te σ2 H3 fun y H4 => ∃ acc, H4 D = some (.lst acc) ∧ acc.length < sizeLine ∧ ∃ ys, (upd H4 D (.lst (acc ++ [y]))) D = some (.lst ys) ∧ AtAll (upd H4 D (.lst (acc ++ [y]))) (ds.take (i + 1)) ys ∧ Same H (upd H4 D (.lst (acc ++ [y])))
      else ∃ ys, H3 D = some (.lst ys) ∧ AtAll H3 (ds.take (i + 1)) ys ∧ Same H H3 := by
  obtain ⟨ys, p1, p2, p3⟩ := p
  refine ⟨hw x, ?_⟩
  refine Step.h (n := if true = true then _ else _) ?_
  rw [if_pos rfl]
  refine hp _ fun y H2 e at2 => ⟨_, e _ _ p1, ?_, _, upd_same, ?_, ?_⟩
  · have l := p2.length
    rw [List.length_take] at l
    exact small_lt (by omega)
  · have lt : LeT H2 (upd H2 D (.lst (ys ++ [y]))) := LeT.put1 (e _ _ p1) (.refl _)
    rw [← take_snoc hy]
    refine AtAll.append (AtAll.leT ((Same.le e).let.trans lt) (tupsOnly_take i tup) p2) (AtAll.one (At.leT lt ?_ at2))
    have q := List.mem_of_getElem? hy
    have all : ∀ {es : List PyData} {z : PyData}, tupsOnly es = true → z ∈ es → tupOnly z = true := by
      intro es
      induction es with
      | nil => intro z _ h; cases h
      | cons a r ih =>
        intro z h hz
        have t' : tupOnly a = true ∧ tupsOnly r = true := by simpa [tupsOnly] using h
        rcases List.mem_cons.mp hz with h1 | h1
        · rw [h1]; exact t'.1
        · exact ih t'.2 h1
    exact all tup q
  · exact Same.mut (L2.Same.trans p3 e) hD
theorem lc_datR {lo : Int} {n j : Nat} (ds : List PyData) (hy : ds.length = n) (hl : ds.length < 100000) (tup : tupsOnly ds = true) (hw : ∀ x, wipe ((wipe σ vs).set j (some x)) vs = wipe σ vs)
    (hs : ∀ (i : Nat) d H', i < n → ds[i]? = some d → Same H H' → PureD te ((wipe σ vs).set j (some (.int (lo + i)))) H' d) (hd : ∀ D H' ys, H D = none → Same H H' → H' D = some (.lst ys) → AtAll H' ds ys → Q (.ref D) H') : lcG (gName j) tYes te vs σ Q (Itr lo n) H := by
  refine lc_rng (fun D i H' => ∃ ys, H' D = some (.lst ys) ∧ AtAll H' (ds.take i) ys ∧ Same H H') (fun D hD => ⟨[], upd_same, by rw [List.take_zero]; rfl, Same.new (.refl _) hD⟩) (fun D i H' hD hi p => ?_) fun D H' hD p => ?_
  · have hi' : i < ds.length := by rw [hy]; exact hi
    obtain ⟨ys, p1, p2, p3⟩ := p
    exact dat_step hl tup hw hD (List.getElem?_eq_getElem hi') ⟨ys, p1, p2, p3⟩ (hs i _ H' hi (List.getElem?_eq_getElem hi') p3)
  · obtain ⟨ys, p1, p2, p3⟩ := p
    rw [← hy, List.take_length] at p2
    exact hd D H' ys hD p3 p1 p2
/-- a comprehension over zip of two tuples, two lists; the pair is a new tuple each time -/
theorem lc_zipR {It0 : It} {xs zs : List V} (Sq : Hp → Prop) (hgo : ∀ (i : Nat) H' x z, Sq H' → xs[i]? = some x → zs[i]? = some z → It0.go i H') (hyld : ∀ (i : Nat) H' x z v H2, Sq H' → xs[i]? = some x → zs[i]? = some z → It0.yld i H' v H2 → ∃ T, v = .ref T ∧ H' T = none ∧ H2 = upd H' T (.tup [x, z]))
    (hstop : ∀ (i : Nat) H', Sq H' → xs.length ≤ i → It0.stop i H') (hsq : ∀ H', Same H H' → Sq H') {j1 j2 : Nat} (hlen : xs.length = zs.length) (ys : List V) (hy : ys.length = xs.length) (hl : ys.length < 100000)
    (hw : ∀ x z, wipe (((wipe σ vs).set j1 (some x)).set j2 (some z)) vs = wipe σ vs)
    (hs : ∀ (i : Nat) x z y H', xs[i]? = some x → zs[i]? = some z → ys[i]? = some y → Same H H' → Pure te (((wipe σ vs).set j1 (some x)).set j2 (some z)) H' y) (hd : ∀ D H', H D = none → Same H H' → H' D = some (.lst ys) → Q (.ref D) H') :
    lcG (gTup K 2 (gCons (gName j1) (gCons (gName j2) gNil))) tYes te vs σ Q It0 H := by
  intro D hD
  refine ⟨fun i m H' => m = xs.length - i ∧ i ≤ xs.length ∧ H' D = some (.lst (ys.take i)) ∧ Same H H', ⟨_, rfl, Nat.zero_le _, upd_same, Same.new (.refl _) hD⟩, ?_⟩
  rintro i m H' ⟨rfl, hi, p1, p2⟩
  by_cases hlt : i < xs.length
  · have ex : xs[i]? = some xs[i] := List.getElem?_eq_getElem hlt
    have ez : zs[i]? = some (zs[i]'(hlen ▸ hlt)) := List.getElem?_eq_getElem _
    have ey : ys[i]? = some (ys[i]'(hy ▸ hlt)) := List.getElem?_eq_getElem _
    refine .inr ⟨hgo i H' _ _ (hsq _ p2) ex ez, fun H3 => H3 D = some (.lst (ys.take (i + 1))) ∧ Same H H3, fun H3 q => ⟨xs.length - (i + 1), by omega, rfl, hlt, q.1, q.2⟩, fun v H2 hv => ?_⟩
    obtain ⟨T, rfl, hT, rfl⟩ := hyld i H' _ _ v H2 (hsq _ p2) ex ez hv
    refine ⟨T, _, rfl, .of upd_same, rfl, _, _, rfl, _, _, rfl, rfl, hw _ _, ?_⟩
    refine Step.h (n := if true = true then _ else _) ?_
    rw [if_pos rfl]
    refine hs i _ _ _ (upd H' T (.tup [xs[i], zs[i]'(hlen ▸ hlt)])) ex ez ey (Same.new p2 hT) _ fun H3 e3 => ?_
    have hDT : D ≠ T := ne_of_none p1 hT
    have pD : H3 D = some (.lst (ys.take i)) := e3 _ _ (by rw [upd_ne hDT]; exact p1)
    refine ⟨_, pD, ?_, ?_, ?_⟩
    · refine small_lt (Nat.lt_of_le_of_lt ?_ hl)
      rw [List.length_take]
      exact Nat.min_le_right _ _
    · rw [upd_same, take_snoc ey]
    · exact Same.mut (L2.Same.trans (Same.new p2 hT) e3) hD
  · have e : i = xs.length := by omega
    subst e
    rw [← hy, List.take_length] at p1
    exact .inl ⟨hstop _ H' (hsq _ p2) (Nat.le_refl _), hd D H' hD p2 p1⟩
theorem sqT_inj {K : PySem.W.Frag} {H : Hp} {a : Addr} {i : Nat} {xs : List V} {x : V} (f : ∀ xs, SqT K H a xs → xs[i]? = some x) (h : H a = some (.tup xs)) : xs[i]? = some x := f xs (.of h)
theorem lc_zipT {a b : Addr} {xs zs : List V} {j1 j2 : Nat} (ys : List V) (ha : H a = some (.tup xs)) (hb : H b = some (.tup zs)) (hlen : xs.length = zs.length) (hy : ys.length = xs.length) (hl : ys.length < 100000)
    (hw : ∀ x z, wipe (((wipe σ vs).set j1 (some x)).set j2 (some z)) vs = wipe σ vs)
    (hs : ∀ (i : Nat) x z y H', xs[i]? = some x → zs[i]? = some z → ys[i]? = some y → Same H H' → Pure te (((wipe σ vs).set j1 (some x)).set j2 (some z)) H' y) (hd : ∀ D H', H D = none → Same H H' → H' D = some (.lst ys) → Q (.ref D) H') :
    ZipOf K (.ref a) (.ref b) H (lcG (gTup K 2 (gCons (gName j1) (gCons (gName j2) gNil))) tYes te vs σ Q) := by
  refine ⟨a, b, xs, zs, rfl, rfl, .inr ⟨.of ha, .of hb, lc_zipR (It0 := ItzT K a b) (xs := xs) (zs := zs) (fun H' => H' a = some (.tup xs) ∧ H' b = some (.tup zs)) (fun i H' x z h e1 e2 => ⟨xs, zs, x, z, .of h.1, .of h.2, e1, e2⟩) (fun i H' x z v H2 h e1 e2 hv => ?_)
    (fun i H' h hi => ⟨xs, zs, .of h.1, .of h.2, .inl hi⟩) (fun H' e => ⟨e _ _ ha, e _ _ hb⟩) hlen ys hy hl hw hs hd⟩⟩
  obtain ⟨T, x', z', rfl, hT, rfl, f1, f2⟩ := hv
  have q1 : x' = x := Option.some.inj ((f1 _ (.of h.1)).symm.trans e1)
  have q2 : z' = z := Option.some.inj ((f2 _ (.of h.2)).symm.trans e2)
  subst q1 q2
  exact ⟨T, rfl, hT, rfl⟩
theorem lc_zipL {a b : Addr} {xs zs : List V} {j1 j2 : Nat} (ys : List V) (ha : H a = some (.lst xs)) (hb : H b = some (.lst zs)) (hlen : xs.length = zs.length) (hy : ys.length = xs.length) (hl : ys.length < 100000)
    (hw : ∀ x z, wipe (((wipe σ vs).set j1 (some x)).set j2 (some z)) vs = wipe σ vs)
    (hs : ∀ (i : Nat) x z y H', xs[i]? = some x → zs[i]? = some z → ys[i]? = some y → Same H H' → Pure te (((wipe σ vs).set j1 (some x)).set j2 (some z)) H' y) (hd : ∀ D H', H D = none → Same H H' → H' D = some (.lst ys) → Q (.ref D) H') :
    ZipOf K (.ref a) (.ref b) H (lcG (gTup K 2 (gCons (gName j1) (gCons (gName j2) gNil))) tYes te vs σ Q) := by
  refine ⟨a, b, xs, zs, rfl, rfl, .inl ⟨.of ha, .of hb, lc_zipR (It0 := Itz K a b) (xs := xs) (zs := zs) (fun H' => H' a = some (.lst xs) ∧ H' b = some (.lst zs)) (fun i H' x z h e1 e2 => ⟨xs, zs, x, z, .of h.1, .of h.2, e1, e2⟩) (fun i H' x z v H2 h e1 e2 hv => ?_)
    (fun i H' h hi => ⟨xs, zs, .of h.1, .of h.2, .inl hi⟩) (fun H' e => ⟨e _ _ ha, e _ _ hb⟩) hlen ys hy hl hw hs hd⟩⟩
  obtain ⟨T, x', z', rfl, hT, rfl, f1, f2⟩ := hv
  have q1 : x' = x := Option.some.inj ((f1 _ (.of h.1)).symm.trans e1)
  have q2 : z' = z := Option.some.inj ((f2 _ (.of h.2)).symm.trans e2)
  subst q1 q2
  exact ⟨T, rfl, hT, rfl⟩
/-- while, by a word with its measure -/
theorem while_go {c : TT} (W : Nat → L2.St → Hp → Prop) (m : Nat) (h0 : W m σ H) (turn : ∀ m σ H, W m σ H → c σ H fun b H1 => if b = true then ∃ N : L2.St → Hp → Prop, (∀ σ' H', N σ' H' → ∃ m', m' < m ∧ W m' σ' H') ∧ tb ⟨N, rt, nx, N⟩ σ H1 else nx σ H1) : tWhile c tb ⟨nx, rt, bk, ct⟩ σ H :=
  ⟨W, ⟨m, h0⟩, turn⟩
theorem while_turn {W : Nat → L2.St → Hp → Prop} {m : Nat} (h : tb ⟨fun σ' H' => ∃ m', m' < m ∧ W m' σ' H', rt, nx, fun σ' H' => ∃ m', m' < m ∧ W m' σ' H'⟩ σ H) :
    ∃ N : L2.St → Hp → Prop, (∀ σ' H', N σ' H' → ∃ m', m' < m ∧ W m' σ' H') ∧ tb ⟨N, rt, nx, N⟩ σ H := ⟨_, fun _ _ n => n, h⟩
end

/-! ### more steps -/
section
variable {σ : L2.St} {H : Hp} {Q : VK} {K : PySem.W.Frag} {a b l p : Addr} {v x y : V}
/-- what comes of a thing that is made, of a call that changes nothing, of one that draws -/
def NewQ (H : Hp) (R : Addr → Prop) : Prop := ∀ p, H p = none → R p
def SameQ (H : Hp) (o : HO) (R : Addr → Hp → Prop) : Prop := ∀ a H', Same H H' → H' a = some o → R a H'
def SmQ (H : Hp) (R : Hp → Prop) : Prop := ∀ H', Same H H' → R H'
def GsQ (s : Addr) (H : Hp) (R : Hp → Prop) : Prop := ∀ H', Gs s H H' → R H'
/-- what comes of a draw below n -/
def NextQ (s : Addr) (n : Int) (H : Hp) (R : Int → Hp → Prop) : Prop := ∀ y r : Int, 0 ≤ r → r < n → R r (upd H s (.lst [.int y]))
theorem in_next {n : Int} {R : Int → Hp → Prop} (h : ∀ y r : Int, 0 ≤ r → r < n → R r (upd H l (.lst [.int y]))) : NextQ l n H R := h
/-- what comes of a number that is drawn -/
def NumQ (s : Addr) (H : Hp) (R : Int → Hp → Prop) : Prop := ∀ (z : Int) H', -1000000000 ≤ z → z ≤ 1000000000 → Gs s H H' → R z H'
theorem in_num {R : Int → Hp → Prop} (h : ∀ (z : Int) H', -1000000000 ≤ z → z ≤ 1000000000 → Gs l H H' → R z H') : NumQ l H R := h
/-- what comes of a thing that is drawn -/
def DrwQ {α : Type} (s : Addr) (H : Hp) (F : α → V → Hp → Prop) (R : α → V → Hp → Prop) : Prop := ∀ a v H', Gs s H H' → F a v H' → R a v H'
theorem in_drw {α : Type} {F R : α → V → Hp → Prop} (h : ∀ a v H', Gs l H H' → F a v H' → R a v H') : DrwQ l H F R := h
/-- what comes of a thing that is made -/
def MadQ {α : Type} (H : Hp) (F : α → V → Hp → Prop) (R : α → V → Hp → Prop) : Prop := ∀ a v H', Same H H' → F a v H' → R a v H'
theorem in_mad {α : Type} {F R : α → V → Hp → Prop} (h : ∀ a v H', Same H H' → F a v H' → R a v H') : MadQ H F R := h
/-- the script: known to its object, or the top's own -/
def Scr (K : PySem.W.Frag) (H : Hp) (a : Addr) (ns : List Int) : Prop := (∃ o, H a = some (.frz o (.lst (ns.map V.int)))) ∨ ∀ H', SqL K H' a (ns.map V.int)
theorem Scr.sq {ns : List Int} (h : Scr K H a ns) : SqL K H a (ns.map V.int) := by
  rcases h with ⟨o, h⟩ | h
  · exact .inl (.inr ⟨o, h⟩)
  · exact h H
theorem Scr.le1 {H' : Hp} {ns : List Int} (h : Scr K H a ns) (e : Le H H') : Scr K H' a ns := by
  rcases h with ⟨o, h⟩ | h
  · exact .inl ⟨o, e _ _ h (fun x z => by cases z)⟩
  · exact .inr h
theorem Scr.of {ns : List Int} (o : Only H) (h : SqL K H a (ns.map V.int)) : Scr K H a ns := by
  rcases h with (h | h) | h
  · rcases o a with z | ⟨ob, xs, z⟩
    · rw [h] at z; cases z
    · rw [h] at z; cases z
  · exact .inl h
  · exact .inr fun _ => .inr h
def IntQ (R : Int → Prop) : Prop := ∀ z : Int, R z
theorem in_int {R : Int → Prop} (h : ∀ z : Int, R z) : IntQ R := h
def MixQ (R : Int → Prop) : Prop := ∀ z : Int, 0 ≤ z → z < 2147483647 → R z
theorem in_mix {R : Int → Prop} (h : ∀ z : Int, 0 ≤ z → z < 2147483647 → R z) : MixQ R := h
theorem ex_scr {ns : List Int} {S : List Int → Prop} (h : Scr K H a ns) (s : S ns) : ∃ ns, Scr K H a ns ∧ S ns := ⟨ns, h, s⟩
theorem in_same {o : HO} {R : Addr → Hp → Prop} (h : ∀ a H', Same H H' → H' a = some o → R a H') : SameQ H o R := h
theorem in_new {R : Addr → Prop} (h : ∀ a, H a = none → R a) : NewQ H R := h
theorem in_sm {R : Hp → Prop} (h : ∀ H', Same H H' → R H') : SmQ H R := h
theorem in_gs {R : Hp → Prop} (h : ∀ H', Gs l H H' → R H') : GsQ l H R := h
theorem ex_o {R : HO → Prop} {o : HO} (h : H a = some o) (r : R o) : ∃ o, H a = some o ∧ R o := ⟨o, h, r⟩
theorem ex_xs {R : List V → Prop} {xs : List V} (h : H a = some (.lst xs)) (r : R xs) : ∃ xs, H a = some (.lst xs) ∧ R xs := ⟨xs, h, r⟩
theorem ex_bs {R : List Bool → Prop} {xs : List Bool} (h : H a = some (.lst (xs.map V.bl))) (r : R xs) : ∃ xs : List Bool, H a = some (.lst (xs.map V.bl)) ∧ R xs := ⟨xs, h, r⟩
theorem ex_ns {R : List Int → Prop} {xs : List Int} (h : H a = some (.lst (xs.map V.int))) (r : R xs) : ∃ xs : List Int, H a = some (.lst (xs.map V.int)) ∧ R xs := ⟨xs, h, r⟩
instance : Step (rAll K [.ref a] H Q) (∃ bs : List Bool, H a = some (.lst (bs.map V.bl)) ∧ Q (.bl (bs.all id)) H) := ⟨fun ⟨bs, h, q⟩ => ⟨a, bs, rfl, .of h, q⟩⟩
instance : Step (rAny K [.ref a] H Q) (∃ bs : List Bool, H a = some (.lst (bs.map V.bl)) ∧ Q (.bl (bs.any id)) H) := ⟨fun ⟨bs, h, q⟩ => ⟨a, bs, rfl, .of h, q⟩⟩
instance : Step (rSum K [.ref a] H Q) (∃ ns : List Int, H a = some (.lst (ns.map V.int)) ∧ Q (.int ns.sum) H) := ⟨fun ⟨bs, h, q⟩ => ⟨a, bs, rfl, .of h, q⟩⟩
instance : Step (rSortedI K [.ref a] H Q) (∃ ns : List Int, H a = some (.lst (ns.map V.int)) ∧ ∀ (ns' : List Int) (p : Addr), ns'.Perm ns → ns'.Pairwise (· ≤ ·) → H p = none → Q (.ref p) (upd H p (.lst (ns'.map V.int)))) := ⟨fun ⟨bs, h, q⟩ => ⟨a, bs, rfl, .of h, q⟩⟩
/-- slices -/
def SlQ (o : HO) (lo hi : Option Int) (H : Hp) (Q : VK) : Prop := match o with
  | .tup xs => ∀ a H', Same H H' → H' a = some (.tup (cutV xs lo hi)) → Q (.ref a) H'
  | .lst xs => ∀ a, H a = none → Q (.ref a) (upd H a (.lst (cutV xs lo hi)))
  | _ => False
theorem cut_whole {xs : List V} {lo hi : Option Int} (h : HT.sIx xs.length 0 lo = 0 ∧ HT.sIx xs.length xs.length hi = xs.length) : cutV xs lo hi = xs := by
  unfold cutV
  rw [h.1, h.2, Nat.sub_zero, List.drop_zero, List.take_length]
instance {lo hi : Option Int} : Step (uSl K (.ref a) lo hi H Q) (∃ o, H a = some o ∧ SlQ o lo hi H Q) := ⟨fun ⟨o, h, q⟩ => by
  cases o <;> first | exact q.elim | skip
  · exact .inl ⟨a, _, rfl, .of h, q⟩
  · refine .inr (.inl ⟨a, _, rfl, .of h, fun w => ?_, fun w p hp => ?_⟩)
    · exact q a H (.refl _) (by rw [cut_whole w]; exact h)
    · exact q p _ (Same.new (.refl _) hp) upd_same⟩
instance {z : Str} {lo hi : Option Int} : Step (uSl K (.str z) lo hi H Q) (z.length ≤ sizeLine ∧ Q (.str (cutS z lo hi)) H) := ⟨fun h => .inr (.inr ⟨z, rfl, h.1, h.2⟩)⟩
instance {xs : List V} {lo hi : Option Int} : Step (SlQ (.tup xs) lo hi H Q) (SameQ H (.tup (cutV xs lo hi)) fun a H' => Q (.ref a) H') := ⟨fun h => h⟩
instance {xs : List V} {lo hi : Option Int} : Step (SlQ (.lst xs) lo hi H Q) (NewQ H fun a => Q (.ref a) (upd H a (.lst (cutV xs lo hi)))) := ⟨fun h => h⟩
/-- + -/
def CatQ (o u : HO) (H : Hp) (Q : VK) : Prop := match o, u with
  | .tup xs, .tup ys => xs.length + ys.length ≤ sizeLine ∧ ∀ a H', Same H H' → H' a = some (.tup (xs ++ ys)) → Q (.ref a) H'
  | .lst xs, .lst ys => xs.length + ys.length ≤ sizeLine ∧ ∀ a, H a = none → Q (.ref a) (upd H a (.lst (xs ++ ys)))
  | _, _ => False
instance : Step (uAdd K (.ref a) (.ref b) H Q) (∃ o, H a = some o ∧ ∃ u, H b = some u ∧ CatQ o u H Q) := ⟨fun ⟨o, h, u, k, q⟩ => by
  cases o <;> cases u <;> first | exact q.elim | skip
  · exact q_addL h k q.1 q.2
  · rename_i xs ys
    refine q_addT h k q.1 (fun e => ?_) (fun e1 e2 => ?_) fun _ _ p hp => q.2 p _ (Same.new (.refl _) hp) upd_same
    · exact q.2 b H (.refl _) (by rw [e]; exact k)
    · exact q.2 a H (.refl _) (by rw [e2, List.append_nil]; exact h)⟩
instance {xs ys : List V} : Step (CatQ (.tup xs) (.tup ys) H Q) (xs.length + ys.length ≤ sizeLine ∧ SameQ H (.tup (xs ++ ys)) fun a H' => Q (.ref a) H') := ⟨fun h => h⟩
instance {xs ys : List V} : Step (CatQ (.lst xs) (.lst ys) H Q) (xs.length + ys.length ≤ sizeLine ∧ NewQ H fun a => Q (.ref a) (upd H a (.lst (xs ++ ys)))) := ⟨fun h => h⟩
/-- list * n -/
instance {n : Int} : Step (uMul (.ref a) (.int n) H Q) (∃ xs, H a = some (.lst xs) ∧ (-(2 ^ 63) ≤ n ∧ n < 2 ^ 63 ∧ xs.length * n.toNat ≤ sizeLine) ∧ NewQ H fun p => Q (.ref p) (upd H p (.lst (List.replicate n.toNat xs).flatten))) := ⟨fun ⟨xs, h, k, q⟩ => ⟨a, n, xs, rfl, rfl, h, k.1, k.2.1, k.2.2, q⟩⟩
/-- list(x), tuple(x) -/
def LstQ (o : HO) (H : Hp) (Q : VK) : Prop := match o with
  | .tup xs => ∀ a, H a = none → Q (.ref a) (upd H a (.lst xs))
  | .lst xs => ∀ a, H a = none → Q (.ref a) (upd H a (.lst xs))
  | _ => False
def TupQ (o : HO) (H : Hp) (Q : VK) : Prop := match o with
  | .tup xs => ∀ a H', Same H H' → H' a = some (.tup xs) → Q (.ref a) H'
  | .lst xs => ∀ a H', Same H H' → H' a = some (.tup xs) → Q (.ref a) H'
  | _ => False
instance : Step (uLst K [.ref a] H Q) (∃ o, H a = some o ∧ LstQ o H Q) := ⟨fun ⟨o, h, q⟩ => by
  cases o <;> first | exact q.elim | skip
  · exact ⟨a, _, rfl, .inl (.of h), q⟩
  · exact ⟨a, _, rfl, .inr (.of h), q⟩⟩
instance : Step (uTup K [.ref a] H Q) (∃ o, H a = some o ∧ TupQ o H Q) := ⟨fun ⟨o, h, q⟩ => by
  cases o <;> first | exact q.elim | skip
  · exact ⟨a, _, rfl, .inl ⟨.of h, fun l hl => q l _ (Same.new (.refl _) hl) upd_same⟩⟩
  · exact ⟨a, _, rfl, .inr ⟨.of h, q a H (.refl _) h⟩⟩⟩
instance {xs : List V} : Step (LstQ (.tup xs) H Q) (NewQ H fun a => Q (.ref a) (upd H a (.lst xs))) := ⟨fun h => h⟩
instance {xs : List V} : Step (LstQ (.lst xs) H Q) (NewQ H fun a => Q (.ref a) (upd H a (.lst xs))) := ⟨fun h => h⟩
instance {xs : List V} : Step (TupQ (.tup xs) H Q) (SameQ H (.tup xs) fun a H' => Q (.ref a) H') := ⟨fun h => h⟩
instance {xs : List V} : Step (TupQ (.lst xs) H Q) (SameQ H (.tup xs) fun a H' => Q (.ref a) H') := ⟨fun h => h⟩
/-- methods of lists -/
instance : Step (rAppend (.ref l) [y] H Q) (∃ xs, H l = some (.lst xs) ∧ xs.length < sizeLine ∧ Q .non (upd H l (.lst (xs ++ [y])))) := ⟨fun ⟨xs, h, k, q⟩ => ⟨l, xs, y, rfl, rfl, h, k, q⟩⟩
instance : Step (rPop (.ref l) [] H Q) (∃ xs, H l = some (.lst xs) ∧ ∃ y, xs[xs.length - 1]? = some y ∧ Q y (upd H l (.lst xs.dropLast))) := ⟨fun ⟨xs, h, y, k, q⟩ => ⟨l, xs, y, rfl, rfl, h, k, q⟩⟩
instance : Step (rReverse (.ref l) [] H Q) (∃ xs, H l = some (.lst xs) ∧ Q .non (upd H l (.lst xs.reverse))) := ⟨fun ⟨xs, h, q⟩ => ⟨l, xs, rfl, rfl, h, q⟩⟩
instance : Step (rClear (.ref l) [] H Q) (∃ xs, H l = some (.lst xs) ∧ Q .non (upd H l (.lst []))) := ⟨fun ⟨xs, h, q⟩ => ⟨l, xs, rfl, rfl, h, q⟩⟩
instance {k : Int} {R : Hp → Prop} : Step (rSetL (.ref l) (.int k) v H R) (∃ xs, H l = some (.lst xs) ∧ ∃ j, ixN xs.length k = some j ∧ R (upd H l (.lst (xs.set j v)))) := ⟨fun ⟨xs, h, j, k, q⟩ => ⟨l, xs, _, j, rfl, rfl, h, k, q⟩⟩
theorem ex_j {o : Option Nat} {R : Nat → Prop} {j : Nat} (h : o = some j) (r : R j) : ∃ j, o = some j ∧ R j := ⟨j, h, r⟩
theorem ty_list (h : H l = some (.lst xs)) : tyV K "list" (.ref l) H := .inl ⟨rfl, _, .of h⟩
end

/-! ### ways that meet -/
theorem meet {t u : TS} {nx bk ct : L2.St → Hp → Prop} {rt : VK} {σ : L2.St} {H : Hp} (M : L2.St → Hp → Prop) (h1 : t ⟨M, rt, bk, ct⟩ σ H) (h2 : ∀ σ' H', M σ' H' → u ⟨nx, rt, bk, ct⟩ σ' H') : tCutF t u ⟨nx, rt, bk, ct⟩ σ H := ⟨M, h1, h2⟩
/-! ### items at a drawn place -/
theorem atI_range {α : Type} {xs : List α} {i : Int} (h0 : 0 ≤ i) (h1 : i < xs.length) : ∃ v, atI xs i = some v ∧ xs[i.toNat]? = some v ∧ v ∈ xs := by
  have e : i = ((i.toNat : Nat) : Int) := by omega
  have hl : i.toNat < xs.length := by omega
  have q : xs[i.toNat]? = some xs[i.toNat] := List.getElem?_eq_getElem hl
  refine ⟨xs[i.toNat], ?_, q, List.getElem_mem hl⟩
  have z := atI_nat q
  rw [← e] at z
  exact z
theorem ex_pick {xs : List V} {i : Int} {R : V → Prop} (F : V → Prop) (h0 : 0 ≤ i) (h1 : i < xs.length) (all : ∀ v ∈ xs, F v) (k : ∀ v, F v → R v) : ∃ v, atI xs i = some v ∧ R v := by
  obtain ⟨v, e, _, hm⟩ := atI_range h0 h1
  exact ⟨v, e, k v (all v hm)⟩
theorem four {r : Int} (h0 : 0 ≤ r) (h1 : r < 4) : r = 0 ∨ r = 1 ∨ r = 2 ∨ r = 3 := by omega
theorem three {r : Int} (h0 : 0 ≤ r) (h1 : r < 3) : r = 0 ∨ r = 1 ∨ r = 2 := by omega
theorem two {r : Int} (h0 : 0 ≤ r) (h1 : r < 2) : r = 0 ∨ r = 1 := by omega
/-! ### cuts -/
theorem cut_init (xs : List V) : cutV xs none (some (-1)) = xs.take (xs.length - 1) := by
  unfold cutV HT.sIx
  simp only [List.drop_zero]
  rw [if_pos (by decide), show ((-1 : Int) + (xs.length : Int)).toNat = xs.length - 1 by omega, Nat.sub_zero]
theorem cut_from (xs : List V) (k : Nat) : cutV xs (some (k : Int)) none = xs.drop k := by
  unfold cutV HT.sIx
  simp only []
  rw [if_neg (by omega), Int.toNat_natCast]
  by_cases h : k ≤ xs.length
  · rw [Nat.min_eq_left h, List.take_of_length_le (by rw [List.length_drop]; exact Nat.le_refl _)]
  · rw [Nat.min_eq_right (by omega), List.drop_eq_nil_of_le (Nat.le_refl _), List.drop_eq_nil_of_le (by omega), List.take_nil]
theorem cut_from1 (xs : List V) (k : Nat) : cutV xs (some ((k : Int) + 1)) none = xs.drop (k + 1) := cut_from xs (k + 1)
theorem cut_tail (xs : List V) : cutV xs (some 1) none = xs.drop 1 := cut_from xs 1
theorem cut_to (xs : List V) (k : Nat) : cutV xs none (some (k : Int)) = xs.take k := by
  unfold cutV HT.sIx
  simp only [List.drop_zero]
  rw [if_neg (by omega), Int.toNat_natCast, Nat.sub_zero]
  by_cases h : k ≤ xs.length
  · rw [Nat.min_eq_left h]
  · rw [Nat.min_eq_right (by omega), List.take_length, List.take_of_length_le (by omega)]
/-! ### data, piece by piece -/
theorem AtAll.nil {H : Hp} : AtAll H [] [] := rfl
theorem AtAll.cons {H : Hp} {d : PyData} {v : V} {ds : List PyData} {vs : List V} (h : At H d v) (t : AtAll H ds vs) : AtAll H (d :: ds) (v :: vs) := ⟨v, vs, rfl, h, t⟩
theorem at_tup {H : Hp} {a : Addr} {ds : List PyData} {vs : List V} (h : H a = some (.tup vs)) (r : AtAll H ds vs) : At H (.tuple ds) (.ref a) := ⟨a, _, rfl, h, r⟩
theorem at_lst {H : Hp} {a : Addr} {ds : List PyData} {vs : List V} (h : H a = some (.lst vs)) (n : ∀ x, vs ≠ [.int x]) (r : AtAll H ds vs) : At H (.list ds) (.ref a) := ⟨a, _, rfl, h, n, r⟩
end Fl

/-! words of my own, for the steps -/
-- what stands at an address
local macro_rules | `(tactic| walk_at "ne") => `(tactic| first
  | with_reducible assumption
  | (apply Ne.symm; with_reducible assumption)
  | (apply Fl.ne1; · with_reducible assumption
     · walk_at "hp")
  | (apply Fl.ne2; · with_reducible assumption
     · walk_at "hp"))
local macro_rules | `(tactic| walk_at "hp") => `(tactic| first
  | with_reducible assumption
  | with_reducible apply L2.upd_same
  | ((with_reducible apply Fl.hp_new); · with_reducible assumption
     · walk_at "hp")
  | ((with_reducible apply Fl.hp_put); · ((fail_if_success (apply Or.inl; with_reducible assumption)); exact Or.inr True.intro)
     · walk_at "ne"
     · walk_at "hp")
  | ((with_reducible apply Fl.hp_same); · with_reducible assumption
     · walk_at "hp")
  | ((with_reducible apply Fl.hp_gs); · with_reducible assumption
     · walk_at "ne"
     · walk_at "hp"))
-- heaps that grow
local macro_rules | `(tactic| walk_at "fr") => `(tactic| first
  | with_reducible assumption
  | (apply Fl.Same.free1; · with_reducible assumption
     · walk_at "sm")
  | (apply Fl.Gs.free1; · with_reducible assumption
     · walk_at "gs"
     · walk_at "ne"))
local macro_rules | `(tactic| walk_at "sm") => `(tactic| first
  | with_reducible assumption
  | with_reducible apply L2.Same.refl
  | ((with_reducible apply Fl.Same.new1); · with_reducible assumption
     · walk_at "sm")
  | ((with_reducible apply Fl.Same.mut); · walk_at "sm"
     · walk_at "fr")
  | ((with_reducible apply Fl.Same.trans1); · with_reducible assumption
     · walk_at "sm"))
local macro_rules | `(tactic| walk_at "gs") => `(tactic| first
  | with_reducible assumption
  | ((with_reducible apply Fl.Gs.refl); · walk_at "hp")
  | ((with_reducible apply Fl.Gs.put1); · walk_at "gs")
  | ((with_reducible apply Fl.Gs.new1); · with_reducible assumption
     · walk_at "gs")
  | ((with_reducible apply Fl.Gs.trans1); · with_reducible assumption
     · walk_at "gs")
  | ((with_reducible apply Fl.Gs.then1); · with_reducible assumption
     · walk_at "gs")
  | ((with_reducible apply Fl.Gs.mut1); · walk_at "fr"
     · walk_at "ne"
     · walk_at "gs"))
local macro_rules | `(tactic| walk_at "le") => `(tactic| first
  | with_reducible assumption
  | with_reducible apply Fl.Le.refl
  | ((with_reducible apply Fl.Le.new1); · with_reducible assumption
     · walk_at "le")
  | ((with_reducible apply Fl.Le.same1); · with_reducible assumption
     · walk_at "le")
  | ((with_reducible apply Fl.Le.gs1); · with_reducible assumption
     · walk_at "hp"
     · walk_at "le")
  | ((with_reducible apply Fl.Le.put1); · walk_at "hp"
     · walk_at "le"))
local macro_rules | `(tactic| walk_at "lt") => `(tactic| first
  | with_reducible assumption
  | with_reducible apply Fl.LeT.refl
  | ((with_reducible apply Fl.LeT.new1); · with_reducible assumption
     · walk_at "lt")
  | ((with_reducible apply Fl.LeT.same1); · with_reducible assumption
     · walk_at "lt")
  | ((with_reducible apply Fl.LeT.gs1); · with_reducible assumption
     · walk_at "hp"
     · walk_at "lt")
  | ((with_reducible apply Fl.LeT.put1); · walk_at "hp"
     · walk_at "lt"))
local macro_rules | `(tactic| walk_at "at") => `(tactic| first
  | with_reducible assumption
  | with_reducible apply Fl.at_int
  | with_reducible apply Fl.at_bl
  | with_reducible apply Fl.at_str
  | with_reducible apply Fl.at_non
  | ((with_reducible apply Fl.At.le1); · with_reducible assumption
     · walk_at "le"))
local macro_rules | `(tactic| walk_at "scr") => `(tactic| first
  | with_reducible assumption
  | ((with_reducible apply Fl.Scr.le1); · with_reducible assumption
     · walk_at "le"))
-- one step of a reading
local macro_rules | `(tactic| walk_at "cm") => `(tactic| first | exact Or.inr ⟨by decide, by decide⟩ | exact Or.inl ⟨by decide, by decide⟩ | (refine Or.inr ⟨?_, ?_⟩ <;> omega) | (refine Or.inl ⟨?_, ?_⟩ <;> omega) | (refine ⟨?_, ?_, ?_⟩ <;> (first | omega | (simp; done) | (apply Fl.small_of; simp; omega))))
local macro_rules | `(tactic| walk_at "side") => `(tactic| first
  | exact ⟨_, rfl⟩
  | with_reducible assumption
  | ((with_reducible apply Fl.ty_list); walk_at "hp")
  | ((with_reducible apply Fl.small_lt); first | (simp; done) | (simp; omega) | omega)
  | ((with_reducible apply Fl.small_of); first | (simp; done) | (simp; omega) | omega)
  | decide
  | omega
  | exact ⟨by decide, by decide⟩
  | (refine ⟨?_, ?_⟩ <;> omega)
  | walk_at "cm")
local macro_rules | `(tactic| walk_at "sq") => `(tactic| first
  | with_reducible assumption
  | ((with_reducible apply Fl.sq_o); · walk_at "hp"
     · rfl))
local macro_rules | `(tactic| walk_at "typ") => `(tactic| first
  | with_reducible assumption
  | ((with_reducible apply Fl.typ_at); · walk_at "at")
  | ((with_reducible apply Fl.typ_o); · walk_at "hp"
     · rfl))
local macro_rules | `(tactic| walk_at "s1") => `(tactic| first
  | with_reducible apply Fl.step
  | ((with_reducible apply Fl.r_var); · rfl)
  | ((with_reducible apply Fl.and_new); · (apply Fl.small_of; simp; done)
     intro _ _)
  | ((with_reducible apply Fl.ex_sq); · walk_at "sq")
  | ((with_reducible apply Fl.ex_v); · rfl)
  | ((with_reducible apply Fl.ex_typ); · walk_at "typ")
  | ((with_reducible apply Fl.ex_xs); · walk_at "hp")
  | ((with_reducible apply Fl.ex_bs); · walk_at "hp")
  | ((with_reducible apply Fl.ex_ns); · walk_at "hp")
  | ((with_reducible apply Fl.ex_o); · walk_at "hp")
  | ((with_reducible apply Fl.ex_at); · walk_at "at")
  | ((with_reducible apply Fl.ex_j); · rfl)
  | ((with_reducible apply And.intro); · walk_at "side")
  | ((with_reducible apply Fl.in_same); intro _ _ _ _)
  | ((with_reducible apply Fl.in_new); intro _ _)
  | ((with_reducible apply Fl.in_sm); intro _ _)
  | ((with_reducible apply Fl.in_gs); intro _ _; obtain ⟨_, _⟩ := Fl.Gs.st (by with_reducible assumption : Fl.Gs _ _ _))
  | ((with_reducible apply Fl.in_num); intro _ _ _ _ _; obtain ⟨_, _⟩ := Fl.Gs.st (by with_reducible assumption : Fl.Gs _ _ _))
  | ((with_reducible apply Fl.in_drw); intro _ _ _ _ _; obtain ⟨_, _⟩ := Fl.Gs.st (by with_reducible assumption : Fl.Gs _ _ _))
  | ((with_reducible apply Fl.in_mad); intro _ _ _ _ _)
  | ((with_reducible apply Fl.in_mix); intro _ _ _)
  | ((with_reducible apply Fl.in_int); intro _)
  | ((with_reducible apply Fl.ex_scr); · walk_at "scr")
  | ((with_reducible apply Fl.in_next); intro _ _ _ _)
  | ((with_reducible apply Fl.if_t); · rfl)
  | ((with_reducible apply Fl.if_f); · rfl))
local macro_rules | `(tactic| walk_at "s") => `(tactic| repeat walk_at "s1")
-- an if whose answer omega knows
local macro_rules | `(tactic| walk_at "yes") => `(tactic| first | refine Fl.if_dt (by first | with_reducible assumption | omega | decide) ?_ | refine Fl.if_nt (by first | with_reducible assumption | omega | decide) ?_)
local macro_rules | `(tactic| walk_at "no") => `(tactic| first | refine Fl.if_df (by first | with_reducible assumption | omega | decide) ?_ | refine Fl.if_nf (by first | with_reducible assumption | omega | decide) ?_)
-- data, piece by piece
local macro_rules | `(tactic| walk_at "at2") => `(tactic| first
  | walk_at "at"
  | ((with_reducible apply Fl.at_tup); · walk_at "hp"
     · walk_at "al")
  | ((with_reducible apply Fl.at_lst); · walk_at "hp"
     · intro z hz; simp at hz; done
     · walk_at "al"))
local macro_rules | `(tactic| walk_at "al") => `(tactic| first
  | with_reducible assumption
  | exact Fl.AtAll.nil
  | ((with_reducible apply Fl.AtAll.cons); · walk_at "at2"
     · walk_at "al")
  | ((with_reducible apply Fl.AtAll.le1); · with_reducible assumption
     · walk_at "le"))
/-! the text by places -/
namespace Fl
open PySem PySem.Spec PyProof.Rows L2
def topS (i : Nat) : Stmt := PySem.Challenge.pw_formlines_k02_rules.main.body.getD i (.Pass ⟨0, 0, 0, 0⟩)
end Fl
-- after:
namespace Fl
open PySem PySem.Spec PyProof.Rows L2 RZ
/-! ### what the tables' defs say -/
def isWhole (d : PyData) (lo hi : Int) : Bool := match d with
  | .int i => decide (lo ≤ i) && decide (i ≤ hi)
  | _ => false
def big : Int := 1000000000
def isNumber (d : PyData) : Bool := isWhole d (-1000000000) 1000000000
section
variable {P : Program} {w : World} {K : PySem.W.Frag} {mg : Str → Option Value} {base : Heap}
abbrev s_is_whole : Stmt := topS 2
theorem sc_is_whole : FnScope ["thing", "least", "most"] ["thing", "least", "most"] (defScope s_is_whole) := ⟨rfl, rfl, rfl, by decide +kernel, rfl, by decide +kernel, by decide +kernel⟩
def sp_is_whole : Sp3 := fun a b c H Q _ => ∃ d lo hi, At H d a ∧ b = .int lo ∧ c = .int hi ∧ Q (.bl (isWhole d lo hi)) H
theorem ok_is_whole (M : Mg mg) (D : DefAt K mg "is_whole" s_is_whole ["thing", "least", "most"]) : Has P w K mg base "is_whole" ["thing", "least", "most"] 1 (sp3 sp_is_whole) := by
  refine .mk3 D sc_is_whole fun f cdv A outer s H a b c Q E hr h => ⟨_, (pss_one (ps_ret (pe_and (pe_callB (k_isi K rfl) (by rfl) M.isinstance (by decide +kernel) (pa_cons (pv 0) (pa_cons (pe_bltn (v := .ty "int") (by rfl) M.int (by decide +kernel) rfl) pa_nil))) (pe_and (pe_not (pe_callB (k_isi K rfl) (by rfl) M.isinstance (by decide +kernel) (pa_cons (pv 0) (pa_cons (pe_bltn (v := .ty "bool") (by rfl) M.bool (by decide +kernel) rfl) pa_nil)))) (pe_one (pe_chain o_le o_le (pv 1) (pv 0) (pv 2))))))), ?_⟩
  obtain ⟨d, lo, hi, hd, rfl, rfl, q⟩ := h
  refine Fl.go_start (σ0 := [some _, some _, some _]) rfl ?_
  cases d <;> first | exact hd.elim | skip
  all_goals try (cases (show _ = _ from hd))
  case int =>
    rename_i i
    walk_at "s"
    refine if_d (fun c1 => ?_) (fun c1 => ?_)
    · walk_at "s"
      have e : isWhole (.int i) lo hi = decide (i ≤ hi) := by simp [isWhole, c1]
      rw [e] at q
      exact q
    · have e : isWhole (.int i) lo hi = false := by simp [isWhole, c1]
      rw [e] at q
      exact q
  all_goals (walk_at "s"; exact q)
instance {H : Hp} {Q : VK} {E : XK} {v : V} {lo hi : Int} : Step (sp_is_whole v (.int lo) (.int hi) H Q E) (∃ d, At H d v ∧ Q (.bl (isWhole d lo hi)) H) := ⟨fun ⟨d, h, q⟩ => ⟨d, _, _, h, rfl, rfl, q⟩⟩
abbrev s_is_number : Stmt := topS 3
theorem sc_is_number : FnScope ["thing"] ["thing"] (defScope s_is_number) := ⟨rfl, rfl, rfl, by decide +kernel, rfl, by decide +kernel, by decide +kernel⟩
def sp_is_number : Sp1 := fun a H Q _ => ∃ d, At H d a ∧ Q (.bl (isNumber d)) H
theorem ok_is_number (M : Mg mg) (c_GREATEST : ∃ t, mg "GREATEST" = some (.int 1000000000 t)) (G_is_whole : Has P w K mg base "is_whole" ["thing", "least", "most"] 1 (sp3 sp_is_whole)) (D : DefAt K mg "is_number" s_is_number ["thing"]) :
    Has P w K mg base "is_number" ["thing"] 2 (sp1 sp_is_number) := by
  refine .mk1 D sc_is_number fun f cdv A outer s H a Q E hr h => ⟨_, (pss_one (ps_ret (pe_own G_is_whole (hr.mono (by first | decide | omega)) (by rfl) p_body (pa_cons (pv 0) (pa_cons (pe_un o_neg (pe_gi (by rfl) c_GREATEST)) (pa_cons (pe_gi (by rfl) c_GREATEST) pa_nil)))))), ?_⟩
  obtain ⟨d, hd, q⟩ := h
  refine Fl.go_start (σ0 := [some _]) rfl ?_
  walk_at "s"
  exact q
instance {H : Hp} {Q : VK} {E : XK} {v : V} : Step (sp_is_number v H Q E) (∃ d, At H d v ∧ Q (.bl (isNumber d)) H) := ⟨fun h => h⟩
end
end Fl

-- after:
namespace Fl
open PySem PySem.Spec PyProof.Rows L2 RZ
/-! ### texts, walked; lists against the empty list -/
section
variable {σ : L2.St} {H : Hp} {nx bk ct : L2.St → Hp → Prop} {rt : VK} {Q : VK} {te : TE} {tb : TS} {g : TG} {tt : TT} {K : PySem.W.Frag} {vs : List Nat}
def uInSign : R2 := fun x y H Q => match x, y with
  | .str a, .str z => ∃ c : Nat, a = ⟨#[c]⟩ ∧ Q (.bl (decide (c ∈ z.cps.toList))) H
  | _, _ => False
theorem o_in_sign {X : Cx} : OpR X (compareOp .In) uInSign := by
  intro pins s σ H x y v u Q I rx ry h
  cases x <;> first | exact h.elim | skip
  cases y <;> first | exact h.elim | skip
  obtain ⟨c, rfl, q⟩ := h
  exact op_in_sign pins s σ H _ _ v u Q I rx ry ⟨c, _, rfl, rfl, q⟩
def uNotInSign : R2 := fun x y H Q => match x, y with
  | .str a, .str z => ∃ c : Nat, a = ⟨#[c]⟩ ∧ Q (.bl (!decide (c ∈ z.cps.toList))) H
  | _, _ => False
theorem o_notIn_sign {X : Cx} : OpR X (compareOp .NotIn) uNotInSign := by
  intro pins s σ H x y v u Q I rx ry h
  cases x <;> first | exact h.elim | skip
  cases y <;> first | exact h.elim | skip
  obtain ⟨c, rfl, q⟩ := h
  exact op_notIn_sign pins s σ H _ _ v u Q I rx ry ⟨c, _, rfl, rfl, q⟩
instance {c : Nat} {z : Str} : Step (uInSign (.str ⟨#[c]⟩) (.str z) H Q) (Q (.bl (decide (c ∈ z.cps.toList))) H) := ⟨fun h => ⟨c, rfl, h⟩⟩
instance {c : Nat} {z : Str} : Step (uNotInSign (.str ⟨#[c]⟩) (.str z) H Q) (Q (.bl (!decide (c ∈ z.cps.toList))) H) := ⟨fun h => ⟨c, rfl, h⟩⟩
/-- a list against the empty list, at any depth -/
def uNeE (K : PySem.W.Frag) : R2 := fun x y H Q => ∃ a b ds vs, x = .ref a ∧ y = .ref b ∧ H b = some (.lst []) ∧ H a = some (.lst vs) ∧ DpAll K H vs ds ∧ PyData.canLayAll0 ds = true ∧ Q (.bl (!vs.isEmpty)) H
theorem eqv_nil (ds : List PyData) : PyData.eqv (.list ds) (.list []) = ds.isEmpty := by
  cases ds <;> simp [PyData.eqv, PyData.eqvAll]
theorem dpAll_empty {vs : List V} {ds : List PyData} (h : DpAll K H vs ds) : vs.isEmpty = ds.isEmpty := by
  cases h <;> rfl
theorem k_neE (K : PySem.W.Frag) {X : Cx} (h : X.K = K) {k : Nat} (hr : Room k X.A) : OpR X (compareOp .NotEq) (uNeE K) := by
  subst h
  intro pins s σ H x y v u Q I rx ry h
  obtain ⟨a, b, ds, vs, rfl, rfl, hb, ha, hd, hl, q⟩ := h
  obtain ⟨as, r1⟩ := Dp.reads I (.list ds) (.ref a) v (.lst (.of ha) hd) rx
  obtain ⟨bs, r2⟩ := Dp.reads I (.list []) (.ref b) u (.lst (.of hb) .nil) ry
  have hu := hr.units
  refine SeqAt.compareNe_reads r1 r2 (by simpa [PyData.canLay0] using hl) (by simp [PyData.canLay0, PyData.canLayAll0]) ?_ ⟨.bl _, H, I, rfl, ?_⟩
  · have : min (PyData.depth (.list ds)) (PyData.depth (.list [])) ≤ PyData.depth (.list []) := Nat.min_le_right _ _
    have e : PyData.depth (.list []) = 1 := by simp [PyData.depth, PyData.depthAll]
    omega
  · rw [eqv_nil, ← dpAll_empty hd]
    exact q
theorem ne_e {a b : Addr} {ds : List PyData} {vs : List V} (hb : H b = some (.lst [])) (ha : H a = some (.lst vs)) (hd : DpAll K H vs ds) (hl : PyData.canLayAll0 ds = true) (q : Q (.bl (!vs.isEmpty)) H) : uNeE K (.ref a) (.ref b) H Q :=
  ⟨a, b, ds, vs, rfl, rfl, hb, ha, hd, hl, q⟩
def uEqE (K : PySem.W.Frag) : R2 := fun x y H Q => ∃ a b ds vs, x = .ref a ∧ y = .ref b ∧ H b = some (.lst []) ∧ H a = some (.lst vs) ∧ DpAll K H vs ds ∧ PyData.canLayAll0 ds = true ∧ Q (.bl vs.isEmpty) H
theorem k_eqE (K : PySem.W.Frag) {X : Cx} (h : X.K = K) {k : Nat} (hr : Room k X.A) : OpR X (compareOp .Eq) (uEqE K) := by
  subst h
  intro pins s σ H x y v u Q I rx ry h
  obtain ⟨a, b, ds, vs, rfl, rfl, hb, ha, hd, hl, q⟩ := h
  obtain ⟨as, r1⟩ := Dp.reads I (.list ds) (.ref a) v (.lst (.of ha) hd) rx
  obtain ⟨bs, r2⟩ := Dp.reads I (.list []) (.ref b) u (.lst (.of hb) .nil) ry
  have hu := hr.units
  refine SeqAt.compareEq_reads r1 r2 (by simpa [PyData.canLay0] using hl) (by simp [PyData.canLay0, PyData.canLayAll0]) ?_ ⟨.bl _, H, I, rfl, ?_⟩
  · have : min (PyData.depth (.list ds)) (PyData.depth (.list [])) ≤ PyData.depth (.list []) := Nat.min_le_right _ _
    have e : PyData.depth (.list []) = 1 := by simp [PyData.depth, PyData.depthAll]
    omega
  · rw [eqv_nil, ← dpAll_empty hd]
    exact q
theorem eq_e {a b : Addr} {ds : List PyData} {vs : List V} (hb : H b = some (.lst [])) (ha : H a = some (.lst vs)) (hd : DpAll K H vs ds) (hl : PyData.canLayAll0 ds = true) (q : Q (.bl vs.isEmpty) H) : uEqE K (.ref a) (.ref b) H Q :=
  ⟨a, b, ds, vs, rfl, rfl, hb, ha, hd, hl, q⟩
theorem dpAll_ints : ∀ ns : List Int, DpAll K H (ns.map V.int) (ns.map PyData.int)
  | [] => .nil
  | n :: r => .cons (.int n) (dpAll_ints r)
theorem lay_ints : ∀ ns : List Int, PyData.canLayAll0 (ns.map PyData.int) = true
  | [] => rfl
  | n :: r => by simp [PyData.canLayAll0, PyData.canLay0, lay_ints r]
theorem eq_eI {a b : Addr} {ns : List Int} (hb : H b = some (.lst [])) (ha : H a = some (.lst (ns.map V.int))) (q : Q (.bl ns.isEmpty) H) : uEqE K (.ref a) (.ref b) H Q :=
  eq_e hb ha (dpAll_ints ns) (lay_ints ns) (by rw [List.isEmpty_map]; exact q)
theorem ne_eI {a b : Addr} {ns : List Int} (hb : H b = some (.lst [])) (ha : H a = some (.lst (ns.map V.int))) (q : Q (.bl (!ns.isEmpty)) H) : uNeE K (.ref a) (.ref b) H Q :=
  ne_e hb ha (dpAll_ints ns) (lay_ints ns) (by rw [List.isEmpty_map]; exact q)
instance {z : Str} {S : Str → Prop} : Step (∃ x, V.str z = .str x ∧ S x) (S z) := ⟨fun h => ⟨_, rfl, h⟩⟩
theorem atI_0 {x : V} {xs : List V} : atI (x :: xs) 0 = some x := atI_nat (j := 0) rfl
theorem atI_1 {x y : V} {xs : List V} : atI (x :: y :: xs) 1 = some y := atI_nat (j := 1) rfl
theorem atI_2 {x y z : V} {xs : List V} : atI (x :: y :: z :: xs) 2 = some z := atI_nat (j := 2) rfl
theorem atI_3 {x y z u : V} {xs : List V} : atI (x :: y :: z :: u :: xs) 3 = some u := atI_nat (j := 3) rfl
instance {x : V} {xs : List V} {S : V → Prop} : Step (∃ v, atI (x :: xs) 0 = some v ∧ S v) (S x) := ⟨fun h => ⟨_, atI_0, h⟩⟩
instance {x y : V} {xs : List V} {S : V → Prop} : Step (∃ v, atI (x :: y :: xs) 1 = some v ∧ S v) (S y) := ⟨fun h => ⟨_, atI_1, h⟩⟩
instance {x y z : V} {xs : List V} {S : V → Prop} : Step (∃ v, atI (x :: y :: z :: xs) 2 = some v ∧ S v) (S z) := ⟨fun h => ⟨_, atI_2, h⟩⟩
instance {x y z u : V} {xs : List V} {S : V → Prop} : Step (∃ v, atI (x :: y :: z :: u :: xs) 3 = some v ∧ S v) (S u) := ⟨fun h => ⟨_, atI_3, h⟩⟩
instance {n : Nat} {t : TGs} {a : Addr} {R : L2.St → Hp → Prop} : Step (gTup K n t (.ref a) σ H R) (∃ o, H a = some o ∧ ∃ xs, o = .tup xs ∧ xs.length = n ∧ t xs σ H R) := ⟨fun ⟨o, h, xs, e, l, q⟩ => ⟨a, xs, rfl, .of (by rw [h, e]), l, q⟩⟩
instance {xs : List V} {S : List V → Prop} : Step (∃ ys, HO.tup xs = HO.tup ys ∧ S ys) (S xs) := ⟨fun h => ⟨_, rfl, h⟩⟩
instance {t : TG} {u : TGs} {v : V} {r : List V} {R : L2.St → Hp → Prop} : Step (gCons t u (v :: r) σ H R) (t v σ H fun σ' H' => u r σ' H' R) := ⟨fun h => ⟨v, r, rfl, h⟩⟩
instance {R : L2.St → Hp → Prop} : Step (gNil [] σ H R) (R σ H) := ⟨fun h => ⟨rfl, h⟩⟩
instance {R : It → Hp → Prop} : Step (iStr te σ H R) (te σ H fun v H1 => ∃ x, v = .str x ∧ R (Its x) H1) := ⟨fun h => h⟩
theorem for_str {x : Str} (Pv : Nat → L2.St → Hp → Prop) (h0 : Pv 0 σ H)
    (hs : ∀ (i c : Nat) σ H, x.cps[i]? = some c → Pv i σ H → g (.str ⟨#[c]⟩) σ H fun σ2 H2 => tb ⟨Pv (i + 1), rt, nx, Pv (i + 1)⟩ σ2 H2) (hd : ∀ σ H, Pv x.cps.size σ H → nx σ H) : forG g tb ⟨nx, rt, bk, ct⟩ σ (Its x) H := by
  refine ⟨fun i m σ H => m = x.cps.size - i ∧ i ≤ x.cps.size ∧ Pv i σ H, ⟨x.cps.size, by simp, Nat.zero_le _, h0⟩, ?_⟩
  rintro i m σ H ⟨rfl, hi, p⟩
  by_cases hlt : i < x.cps.size
  · refine .inr ⟨hlt, Pv (i + 1), fun σ' H' p' => ⟨x.cps.size - (i + 1), by omega, rfl, hlt, p'⟩, fun y H' z => ?_⟩
    obtain ⟨e, c, ec, z⟩ := z
    subst e z
    exact hs i c σ _ ec p
  · have e : i = x.cps.size := by omega
    subst e
    exact .inl ⟨Nat.le_refl _, hd σ H p⟩
theorem lc_str {x : Str} (Pv : Addr → Nat → Hp → Prop) (h0 : ∀ D, H D = none → Pv D 0 (upd H D (.lst [])))
    (hs : ∀ D (i c : Nat) H', H D = none → x.cps[i]? = some c → Pv D i H' → g (.str ⟨#[c]⟩) (wipe σ vs) H' fun σ2 H2 => wipe σ2 vs = wipe σ vs ∧ tt σ2 H2 fun b H3 =>
      if b = true then te σ2 H3 fun y H4 => ∃ acc, H4 D = some (.lst acc) ∧ acc.length < sizeLine ∧ Pv D (i + 1) (upd H4 D (.lst (acc ++ [y]))) else Pv D (i + 1) H3)
    (hd : ∀ D H', H D = none → Pv D x.cps.size H' → Q (.ref D) H') : lcG g tt te vs σ Q (Its x) H := by
  intro D hD
  refine ⟨fun i m H => m = x.cps.size - i ∧ i ≤ x.cps.size ∧ Pv D i H, ⟨x.cps.size, by simp, Nat.zero_le _, h0 D hD⟩, ?_⟩
  rintro i m H' ⟨rfl, hi, p⟩
  by_cases hlt : i < x.cps.size
  · refine .inr ⟨hlt, Pv D (i + 1), fun H' p' => ⟨x.cps.size - (i + 1), by omega, rfl, hlt, p'⟩, fun y H' z => ?_⟩
    obtain ⟨e, c, ec, z⟩ := z
    subst e z
    exact hs D i c _ hD ec p
  · have e : i = x.cps.size := by omega
    subst e
    exact .inl ⟨Nat.le_refl _, hd D H' hD p⟩
theorem lc_seqS {x : Str} {j : Nat} (ys : List V) (hy : ys.length = x.cps.size) (hl : ys.length < 100000) (hw : ∀ x, wipe ((wipe σ vs).set j (some x)) vs = wipe σ vs)
    (hs : ∀ (i c : Nat) y H', x.cps[i]? = some c → ys[i]? = some y → Same H H' → Pure te ((wipe σ vs).set j (some (.str ⟨#[c]⟩))) H' y) (hd : ∀ D H', H D = none → Same H H' → H' D = some (.lst ys) → Q (.ref D) H') : lcG (gName j) tYes te vs σ Q (Its x) H := by
  refine lc_str (fun D i H' => H' D = some (.lst (ys.take i)) ∧ Same H H') (fun D hD => ⟨upd_same, Same.new (.refl _) hD⟩) (fun D i c H' hD e p => ?_) fun D H' hD p => ?_
  · have hi : i < ys.length := by
      rw [hy]
      exact (Array.getElem?_eq_some_iff.mp e).1
    exact pure_step hl hw hD (List.getElem?_eq_getElem hi) p (hs i c _ H' e (List.getElem?_eq_getElem hi) p.2)
  · refine hd D H' hD p.2 ?_
    rw [← hy, List.take_length] at p
    exact p.1
/-- min, max of two; list(range(..)) -/
def uMin2 : List V → Hp → VK → Prop := fun xs H Q => ∃ i j, xs = [.int i, .int j] ∧ Q (.int (if j < i then j else i)) H
theorem c_min2 {X : Cx} (hc : X.calm = true) : CallR X (.builtin "min") uMin2 := call_min2 hc
instance {i j : Int} : Step (uMin2 [.int i, .int j] H Q) (Q (.int (if j < i then j else i)) H) := ⟨fun h => ⟨_, _, rfl, h⟩⟩
def uMax2 : List V → Hp → VK → Prop := fun xs H Q => ∃ i j, xs = [.int i, .int j] ∧ Q (.int (if j > i then j else i)) H
theorem c_max2 {X : Cx} (hc : X.calm = true) : CallR X (.builtin "max") uMax2 := call_max2 hc
instance {i j : Int} : Step (uMax2 [.int i, .int j] H Q) (Q (.int (if j > i then j else i)) H) := ⟨fun h => ⟨_, _, rfl, h⟩⟩
instance {tr : L2.St → Hp → (Int → Int → Hp → Prop) → Prop} : Step (tLstRg tr σ H Q) (tr σ H fun a b H1 => RgOk a b ∧ ∀ q, H1 q = none → Q (.ref q) (upd H1 q (.lst (rgV a b)))) := ⟨fun h => h⟩
instance {R : Int → Int → Hp → Prop} : Step (tRg1 te σ H R) (te σ H fun x H1 => ∃ n, x = .int n ∧ R 0 n H1) := ⟨fun h => h⟩
instance {tf : TE} {R : Int → Int → Hp → Prop} : Step (tRg2 te tf σ H R) (te σ H fun x H1 => tf σ H1 fun y H2 => ∃ i j, x = .int i ∧ y = .int j ∧ R i j H2) := ⟨fun h => h⟩
end
end Fl

-- after: wn.tpl ext.tpl
namespace Fl
open PySem PySem.Spec PyProof.Rows L2 RZ
/-! ### rules as data -/
def letters : Str := "abcdefghijklmnopqrstuvwxyz"
def isWord : PyData → Bool
  | .str x => decide (1 ≤ x.length) && decide (x.length ≤ 8) && x.cps.toList.all fun c => decide (c ∈ letters.cps.toList)
  | _ => false
/-! data of short texts -/
mutual
def okD : PyData → Bool
  | .none | .bool _ | .int _ => true
  | .str x => (PyData.str x).canLay0 && decide (x.length ≤ 1000)
  | .list ds | .tuple ds => okAll ds
  | .dict _ => false
def okAll : List PyData → Bool
  | [] => true
  | d :: ds => okD d && okAll ds
end
mutual
theorem okD_lay : ∀ d : PyData, okD d = true → d.canLay0 = true
  | .none, _ | .bool _, _ | .int _, _ => by simp [PyData.canLay0]
  | .str x, h => by
    simp only [okD, Bool.and_eq_true] at h
    exact h.1
  | .list ds, h | .tuple ds, h => by
    simp only [okD] at h
    simp only [PyData.canLay0]
    exact okAll_lay ds h
  | .dict _, h => by simp [okD] at h
theorem okAll_lay : ∀ ds : List PyData, okAll ds = true → PyData.canLayAll0 ds = true
  | [], _ => rfl
  | d :: ds, h => by
    simp only [okAll, Bool.and_eq_true] at h
    simp only [PyData.canLayAll0, Bool.and_eq_true]
    exact ⟨okD_lay d h.1, okAll_lay ds h.2⟩
end
theorem okAll_mem {ds : List PyData} (h : okAll ds = true) {d : PyData} (m : d ∈ ds) : okD d = true := by
  induction ds with
  | nil => cases m
  | cons e r ih =>
    simp only [okAll, Bool.and_eq_true] at h
    rcases List.mem_cons.mp m with z | z
    · rw [z]; exact h.1
    · exact ih h.2 z
theorem okAll_of {ds : List PyData} (h : ∀ d ∈ ds, okD d = true) : okAll ds = true := by
  induction ds with
  | nil => rfl
  | cons e r ih =>
    simp only [okAll, Bool.and_eq_true]
    exact ⟨h e (List.mem_cons_self ..), ih fun d m => h d (List.mem_cons_of_mem _ m)⟩
theorem okD_len {x : Str} (h : okD (.str x) = true) : x.length ≤ 1000 := by
  simp only [okD, Bool.and_eq_true] at h
  exact of_decide_eq_true h.2
/-- which parts of a rule are rules (counted in the whole, the word being 0) -/
def placesOf (T C : Int) (w : Str) (ds : List PyData) : Option (List Int) :=
  if (w = "add" ∨ w = "take" ∨ w = "least" ∨ w = "most") ∧ ds.length = 2 then some [1, 2]
  else if w = "part" ∧ ds.length = 2 ∧ isWhole (ds.getD 1 .none) 0 100 = true then some [1]
  else if w = "table" ∧ ds.length = 2 ∧ isWhole (ds.getD 0 .none) 0 (T - 1) = true then some [2]
  else if w = "where" ∧ ds.length = 3 then some [1, 2, 3]
  else if w = "choose" ∧ ds.length = 3 ∧ isWhole (ds.getD 0 .none) 0 (C - 1) = true then some [2, 3]
  else none
def isPlain (L : Int) (w : Str) (ds : List PyData) : Bool :=
  if w = "number" then decide (ds.length = 1) && isNumber (ds.getD 0 .none)
  else if w = "paper" then decide (ds.length = 1) && isWord (ds.getD 0 .none)
  else (decide (w = "line") || decide (w = "earlier")) && decide (ds.length = 1) && isWhole (ds.getD 0 .none) 0 (L - 1)
theorem inV_str {w a : Str} {xs : List V} : inV (.str w) (.str a :: xs) = (decide (w = a) || inV (.str w) xs) := by
  have e : (a == w) = decide (w = a) := by
    by_cases h : w = a
    · subst h; simp
    · rw [decide_eq_false h]
      exact beq_false_of_ne (Ne.symm h)
  show (eqV (.str a) (.str w) || inV (.str w) xs) = _
  rw [← e]
  rfl
theorem inV_nil {x : V} : inV x [] = false := rfl
section
variable {P : Program} {w : World} {K : PySem.W.Frag} {mg : Str → Option Value} {base : Heap}
instance {H : Hp} {Q : VK} {w : Str} {p : Addr} : Step (uIn K (.str w) (.ref p) H Q) (∃ xs, IsSq K H p xs ∧ xs.all flatV = true ∧ Q (.bl (inV (.str w) xs)) H) := ⟨fun ⟨xs, h, f, q⟩ => .inl ⟨p, xs, rfl, h, rfl, f, q⟩⟩
instance {H : Hp} {Q : VK} {w : Str} {p : Addr} : Step (uNotIn K (.str w) (.ref p) H Q) (∃ xs, IsSq K H p xs ∧ xs.all flatV = true ∧ Q (.bl (!inV (.str w) xs)) H) := ⟨fun ⟨xs, h, f, q⟩ => .inl ⟨p, xs, rfl, h, rfl, f, q⟩⟩
abbrev s_is_word : Stmt := topS 8
theorem sc_is_word : FnScope ["thing", "sign"] ["thing"] (defScope s_is_word) := ⟨rfl, rfl, rfl, by decide +kernel, rfl, by decide +kernel, by decide +kernel⟩
def sp_is_word : Sp1 := fun a H Q _ => ∃ d, At H d a ∧ okD d = true ∧ ∀ H', Same H H' → Q (.bl (isWord d)) H'
instance {H : Hp} {Q : VK} {E : XK} {v : V} : Step (sp_is_word v H Q E) (∃ d, At H d v ∧ okD d = true ∧ SmQ H fun H' => Q (.bl (isWord d)) H') := ⟨fun h => h⟩
theorem ok_is_word (M : Mg mg) (c_LONGEST : ∃ t, mg "LONGEST" = some (.int 8 t)) (c_LETTERS : ∃ t, mg "LETTERS" = some (.str letters t)) (D : DefAt K mg "is_word" s_is_word ["thing"]) :
    Has P w K mg base "is_word" ["thing"] 1 (sp1 sp_is_word) := by
  refine .mk1 D sc_is_word fun f cdv A outer s H a Q E hr h => ⟨_, (pss_cons (ps_if (PW.pt (pw_or (pt_not (pt_val (pe_callB (k_isi K rfl) (by rfl) M.isinstance (by decide +kernel) (pa_cons (pv 0) (pa_cons (pe_bltn (v := .ty "str") (by rfl) M.str (by decide +kernel) rfl) pa_nil))))) (pw_or (pt_cmpR o_lt (pe_callB (k_len K rfl) (by rfl) M.len (by decide +kernel) (pa_cons (pv 0) pa_nil)) pe_int (nomark _)) (pw_or1 (pt_cmpR o_gt (pe_callB (k_len K rfl) (by rfl) M.len (by decide +kernel) (pa_cons (pv 0) pa_nil)) (pe_gi (by rfl) c_LONGEST) (nomark _)))))) (pss_one (ps_ret pe_bl)) pss_nil)
    (pss_one (ps_ret (pe_callB (k_all K rfl rfl) (by rfl) M.all (by decide +kernel) (pa_cons (pe_lc (own := [("sign", 1)]) (g := gName 1) (by rfl) sc_is_word.nd (pi_str (pv 0)) (blkOk_by (N := ["thing", "sign"]) (sc := (defScope s_is_word)) (own := [("sign", 1)]) (by decide +kernel)) (fun _ _ _ _ _ => (pg_name (i := 1) sc_is_word.nd rfl (by first | exact Or.inl rfl | exact Or.inr rfl))) (fun _ _ _ _ _ => pts_nil) (fun _ _ _ _ _ => (pe_cmpR o_in_sign (pv 1) (pe_gs (by rfl) c_LETTERS) (by rfl)))) pa_nil))))), ?_⟩
  obtain ⟨d, hd, ok, q⟩ := h
  refine Fl.go_start (σ0 := [some _, none]) rfl ?_
  cases d <;> first | exact hd.elim | skip
  all_goals try (cases (show _ = _ from hd))
  case str =>
    rename_i x
    have l := okD_len ok
    have l2 : x.length ≤ sizeLine := small_of (by omega)
    walk_at "s"
    refine if_d (fun c => ?_) (fun c => ?_)
    · walk_at "s"
      have e : isWord (.str x) = false := by simp [isWord, show ¬ 1 ≤ x.length by omega]
      rw [e] at q
      exact q _ (.refl _)
    walk_at "s"
    refine if_d (fun c => ?_) (fun c => ?_)
    · walk_at "s"
      have e : isWord (.str x) = false := by simp [isWord, show ¬ x.length ≤ 8 by omega]
      rw [e] at q
      exact q _ (.refl _)
    walk_at "s"
    have lx : x.length = x.cps.toList.length := by simp [Str.length]
    refine lc_seqS ((x.cps.toList.map fun c => decide (c ∈ letters.cps.toList)).map V.bl) (by simp) (by simp; simp at lx; omega) (fun _ => rfl) (fun i c y H' ex ey sm R hR => ?_) (fun D1 H1 hD1 sm1 eD1 => ?_)
    · have e : y = .bl (decide (c ∈ letters.cps.toList)) := by
        rw [List.getElem?_map, List.getElem?_map, Array.getElem?_toList, ex] at ey
        exact (Option.some.inj ey).symm
      subst e
      walk_at "s"
      exact hR _ (.refl _)
    walk_at "s"
    have e : isWord (.str x) = (x.cps.toList.map fun c => decide (c ∈ letters.cps.toList)).all id := by
      simp [isWord, show 1 ≤ x.length by omega, show x.length ≤ 8 by omega, List.all_map]
    rw [e] at q
    exact q _ sm1
  all_goals (walk_at "s"; exact q _ (.refl _))
abbrev s_is_plain : Stmt := topS 9
theorem sc_is_plain : FnScope ["rule", "lines"] ["rule", "lines"] (defScope s_is_plain) := ⟨rfl, rfl, rfl, by decide +kernel, rfl, by decide +kernel, by decide +kernel⟩
/-- a tuple with a text first -/
def WRule (H : Hp) (a : V) (w : Str) (ds : List PyData) : Prop := ∃ p vs, a = .ref p ∧ H p = some (.tup (.str w :: vs)) ∧ AtAll H ds vs ∧ okAll ds = true
def sp_is_plain : Sp2 := fun a b H Q _ => ∃ w ds L, WRule H a w ds ∧ b = .int L ∧ ∀ H', Same H H' → Q (.bl (isPlain L w ds)) H'
theorem ok_is_plain (M : Mg mg) (G_is_whole : Has P w K mg base "is_whole" ["thing", "least", "most"] 1 (sp3 sp_is_whole)) (G_is_number : Has P w K mg base "is_number" ["thing"] 2 (sp1 sp_is_number)) (G_is_word : Has P w K mg base "is_word" ["thing"] 1 (sp1 sp_is_word))
    (D : DefAt K mg "is_plain" s_is_plain ["rule", "lines"]) : Has P w K mg base "is_plain" ["rule", "lines"] 3 (sp2 sp_is_plain) := by
  refine .mk2 D sc_is_plain fun f cdv A outer s H a b Q E hr h => ⟨_, (pss_cons (ps_if (pt_cmpR (k_eq K rfl hr) (pe_ix (k_ix K rfl) (pv 0) pe_int (fun _ _ => rfl)) pe_str (nomark _)) (pss_one (ps_ret (pe_and (pe_cmpR (k_eq K rfl hr) (pe_callB (k_len K rfl) (by rfl) M.len (by decide +kernel) (pa_cons (pv 0) pa_nil)) pe_int (nomark _)) (pe_one (pe_own G_is_number (hr.mono (by first | decide | omega)) (by rfl) p_body (pa_cons (pe_ix (k_ix K rfl) (pv 0) pe_int (fun _ _ => rfl)) pa_nil)))))) pss_nil)
    (pss_cons (ps_if (pt_cmpR (k_eq K rfl hr) (pe_ix (k_ix K rfl) (pv 0) pe_int (fun _ _ => rfl)) pe_str (nomark _)) (pss_one (ps_ret (pe_and (pe_cmpR (k_eq K rfl hr) (pe_callB (k_len K rfl) (by rfl) M.len (by decide +kernel) (pa_cons (pv 0) pa_nil)) pe_int (nomark _)) (pe_one (pe_own G_is_word (hr.mono (by first | decide | omega)) (by rfl) p_body (pa_cons (pe_ix (k_ix K rfl) (pv 0) pe_int (fun _ _ => rfl)) pa_nil)))))) pss_nil)
    (pss_one (ps_ret (pe_and (pe_cmpR (k_in K rfl hr) (pe_ix (k_ix K rfl) (pv 0) pe_int (fun _ _ => rfl)) (pe_lst (pa_cons pe_str (pa_cons pe_str pa_nil))) (by rfl)) (pe_and (pe_cmpR (k_eq K rfl hr) (pe_callB (k_len K rfl) (by rfl) M.len (by decide +kernel) (pa_cons (pv 0) pa_nil)) pe_int (nomark _)) (pe_one (pe_own G_is_whole (hr.mono (by first | decide | omega)) (by rfl) p_body (pa_cons (pe_ix (k_ix K rfl) (pv 0) pe_int (fun _ _ => rfl)) (pa_cons pe_int (pa_cons (pe_op o_sub (pv 1) pe_int) pa_nil))))))))))), ?_⟩
  obtain ⟨w, ds, L, ⟨p, vs, rfl, hp, hvs, ok⟩, rfl, q⟩ := h
  have l := hvs.length
  refine Fl.go_start (σ0 := [some _, some _]) rfl ?_
  walk_at "s"
  refine if_d (fun c => ?_) (fun c => ?_)
  · walk_at "s"
    refine if_d (fun c1 => ?_) (fun c1 => ?_)
    · obtain ⟨d0, v0, rfl, rfl, h0⟩ := hvs.ex1 (by simp at c1; omega)
      walk_at "s"
      have e : isPlain L w [d0] = isNumber d0 := by simp [isPlain, c]
      rw [e] at q
      exact q _ (.refl _)
    · walk_at "s"
      have e : isPlain L w ds = false := by
        have : ¬ ds.length = 1 := by simp at c1; omega
        simp [isPlain, c, this]
      rw [e] at q
      exact q _ (.refl _)
  walk_at "s"
  refine if_d (fun c0 => ?_) (fun c0 => ?_)
  · walk_at "s"
    refine if_d (fun c1 => ?_) (fun c1 => ?_)
    · obtain ⟨d0, v0, rfl, rfl, h0⟩ := hvs.ex1 (by simp at c1; omega)
      have ok0 : okD d0 = true := okAll_mem ok (List.mem_singleton.mpr rfl)
      walk_at "s"
      have e : isPlain L w [d0] = isWord d0 := by unfold isPlain; rw [if_neg c, if_pos c0]; simp
      rw [e] at q
      exact q _ (by walk_at "sm")
    · walk_at "s"
      have e : isPlain L w ds = false := by
        have : ¬ ds.length = 1 := by simp at c1; omega
        unfold isPlain; rw [if_neg c, if_pos c0]; simp [this]
      rw [e] at q
      exact q _ (.refl _)
  walk_at "s"
  rename_i pl hpl
  rw [inV_str, inV_str, inV_nil, Bool.or_false]
  refine if_b (fun c2 => ?_) (fun c2 => ?_)
  · walk_at "s"
    refine if_d (fun c1 => ?_) (fun c1 => ?_)
    · obtain ⟨d0, v0, rfl, rfl, h0⟩ := hvs.ex1 (by simp at c1; omega)
      walk_at "s"
      have e : isPlain L w [d0] = isWhole d0 0 (L - 1) := by simp [isPlain, c, c0, c2]
      rw [e] at q
      exact q _ (by walk_at "sm")
    · walk_at "s"
      have e : isPlain L w ds = false := by
        have : ¬ ds.length = 1 := by simp at c1; omega
        simp [isPlain, c, c0, this]
      rw [e] at q
      exact q _ (by walk_at "sm")
  · walk_at "s"
    have e : isPlain L w ds = false := by
      simp [isPlain, c, c0, c2]
    rw [e] at q
    exact q _ (by walk_at "sm")
instance {H : Hp} {Q : VK} {E : XK} {a : V} {L : Int} : Step (sp_is_plain a (.int L) H Q E) (∃ w ds, WRule H a w ds ∧ SmQ H fun H' => Q (.bl (isPlain L w ds)) H') := ⟨fun ⟨w, ds, h, q⟩ => ⟨w, ds, L, h, rfl, q⟩⟩
abbrev s_places_of : Stmt := topS 10
theorem sc_places_of : FnScope ["rule", "tables", "choices"] ["rule", "tables", "choices"] (defScope s_places_of) := ⟨rfl, rfl, rfl, by decide +kernel, rfl, by decide +kernel, by decide +kernel⟩
/-- what places_of hands back -/
def PlQ (o : Option (List Int)) (H : Hp) (Q : V → Hp → Prop) : Prop := match o with
  | none => ∀ H', Same H H' → Q .non H'
  | some ns => ∀ p H', Same H H' → H' p = some (.lst (ns.map V.int)) → Q (.ref p) H'
theorem plq_none {H H' : Hp} {Q : V → Hp → Prop} (q : PlQ none H Q) (e : Same H H') : Q .non H' := q _ e
theorem plq_some {H H' : Hp} {Q : V → Hp → Prop} {ns : List Int} {p : Addr} {vs : List V} (q : PlQ (some ns) H Q) (e : Same H H') (h : H' p = some (.lst vs)) (z : vs = ns.map V.int) : Q (.ref p) H' := q p _ e (by rw [h, z])
def sp_places_of : Sp3 := fun a b c H Q _ => ∃ w ds T C, WRule H a w ds ∧ b = .int T ∧ c = .int C ∧ PlQ (placesOf T C w ds) H Q
theorem ok_places_of (M : Mg mg) (G_is_whole : Has P w K mg base "is_whole" ["thing", "least", "most"] 1 (sp3 sp_is_whole)) (D : DefAt K mg "places_of" s_places_of ["rule", "tables", "choices"]) : Has P w K mg base "places_of" ["rule", "tables", "choices"] 2 (sp3 sp_places_of) := by
  refine .mk3 D sc_places_of fun f cdv A outer s H a b c Q E hr h => ⟨_, (pss_cons (ps_if (PW.pt (pw_and (pt_cmpR (k_in K rfl hr) (pe_ix (k_ix K rfl) (pv 0) pe_int (fun _ _ => rfl)) (pe_lst (pa_cons pe_str (pa_cons pe_str (pa_cons pe_str (pa_cons pe_str pa_nil))))) (by rfl)) (pw_and1 (pt_cmpR (k_eq K rfl hr) (pe_callB (k_len K rfl) (by rfl) M.len (by decide +kernel) (pa_cons (pv 0) pa_nil)) pe_int (nomark _))))) (pss_one (ps_ret (pe_lst (pa_cons pe_int (pa_cons pe_int pa_nil))))) pss_nil)
    (pss_cons (ps_if (PW.pt (pw_and (pt_cmpR (k_eq K rfl hr) (pe_ix (k_ix K rfl) (pv 0) pe_int (fun _ _ => rfl)) pe_str (nomark _)) (pw_and (pt_cmpR (k_eq K rfl hr) (pe_callB (k_len K rfl) (by rfl) M.len (by decide +kernel) (pa_cons (pv 0) pa_nil)) pe_int (nomark _)) (pw_and1 (pt_val (pe_own G_is_whole (hr.mono (by first | decide | omega)) (by rfl) p_body (pa_cons (pe_ix (k_ix K rfl) (pv 0) pe_int (fun _ _ => rfl)) (pa_cons pe_int (pa_cons pe_int pa_nil))))))))) (pss_one (ps_ret (pe_lst (pa_cons pe_int pa_nil)))) pss_nil)
    (pss_cons (ps_if (PW.pt (pw_and (pt_cmpR (k_eq K rfl hr) (pe_ix (k_ix K rfl) (pv 0) pe_int (fun _ _ => rfl)) pe_str (nomark _)) (pw_and (pt_cmpR (k_eq K rfl hr) (pe_callB (k_len K rfl) (by rfl) M.len (by decide +kernel) (pa_cons (pv 0) pa_nil)) pe_int (nomark _)) (pw_and1 (pt_val (pe_own G_is_whole (hr.mono (by first | decide | omega)) (by rfl) p_body (pa_cons (pe_ix (k_ix K rfl) (pv 0) pe_int (fun _ _ => rfl)) (pa_cons pe_int (pa_cons (pe_op o_sub (pv 1) pe_int) pa_nil))))))))) (pss_one (ps_ret (pe_lst (pa_cons pe_int pa_nil)))) pss_nil)
    (pss_cons (ps_if (PW.pt (pw_and (pt_cmpR (k_eq K rfl hr) (pe_ix (k_ix K rfl) (pv 0) pe_int (fun _ _ => rfl)) pe_str (nomark _)) (pw_and1 (pt_cmpR (k_eq K rfl hr) (pe_callB (k_len K rfl) (by rfl) M.len (by decide +kernel) (pa_cons (pv 0) pa_nil)) pe_int (nomark _))))) (pss_one (ps_ret (pe_lst (pa_cons pe_int (pa_cons pe_int (pa_cons pe_int pa_nil)))))) pss_nil)
    (pss_cons (ps_if (PW.pt (pw_and (pt_cmpR (k_eq K rfl hr) (pe_ix (k_ix K rfl) (pv 0) pe_int (fun _ _ => rfl)) pe_str (nomark _)) (pw_and (pt_cmpR (k_eq K rfl hr) (pe_callB (k_len K rfl) (by rfl) M.len (by decide +kernel) (pa_cons (pv 0) pa_nil)) pe_int (nomark _)) (pw_and1 (pt_val (pe_own G_is_whole (hr.mono (by first | decide | omega)) (by rfl) p_body (pa_cons (pe_ix (k_ix K rfl) (pv 0) pe_int (fun _ _ => rfl)) (pa_cons pe_int (pa_cons (pe_op o_sub (pv 2) pe_int) pa_nil))))))))) (pss_one (ps_ret (pe_lst (pa_cons pe_int (pa_cons pe_int pa_nil))))) pss_nil)
    (pss_one (ps_ret pe_non))))))), ?_⟩
  obtain ⟨w, ds, T, C, ⟨p, vs, rfl, hp, hvs, ok⟩, rfl, rfl, q⟩ := h
  have l := hvs.length
  unfold placesOf at q
  refine Fl.go_start (σ0 := [some _, some _, some _]) rfl ?_
  walk_at "s"
  rename_i p1 hp1
  rw [inV_str, inV_str, inV_str, inV_str, inV_nil, Bool.or_false]
  have w1 : (decide (w = "add") || (decide (w = "take") || (decide (w = "least") || decide (w = "most")))) = decide (w = "add" ∨ w = "take" ∨ w = "least" ∨ w = "most") := by simp
  rw [w1]
  by_cases g1 : (w = "add" ∨ w = "take" ∨ w = "least" ∨ w = "most")
  · have n1 : ¬ w = "part" := by rintro rfl; exact absurd g1 (by decide +kernel)
    have n2 : ¬ w = "table" := by rintro rfl; exact absurd g1 (by decide +kernel)
    have n3 : ¬ w = "where" := by rintro rfl; exact absurd g1 (by decide +kernel)
    have n4 : ¬ w = "choose" := by rintro rfl; exact absurd g1 (by decide +kernel)
    refine if_d (fun _ => ?_) (fun c => absurd g1 c)
    walk_at "s"
    refine if_d (fun c2 => ?_) (fun c2 => ?_)
    · have l2 : ds.length = 2 := by simp at c2; omega
      rw [if_pos ⟨g1, l2⟩] at q
      walk_at "s"
      exact plq_some q (by walk_at "sm") (by walk_at "hp") (by rfl)
    · have l2 : ¬ ds.length = 2 := by simp at c2; omega
      simp only [l2, n1, n2, n3, n4, and_false, false_and, if_false] at q
      walk_at "s"
      walk_at "no"
      walk_at "s"
      walk_at "no"
      walk_at "s"
      walk_at "no"
      walk_at "s"
      walk_at "no"
      walk_at "s"
      exact plq_none q (by walk_at "sm")
  refine if_d (fun c => absurd c g1) (fun _ => ?_)
  simp only [g1, false_and, if_false] at q
  walk_at "s"
  by_cases g2 : w = "part"
  · have n2 : ¬ w = "table" := by rw [g2]; decide +kernel
    have n3 : ¬ w = "where" := by rw [g2]; decide +kernel
    have n4 : ¬ w = "choose" := by rw [g2]; decide +kernel
    walk_at "yes"
    walk_at "s"
    simp only [g2, n2, n3, n4, true_and, false_and, if_false] at q
    refine if_d (fun c2 => ?_) (fun c2 => ?_)
    · obtain ⟨d0, d1, v0, v1, rfl, rfl, h0, h1⟩ := hvs.ex2 (by simp at c2; omega)
      walk_at "s"
      simp only [List.getD_cons_succ, List.getD_cons_zero, List.length_cons, List.length_nil, true_and] at q
      refine if_b (fun c3 => ?_) (fun c3 => ?_)
      · rw [if_pos c3] at q
        walk_at "s"
        exact plq_some q (by walk_at "sm") (by walk_at "hp") (by rfl)
      rw [c3] at q
      simp only [if_false, Bool.false_eq_true] at q
      walk_at "s"
      walk_at "no"
      walk_at "s"
      walk_at "no"
      walk_at "s"
      walk_at "no"
      walk_at "s"
      exact plq_none q (by walk_at "sm")
    have l2 : ¬ ds.length = 2 := by simp at c2; omega
    simp only [l2, and_false, false_and, if_false] at q
    walk_at "s"
    walk_at "no"
    walk_at "s"
    walk_at "no"
    walk_at "s"
    walk_at "no"
    walk_at "s"
    exact plq_none q (by walk_at "sm")
  walk_at "no"
  simp only [g2, false_and, if_false] at q
  walk_at "s"
  by_cases g3 : w = "table"
  · have n3 : ¬ w = "where" := by rw [g3]; decide +kernel
    have n4 : ¬ w = "choose" := by rw [g3]; decide +kernel
    walk_at "yes"
    walk_at "s"
    simp only [g3, n3, n4, true_and, false_and, if_false] at q
    refine if_d (fun c2 => ?_) (fun c2 => ?_)
    · obtain ⟨d0, d1, v0, v1, rfl, rfl, h0, h1⟩ := hvs.ex2 (by simp at c2; omega)
      walk_at "s"
      simp only [List.getD_cons_succ, List.getD_cons_zero, List.length_cons, List.length_nil, true_and] at q
      refine if_b (fun c3 => ?_) (fun c3 => ?_)
      · rw [if_pos c3] at q
        walk_at "s"
        exact plq_some q (by walk_at "sm") (by walk_at "hp") (by rfl)
      rw [c3] at q
      simp only [if_false, Bool.false_eq_true] at q
      walk_at "s"
      walk_at "no"
      walk_at "s"
      walk_at "no"
      walk_at "s"
      exact plq_none q (by walk_at "sm")
    have l2 : ¬ ds.length = 2 := by simp at c2; omega
    simp only [l2, and_false, false_and, if_false] at q
    walk_at "s"
    walk_at "no"
    walk_at "s"
    walk_at "no"
    walk_at "s"
    exact plq_none q (by walk_at "sm")
  walk_at "no"
  simp only [g3, false_and, if_false] at q
  walk_at "s"
  by_cases g4 : w = "where"
  · have n4 : ¬ w = "choose" := by rw [g4]; decide +kernel
    walk_at "yes"
    walk_at "s"
    simp only [g4, n4, true_and, false_and, if_false] at q
    refine if_d (fun c2 => ?_) (fun c2 => ?_)
    · have l2 : ds.length = 3 := by simp at c2; omega
      rw [if_pos l2] at q
      walk_at "s"
      exact plq_some q (by walk_at "sm") (by walk_at "hp") (by rfl)
    have l2 : ¬ ds.length = 3 := by simp at c2; omega
    simp only [l2, and_false, false_and, if_false] at q
    walk_at "s"
    walk_at "no"
    walk_at "s"
    exact plq_none q (by walk_at "sm")
  walk_at "no"
  simp only [g4, false_and, if_false] at q
  walk_at "s"
  by_cases g5 : w = "choose"
  · walk_at "yes"
    walk_at "s"
    simp only [g5, true_and] at q
    refine if_d (fun c2 => ?_) (fun c2 => ?_)
    · obtain ⟨d0, d1, d2, v0, v1, v2, rfl, rfl, h0, h1, h2⟩ := hvs.ex3 (by simp at c2; omega)
      walk_at "s"
      simp only [List.getD_cons_succ, List.getD_cons_zero, List.length_cons, List.length_nil, true_and] at q
      refine if_b (fun c3 => ?_) (fun c3 => ?_)
      · rw [if_pos c3] at q
        walk_at "s"
        exact plq_some q (by walk_at "sm") (by walk_at "hp") (by rfl)
      rw [c3] at q
      simp only [if_false, Bool.false_eq_true] at q
      walk_at "s"
      exact plq_none q (by walk_at "sm")
    have l2 : ¬ ds.length = 3 := by simp at c2; omega
    simp only [l2, and_false, false_and, if_false] at q
    walk_at "s"
    exact plq_none q (by walk_at "sm")
  walk_at "no"
  simp only [g5, false_and, if_false] at q
  walk_at "s"
  exact plq_none q (by walk_at "sm")
instance {H : Hp} {Q : VK} {E : XK} {a : V} {T C : Int} : Step (sp_places_of a (.int T) (.int C) H Q E) (∃ w ds, WRule H a w ds ∧ PlQ (placesOf T C w ds) H Q) := ⟨fun ⟨w, ds, h, q⟩ => ⟨w, ds, T, C, h, rfl, rfl, q⟩⟩
end
end Fl

-- after: rl.tpl
namespace Fl
open PySem PySem.Spec PyProof.Rows L2 RZ
/-! ### short texts that are made -/
def OkT (n : Nat) (s : Str) : Prop := (∀ c ∈ s.cps.toList, c < 1114112) ∧ s.length ≤ n
theorem OkT.mono {n k : Nat} {s : Str} (h : OkT n s) (l : n ≤ k) : OkT k s := ⟨h.1, Nat.le_trans h.2 l⟩
theorem OkT.append {n k : Nat} {s t : Str} (h : OkT n s) (g : OkT k t) : OkT (n + k) (s ++ t) := by
  refine ⟨fun c hc => ?_, ?_⟩
  · have e : (s ++ t).cps = s.cps ++ t.cps := rfl
    rw [e, Array.toList_append, List.mem_append] at hc
    exact hc.elim (h.1 c) (g.1 c)
  · have e : (s ++ t).length = s.length + t.length := by
      show (s.cps ++ t.cps).size = _
      rw [Array.size_append]
      rfl
    have h2 := h.2
    have g2 := g.2
    omega
theorem OkT.ok {n : Nat} {s : Str} (h : OkT n s) (l : n ≤ 1000) : okD (.str s) = true := by
  simp only [okD, Bool.and_eq_true, PyData.canLay0]
  refine ⟨?_, decide_eq_true (Nat.le_trans h.2 l)⟩
  show s.cps.all (fun c => decide (c < 0x110000)) = true
  rw [Array.all_eq_true']
  intro c hc
  exact decide_eq_true (h.1 c (by simpa using hc))
theorem letters_ok : ∀ c ∈ letters.cps.toList, c < 1114112 := by decide +kernel
theorem OkT.sign {c : Nat} (h : c ∈ letters.cps.toList) : OkT 1 ⟨#[c]⟩ := ⟨fun d hd => by
  have e : d = c := by simpa using hd
  rw [e]
  exact letters_ok c h, Nat.le_refl _⟩
theorem OkT.cut {n : Nat} {s : Str} (h : OkT n s) (lo hi : Option Int) : OkT n (cutS s lo hi) :=
  ⟨fun c hc => h.1 c (by
    have hc' : c ∈ ((s.cps.toList.drop (HT.sIx s.length 0 lo)).take (HT.sIx s.length s.length hi - HT.sIx s.length 0 lo)) := by simpa [cutS] using hc
    exact List.mem_of_mem_drop (List.mem_of_mem_take hc')), Nat.le_trans (cutS_length s lo hi) h.2⟩
theorem atI_letter {r : Int} (h0 : 0 ≤ r) (h1 : r < 26) : ∃ c, atI letters.cps.toList r = some c ∧ c ∈ letters.cps.toList := by
  obtain ⟨v, h, _, m⟩ := atI_range (xs := letters.cps.toList) h0 (by
    have : letters.cps.toList.length = 26 := by decide +kernel
    omega)
  exact ⟨v, h, m⟩
end Fl

-- after: wn.tpl
namespace Fl
open PySem PySem.Spec PyProof.Rows L2 RZ
section
variable {P : Program} {w : World} {K : PySem.W.Frag} {mg : Str → Option Value} {base : Heap}
/-! ### the law's own small defs -/
abbrev s__law_cell_at : Stmt := topS 15
theorem sc__law_cell_at : FnScope ["_law_script", "_law_k"] ["_law_script", "_law_k"] (defScope s__law_cell_at) := ⟨rfl, rfl, rfl, by decide +kernel, rfl, by decide +kernel, by decide +kernel⟩
def sp_cell_at (K : PySem.W.Frag) : Sp2 := fun a b H Q _ => ∃ (sc : Addr) (ns : List Int) (k : Int), a = .ref sc ∧ SqL K H sc (ns.map V.int) ∧ b = .int k ∧ 0 ≤ k ∧ ∀ z : Int, Q (.int z) H
theorem ok_cell_at (M : Mg mg) (D : DefAt K mg "_law_cell_at" s__law_cell_at ["_law_script", "_law_k"]) : Has P w K mg base "_law_cell_at" ["_law_script", "_law_k"] 1 (sp2 (sp_cell_at K)) := by
  refine .mk2 D sc__law_cell_at fun f cdv A outer s H a b Q E hr h => ⟨_, (pss_cons (ps_if (pt_cmpR o_lt (pv 1) (pe_callB (k_len K rfl) (by rfl) M.len (by decide +kernel) (pa_cons (pv 0) pa_nil)) (nomark _)) (pss_one (ps_ret (pe_ix (k_ix K rfl) (pv 0) (pv 1) (fun _ _ => rfl)))) pss_nil)
    (pss_one (ps_ret pe_int))), ?_⟩
  obtain ⟨sc, ns, k, rfl, hS, rfl, hk, q⟩ := h
  refine Fl.go_start (σ0 := [some _, some _]) rfl ?_
  have hS' : IsSq K H sc (ns.map V.int) := .inl hS
  walk_at "s"
  refine if_d (fun c => ?_) (fun c => ?_)
  · walk_at "s"
    obtain ⟨v, e, _, hm⟩ := atI_range hk c
    obtain ⟨z, _, rfl⟩ := List.mem_map.mp hm
    exact ⟨_, e, q z⟩
  · walk_at "s"
    exact q 0
instance {H : Hp} {Q : VK} {E : XK} {sc : Addr} {k : Int} : Step (sp_cell_at K (.ref sc) (.int k) H Q E) (∃ ns, Scr K H sc ns ∧ 0 ≤ k ∧ IntQ fun z => Q (.int z) H) := ⟨fun ⟨ns, h, hk, q⟩ => ⟨sc, ns, k, rfl, h.sq, rfl, hk, q⟩⟩
abbrev s__law_mixed : Stmt := topS 16
theorem sc__law_mixed : FnScope ["_law_cell", "_law_k"] ["_law_cell", "_law_k"] (defScope s__law_mixed) := ⟨rfl, rfl, rfl, by decide +kernel, rfl, by decide +kernel, by decide +kernel⟩
def sp_mixed : Sp2 := fun a b H Q _ => ∃ i j, a = .int i ∧ b = .int j ∧ ∀ z : Int, 0 ≤ z → z < 2147483647 → Q (.int z) H
theorem ok_mixed (M : Mg mg) (D : DefAt K mg "_law_mixed" s__law_mixed ["_law_cell", "_law_k"]) : Has P w K mg base "_law_mixed" ["_law_cell", "_law_k"] 1 (sp2 sp_mixed) := by
  refine .mk2 D sc__law_mixed fun f cdv A outer s H a b Q E hr h => ⟨_, (pss_one (ps_ret (pe_op o_mod (pe_op o_mul (pe_op (k_add K rfl) (pv 0) (pe_op o_mul pe_int (pv 1))) pe_int) pe_int))), ?_⟩
  obtain ⟨i, j, rfl, rfl, q⟩ := h
  refine Fl.go_start (σ0 := [some _, some _]) rfl ?_
  walk_at "s"
  exact q _ (Int.emod_nonneg _ (by decide)) (Int.emod_lt_of_pos _ (by decide))
instance {H : Hp} {Q : VK} {E : XK} {i j : Int} : Step (sp_mixed (.int i) (.int j) H Q E) (MixQ fun z => Q (.int z) H) := ⟨fun h => ⟨i, j, rfl, rfl, h⟩⟩
abbrev s__law_next : Stmt := topS 17
theorem sc__law_next : FnScope ["_law_state", "_law_size"] ["_law_state", "_law_size"] (defScope s__law_next) := ⟨rfl, rfl, rfl, by decide +kernel, rfl, by decide +kernel, by decide +kernel⟩
def sp_next : Sp2 := fun a b H Q _ => ∃ s n x, a = .ref s ∧ b = .int n ∧ H s = some (.lst [.int x]) ∧ 0 < n ∧ ∀ y r : Int, 0 ≤ r → r < n → Q (.int r) (upd H s (.lst [.int y]))
instance {H : Hp} {Q : VK} {E : XK} {s : Addr} {n : Int} : Step (sp_next (.ref s) (.int n) H Q E) (∃ xs, H s = some (.lst xs) ∧ (∃ x, xs = [.int x]) ∧ 0 < n ∧ NextQ s n H fun r H' => Q (.int r) H') := ⟨fun ⟨xs, h, ⟨x, e⟩, hn, q⟩ => ⟨s, n, x, rfl, rfl, by rw [← e]; exact h, hn, q⟩⟩
theorem ok_next (M : Mg mg) (D : DefAt K mg "_law_next" s__law_next ["_law_state", "_law_size"]) : Has P w K mg base "_law_next" ["_law_state", "_law_size"] 1 (sp2 sp_next) := by
  refine .mk2 D sc__law_next fun f cdv A outer s0 H a b Q E hr h => ⟨_, (pss_cons (ps_asg (pe_op o_mod (pe_op (k_add K rfl) (pe_op o_mul (pe_ix (k_ix K rfl) (pv 0) pe_int (fun _ _ => rfl)) pe_int) pe_int) pe_int) (pg_sub (pv 0) pe_int set_list))
    (pss_one (ps_ret (pe_op o_mod (pe_op o_div (pe_ix (k_ix K rfl) (pv 0) pe_int (fun _ _ => rfl)) pe_int) (pv 1))))), ?_⟩
  obtain ⟨s, n, x, rfl, rfl, hs, hn, q⟩ := h
  refine Fl.go_start (σ0 := [some _, some _]) rfl ?_
  walk_at "s"
  exact q _ _ (Int.emod_nonneg _ (by omega)) (Int.emod_lt_of_pos _ hn)
abbrev s__law_number : Stmt := topS 19
theorem sc__law_number : FnScope ["_law_state", "_law_kind"] ["_law_state"] (defScope s__law_number) := ⟨rfl, rfl, rfl, by decide +kernel, rfl, by decide +kernel, by decide +kernel⟩
def sp_number : Sp1 := fun a H Q _ => ∃ s x, a = .ref s ∧ H s = some (.lst [.int x]) ∧ ∀ (z : Int) H', -1000000000 ≤ z → z ≤ 1000000000 → Gs s H H' → Q (.int z) H'
theorem ok_number (M : Mg mg) (G__law_next : Has P w K mg base "_law_next" ["_law_state", "_law_size"] 1 (sp2 sp_next)) (D : DefAt K mg "_law_number" s__law_number ["_law_state"]) : Has P w K mg base "_law_number" ["_law_state"] 2 (sp1 sp_number) := by
  refine .mk1 D sc__law_number fun f cdv A outer s0 H a Q E hr h => ⟨_, (pss_cons (ps_set (i := 1) sc__law_number.nd rfl (by first | exact Or.inl rfl | exact Or.inr rfl) (pe_own G__law_next (hr.mono (by first | decide | omega)) (by rfl) p_body (pa_cons (pv 0) (pa_cons pe_int pa_nil))))
    (pss_cons (ps_if (pt_cmpR (k_eq K rfl hr) (pv 1) pe_int (nomark _)) (pss_one (ps_ret (pe_ix (k_ix K rfl) (pe_lst (pa_cons (pe_un o_neg (pe_op o_pow pe_int pe_int)) (pa_cons (pe_op o_pow pe_int pe_int) (pa_cons (pe_op o_sub (pe_op o_pow pe_int pe_int) pe_int) (pa_cons (pe_op o_sub pe_int (pe_op o_pow pe_int pe_int)) pa_nil))))) (pe_own G__law_next (hr.mono (by first | decide | omega)) (by rfl) p_body (pa_cons (pv 0) (pa_cons pe_int pa_nil))) (fun _ _ => rfl)))) pss_nil)
    (pss_cons (ps_if (pt_cmpR (k_eq K rfl hr) (pv 1) pe_int (nomark _)) (pss_one (ps_ret (pe_op o_sub (pe_own G__law_next (hr.mono (by first | decide | omega)) (by rfl) p_body (pa_cons (pv 0) (pa_cons pe_int pa_nil))) pe_int))) pss_nil)
    (pss_one (ps_ret (pe_op o_sub (pe_own G__law_next (hr.mono (by first | decide | omega)) (by rfl) p_body (pa_cons (pv 0) (pa_cons pe_int pa_nil))) pe_int)))))), ?_⟩
  obtain ⟨s, x, rfl, hs, q⟩ := h
  refine Fl.go_start (σ0 := [some _, none]) rfl ?_
  walk_at "s"
  rename_i y r h0 h1
  refine if_d (fun c => ?_) (fun c => ?_)
  · walk_at "s"
    rename_i p1 hp1 y2 r2 g0 g1
    have gs : Gs s H (upd (upd (upd H s (.lst [.int y])) p1 (.lst [V.int (-10 ^ Int.toNat 9), V.int (10 ^ Int.toNat 9), V.int (10 ^ Int.toNat 9 - 1), V.int (1 - 10 ^ Int.toNat 9)])) s (.lst [.int y2])) := by walk_at "gs"
    rcases four g0 g1 with rfl | rfl | rfl | rfl <;> (refine ex_v rfl ?_; exact q _ _ (by decide) (by decide) gs)
  walk_at "s"
  refine if_d (fun c => ?_) (fun c => ?_)
  · walk_at "s"
    exact q _ _ (by omega) (by omega) (by walk_at "gs")
  walk_at "s"
  exact q _ _ (by omega) (by omega) (by walk_at "gs")
instance {H : Hp} {Q : VK} {E : XK} {s : Addr} : Step (sp_number (.ref s) H Q E) (∃ xs, H s = some (.lst xs) ∧ (∃ x, xs = [.int x]) ∧ NumQ s H fun z H' => Q (.int z) H') := ⟨fun ⟨xs, h, ⟨x, e⟩, q⟩ => ⟨s, x, rfl, by rw [← e]; exact h, q⟩⟩
abbrev s__law_whole : Stmt := topS 18
theorem sc__law_whole : FnScope ["_law_found"] ["_law_found"] (defScope s__law_whole) := ⟨rfl, rfl, rfl, by decide +kernel, rfl, by decide +kernel, by decide +kernel⟩
def sp_whole : Sp1 := fun a H Q _ => ∃ d, Typ H a d ∧ Q (.bl (isIntD d && !isBoolD d)) H
theorem ok_whole (M : Mg mg) (D : DefAt K mg "_law_whole" s__law_whole ["_law_found"]) : Has P w K mg base "_law_whole" ["_law_found"] 1 (sp1 sp_whole) := by
  refine .mk1 D sc__law_whole fun f cdv A outer s H a Q E hr h => ⟨_, (pss_one (ps_ret (pe_and (pe_callB (k_isi K rfl) (by rfl) M.isinstance (by decide +kernel) (pa_cons (pv 0) (pa_cons (pe_bltn (v := .ty "int") (by rfl) M.int (by decide +kernel) rfl) pa_nil))) (pe_one (pe_not (pe_callB (k_isi K rfl) (by rfl) M.isinstance (by decide +kernel) (pa_cons (pv 0) (pa_cons (pe_bltn (v := .ty "bool") (by rfl) M.bool (by decide +kernel) rfl) pa_nil)))))))), ?_⟩
  obtain ⟨d, hd, q⟩ := h
  refine Fl.go_start (σ0 := [some _]) rfl ?_
  walk_at "s"
  refine if_b (fun c => ?_) (fun c => ?_)
  · walk_at "s"
    rw [c] at q
    exact q
  · rw [c] at q
    exact q
instance {H : Hp} {Q : VK} {E : XK} {v : V} : Step (sp_whole v H Q E) (∃ d, Typ H v d ∧ Q (.bl (isIntD d && !isBoolD d)) H) := ⟨fun h => h⟩
end
end Fl

-- after: r9.tpl gen0.tpl
namespace Fl
open PySem PySem.Spec PyProof.Rows L2 RZ
theorem len_app (s t : Str) : (s ++ t).length = s.length + t.length := by
  show (s.cps ++ t.cps).size = _
  rw [Array.size_append]
  rfl
def AlT (n : Nat) (s : Str) : Prop := (∀ c ∈ s.cps.toList, c ∈ letters.cps.toList) ∧ s.length ≤ n
theorem AlT.mono {n k : Nat} {s : Str} (h : AlT n s) (l : n ≤ k) : AlT k s := ⟨h.1, Nat.le_trans h.2 l⟩
theorem AlT.append {n k : Nat} {s t : Str} (h : AlT n s) (g : AlT k t) : AlT (n + k) (s ++ t) := by
  refine ⟨fun c hc => ?_, ?_⟩
  · have e : (s ++ t).cps = s.cps ++ t.cps := rfl
    rw [e, Array.toList_append, List.mem_append] at hc
    exact hc.elim (h.1 c) (g.1 c)
  · rw [len_app]
    have h2 := h.2
    have g2 := g.2
    omega
theorem AlT.sign {c : Nat} (h : c ∈ letters.cps.toList) : AlT 1 ⟨#[c]⟩ := ⟨fun d hd => by
  have e : d = c := by simpa using hd
  rw [e]
  exact h, Nat.le_refl _⟩
theorem cut_mem {s : Str} {lo hi : Option Int} {c : Nat} (hc : c ∈ (cutS s lo hi).cps.toList) : c ∈ s.cps.toList := by
  have hc' : c ∈ ((s.cps.toList.drop (HT.sIx s.length 0 lo)).take (HT.sIx s.length s.length hi - HT.sIx s.length 0 lo)) := by simpa [cutS] using hc
  exact List.mem_of_mem_drop (List.mem_of_mem_take hc')
theorem cut_len (s : Str) (lo hi : Option Int) : (cutS s lo hi).length = min (HT.sIx s.length s.length hi - HT.sIx s.length 0 lo) (s.length - HT.sIx s.length 0 lo) := by
  have e : (cutS s lo hi).length = ((s.cps.toList.drop (HT.sIx s.length 0 lo)).take (HT.sIx s.length s.length hi - HT.sIx s.length 0 lo)).length := by
    simp [cutS, Str.length]
  rw [e, List.length_take, List.length_drop]
  simp [Str.length]
theorem sIx_pos {n d : Nat} {i : Int} (h : 0 ≤ i) : HT.sIx n d (some i) = min i.toNat n := by
  unfold HT.sIx
  simp only []
  rw [if_neg (by omega)]
theorem AlT.cut {n : Nat} {s : Str} (h : AlT n s) (lo hi : Option Int) : ∀ c ∈ (cutS s lo hi).cps.toList, c ∈ letters.cps.toList := fun c hc => h.1 c (cut_mem hc)
/-- a word -/
def WdT (s : Str) : Prop := AlT 8 s ∧ 1 ≤ s.length
theorem WdT.word {s : Str} (h : WdT s) : isWord (.str s) = true := by
  simp only [isWord, Bool.and_eq_true, decide_eq_true_eq, List.all_eq_true]
  exact ⟨⟨h.2, h.1.2⟩, h.1.1⟩
theorem WdT.ok {s : Str} (h : WdT s) : OkT 1000 s := ⟨fun c hc => letters_ok c (h.1.1 c hc), Nat.le_trans h.1.2 (by decide)⟩
def kwords : List Str := ["line", "paper", "add"]
section
variable {P : Program} {w : World} {K : PySem.W.Frag} {mg : Str → Option Value} {base : Heap}
abbrev s__law_words : Stmt := topS 20
theorem sc__law_words : FnScope ["_law_state", "_law_letters", "_law_base", "_law_k", "_law_words_here", "_law_at"] ["_law_state"] (defScope s__law_words) := ⟨rfl, rfl, rfl, by decide +kernel, rfl, by decide +kernel, by decide +kernel⟩
def sp_words : Sp1 := fun a H Q _ => ∃ (s : Addr) (x : Int), a = .ref s ∧ H s = some (.lst [.int x]) ∧ ∀ p H' (ws : List Str), Gs s H H' → H' p = some (.lst (ws.map V.str)) → H p = none → 1 ≤ ws.length → ws.length ≤ 8 → (∀ t ∈ ws, WdT t) → Q (.ref p) H'
theorem ok_words (M : Mg mg) (G__law_next : Has P w K mg base "_law_next" ["_law_state", "_law_size"] 1 (sp2 sp_next)) (D : DefAt K mg "_law_words" s__law_words ["_law_state"]) : Has P w K mg base "_law_words" ["_law_state"] 2 (sp1 sp_words) := by
  refine .mk1 D sc__law_words fun f cdv A outer s H a Q E hr h => ⟨_, (pss_cons (ps_set (i := 1) sc__law_words.nd rfl (by first | exact Or.inl rfl | exact Or.inr rfl) pe_str)
    (pss_cons (ps_set (i := 2) sc__law_words.nd rfl (by first | exact Or.inl rfl | exact Or.inr rfl) pe_str)
    (pss_cons (ps_for own_p (by rfl) (pi_range1 (by rfl) M.range (pa_cons pe_int pa_nil)) (pg_name (i := 3) sc__law_words.nd rfl (by first | exact Or.inl rfl | exact Or.inr rfl)) (pss_one (ps_set (i := 2) sc__law_words.nd rfl (by first | exact Or.inl rfl | exact Or.inr rfl) (pe_op (k_add K rfl) (pv 2) (pe_ix (k_ix K rfl) (pv 1) (pe_own G__law_next (hr.mono (by first | decide | omega)) (by rfl) p_body (pa_cons (pv 0) (pa_cons pe_int pa_nil))) (fun _ _ => rfl))))))
    (pss_cons (ps_set (i := 4) sc__law_words.nd rfl (by first | exact Or.inl rfl | exact Or.inr rfl) (pe_lst (pa_cons (pe_slice (k_sl K rfl) (pv 2) po_none (po_some (pe_op (k_add K rfl) pe_int (pe_own G__law_next (hr.mono (by first | decide | omega)) (by rfl) p_body (pa_cons (pv 0) (pa_cons pe_int pa_nil)))))) (pa_cons (pv 2) pa_nil))))
    (pss_cons (ps_for own_p (by rfl) (pi_range1 (by rfl) M.range (pa_cons pe_int pa_nil)) (pg_name (i := 3) sc__law_words.nd rfl (by first | exact Or.inl rfl | exact Or.inr rfl)) (pss_cons (ps_set (i := 5) sc__law_words.nd rfl (by first | exact Or.inl rfl | exact Or.inr rfl) (pe_own G__law_next (hr.mono (by first | decide | omega)) (by rfl) p_body (pa_cons (pv 0) (pa_cons pe_int pa_nil))))
    (pss_one (ps_expr (k_bm K rfl PySem.F.plainAttrs_list PySem.F.slot_list_append PySem.F.type_list_append mt_append (pv 4) (pa_cons (pe_op (k_add K rfl) (pe_op (k_add K rfl) (pe_slice (k_sl K rfl) (pv 2) po_none (po_some (pv 5))) (pe_ix (k_ix K rfl) (pv 1) (pe_own G__law_next (hr.mono (by first | decide | omega)) (by rfl) p_body (pa_cons (pv 0) (pa_cons pe_int pa_nil))) (fun _ _ => rfl))) (pe_slice (k_sl K rfl) (pv 2) (po_some (pe_op (k_add K rfl) (pv 5) pe_int)) (po_some (pe_op (k_add K rfl) (pe_op (k_add K rfl) pe_int (pv 5)) (pe_own G__law_next (hr.mono (by first | decide | omega)) (by rfl) p_body (pa_cons (pv 0) (pa_cons pe_int pa_nil))))))) pa_nil))))))
    (pss_one (ps_ret (pe_op (k_add K rfl) (pv 4) (pe_slice (k_sl K rfl) (pe_lst (pa_cons pe_str (pa_cons pe_str (pa_cons pe_str pa_nil)))) po_none (po_some (pe_own G__law_next (hr.mono (by first | decide | omega)) (by rfl) p_body (pa_cons (pv 0) (pa_cons pe_int pa_nil))))))))))))), ?_⟩
  obtain ⟨st, x, rfl, hs, q⟩ := h
  refine Fl.go_start (σ0 := [some _, none, none, none, none, none]) rfl ?_
  walk_at "s"
  refine for_rng (fun i σ' H' => ∃ (z : Str) (y : Option V), σ' = [some (.ref st), some (.str letters), some (.str z), y, none, none] ∧ (AlT i z ∧ z.length = i) ∧ Gs st H H') ⟨"", none, rfl, ⟨⟨by decide +kernel, by decide +kernel⟩, by decide +kernel⟩, by walk_at "gs"⟩ ?_ ?_
  · rintro i σ' H' hi ⟨z, y, rfl, hz, gs⟩
    obtain ⟨x1, hx1⟩ := Gs.st gs
    walk_at "s"
    rename_i y1 r h0 h1
    obtain ⟨c, ec, mc⟩ := atI_letter h0 h1
    refine ⟨c, ⟨small_of (by decide +kernel), ec⟩, ?_⟩
    have hl := hz.2
    have hi8 : i < 8 := hi
    refine q_addS (show z.length + 1 ≤ sizeLine from small_of (by omega)) ?_
    exact ⟨_, _, rfl, ⟨hz.1.append (AlT.sign mc), by rw [len_app, hl]; rfl⟩, by walk_at "gs"⟩
  rintro σ' H1 ⟨z, y, rfl, ⟨hz, z8⟩, gs⟩
  obtain ⟨x1, hx1⟩ := Gs.st gs
  have hz8 : AlT 8 z := hz
  have z8 : z.length = 8 := z8
  have lz : z.length ≤ sizeLine := small_of (Nat.le_trans hz8.2 (by decide))
  walk_at "s"
  rename_i y1 r h0 h1 wa hwa
  have hwf : H wa = none := by walk_at "fr"
  have hws : wa ≠ st := fun e => by rw [e, upd_same] at hwa; cases hwa
  have gs2 : Gs st H (upd (upd H1 st (.lst [.int y1])) wa (.lst [.str (cutS z none (some (1 + r))), .str z])) := by walk_at "gs"
  have hw2 : (upd (upd H1 st (.lst [.int y1])) wa (.lst [.str (cutS z none (some (1 + r))), .str z])) wa = some (.lst [.str (cutS z none (some (1 + r))), .str z]) := upd_same
  generalize upd (upd H1 st (.lst [.int y1])) wa (.lst [.str (cutS z none (some (1 + r))), .str z]) = H2 at *
  refine for_rng (fun i σ' H' => ∃ (ws : List Str) (y3 y5 : Option V), σ' = [some (.ref st), some (.str letters), some (.str z), y3, some (.ref wa), y5] ∧ H' wa = some (.lst (ws.map V.str)) ∧ ws.length = i + 2 ∧ (∀ t ∈ ws, WdT t) ∧ Gs st H H')
    ⟨[cutS z none (some (1 + r)), z], _, _, rfl, hw2, rfl, fun t ht => ?_, gs2⟩ ?_ ?_
  · rcases List.mem_cons.mp ht with rfl | ht
    · have e := cut_len z none (some (1 + r))
      rw [sIx_pos (by omega), z8] at e
      have e0 : HT.sIx 8 0 none = 0 := rfl
      rw [e0] at e
      exact ⟨⟨hz8.cut _ _, by omega⟩, by omega⟩
    · rw [List.mem_singleton.mp ht]
      exact ⟨hz8, by omega⟩
  · rintro i σ' H3 hi ⟨ws, y3, y5, rfl, hw3, lw, ow, gs3⟩
    obtain ⟨x3, hx3⟩ := Gs.st gs3
    have hi3 : i < 3 := hi
    walk_at "s"
    rename_i ya ra ha0 ha1 yb rb hb0 hb1
    obtain ⟨c, ec, mc⟩ := atI_letter hb0 hb1
    refine ⟨c, ⟨small_of (by decide +kernel), ec⟩, ?_⟩
    have l1 := cut_len z none (some ra)
    rw [sIx_pos (by omega), z8, show HT.sIx 8 0 none = 0 from rfl] at l1
    have o1 : AlT ra.toNat (cutS z none (some ra)) := ⟨hz8.cut none (some ra), by omega⟩
    have o2 := o1.append (AlT.sign mc)
    refine q_addS (show (cutS z none (some ra)).length + 1 ≤ sizeLine from small_of (by have := o1.2; omega)) ?_
    walk_at "s"
    rename_i yc rc hc0 hc1
    have l3 := cut_len z (some (ra + 1)) (some (1 + ra + rc))
    rw [sIx_pos (by omega), sIx_pos (by omega), z8] at l3
    have o3 := (o2.append ⟨hz8.cut (some (ra + 1)) (some (1 + ra + rc)), show _ ≤ 7 - ra.toNat by omega⟩).mono (show _ ≤ 8 by omega)
    refine ⟨small_of (Nat.le_trans (Nat.le_of_eq ?_) (Nat.le_trans o3.2 (by decide))), ?_⟩
    · exact (len_app _ _).symm
    have o4 : 1 ≤ (cutS z none (some ra) ++ ⟨#[c]⟩ ++ cutS z (some (ra + 1)) (some (1 + ra + rc))).length := by
      rw [len_app, len_app]
      show 1 ≤ _ + 1 + _
      omega
    walk_at "s"
    exact ⟨ws ++ [_], _, _, rfl, by rw [List.map_append]; exact upd_same, by rw [List.length_append, lw]; rfl, fun t ht => (List.mem_append.mp ht).elim (ow t) fun z => by rw [List.mem_singleton.mp z]; exact ⟨o3, o4⟩, by walk_at "gs"⟩
  rintro σ' H3 ⟨ws, y3, y5, rfl, hw3, lw, ow, gs3⟩
  obtain ⟨x3, hx3⟩ := Gs.st gs3
  walk_at "s"
  rename_i pk hpk yn rn hn0 hn1 pc hpc
  obtain ⟨k, rfl⟩ : ∃ k : Nat, rn = k := ⟨rn.toNat, by omega⟩
  rw [cut_to]
  refine ⟨small_of (by rw [List.length_map, List.length_take]; simp; omega), fun p hp => ?_⟩
  have ep : [V.str (Str.ofString "line"), V.str (Str.ofString "paper"), V.str (Str.ofString "add")].take k = (kwords.take k).map V.str := by rw [List.map_take]; rfl
  refine q p _ (ws ++ (kwords.take k)) (by walk_at "gs") (by rw [List.map_append, ← ep]; exact upd_same) (by walk_at "fr") (by rw [List.length_append]; omega) (by rw [List.length_append, List.length_take]; simp [kwords]; omega) fun t ht => ?_
  rcases List.mem_append.mp ht with z | z
  · exact ow t z
  · have hk : ∀ t ∈ kwords, WdT t := by
      intro t ht
      simp only [kwords, List.mem_cons, List.not_mem_nil, or_false] at ht
      rcases ht with rfl | rfl | rfl <;> exact ⟨⟨by decide +kernel, by decide +kernel⟩, by decide +kernel⟩
    exact hk t (List.mem_of_mem_take z)
end
end Fl

-- after: rl.tpl
namespace Fl
open PySem PySem.Spec PyProof.Rows L2 RZ
/-! ### is_rule -/
mutual
def sz : PyData → Nat
  | .tuple ds | .list ds => 1 + szAll ds
  | _ => 1
def szAll : List PyData → Nat
  | [] => 0
  | d :: ds => sz d + szAll ds
end
theorem sz_pos (d : PyData) : 1 ≤ sz d := by cases d <;> simp [sz]
/-- the parts of a rule that are rules -/
def kids (ds : List PyData) (ps : List Int) : List PyData := ps.map fun i => ds.getD (i.toNat - 1) .none
def isR1 (L T C : Int) (k : PyData → Bool) : PyData → Bool
  | .tuple (.str w :: ds) => decide (1 ≤ ds.length) && match placesOf T C w ds with
    | none => isPlain L w ds
    | some ps => (kids ds ps).all k
  | _ => false
def isR (L T C : Int) : Nat → PyData → Bool
  | 0, _ => false
  | n + 1, d => isR1 L T C (isR L T C n) d
theorem isR_none {L T C : Int} {n : Nat} {d : PyData} (h : ∀ w ds, d ≠ .tuple (.str w :: ds)) : isR L T C n d = false := by
  cases n with
  | zero => rfl
  | succ n =>
    unfold isR isR1
    split
    · exact absurd rfl (h _ _)
    · rfl
theorem isR_short {L T C : Int} {n : Nat} {ds : List PyData} (h : ds.length < 2) : isR L T C n (.tuple ds) = false := by
  cases n with
  | zero => rfl
  | succ n =>
    cases ds with
    | nil => rfl
    | cons d r =>
      have e : r = [] := List.eq_nil_of_length_eq_zero (by simp at h; omega)
      subst e
      cases d <;> rfl
theorem places_cases {T C : Int} {w : Str} {ds : List PyData} {ps : List Int} (h : placesOf T C w ds = some ps) :
    (ps = [1, 2] ∧ ∃ a b, ds = [a, b]) ∨ (ps = [1] ∧ ∃ a b, ds = [a, b]) ∨ (ps = [2] ∧ ∃ a b, ds = [a, b]) ∨ (ps = [1, 2, 3] ∧ ∃ a b c, ds = [a, b, c]) ∨ (ps = [2, 3] ∧ ∃ a b c, ds = [a, b, c]) := by
  have two : ds.length = 2 → ∃ a b, ds = [a, b] := fun l => by
    match ds, l with
    | [a, b], _ => exact ⟨a, b, rfl⟩
  have three : ds.length = 3 → ∃ a b c, ds = [a, b, c] := fun l => by
    match ds, l with
    | [a, b, c], _ => exact ⟨a, b, c, rfl⟩
  unfold placesOf at h
  split at h
  · rename_i g
    exact .inl ⟨(Option.some.inj h).symm, two g.2⟩
  split at h
  · rename_i g
    exact .inr (.inl ⟨(Option.some.inj h).symm, two g.2.1⟩)
  split at h
  · rename_i g
    exact .inr (.inr (.inl ⟨(Option.some.inj h).symm, two g.2.1⟩))
  split at h
  · rename_i g
    exact .inr (.inr (.inr (.inl ⟨(Option.some.inj h).symm, three g.2⟩)))
  split at h
  · rename_i g
    exact .inr (.inr (.inr (.inr ⟨(Option.some.inj h).symm, three g.2.1⟩)))
  · cases h
theorem kids_sz {T C : Int} {w : Str} {ds : List PyData} {ps : List Int} (h : placesOf T C w ds = some ps) : szAll (kids ds ps) < sz (.tuple (.str w :: ds)) := by
  rcases places_cases h with ⟨rfl, a, b, rfl⟩ | ⟨rfl, a, b, rfl⟩ | ⟨rfl, a, b, rfl⟩ | ⟨rfl, a, b, c, rfl⟩ | ⟨rfl, a, b, c, rfl⟩ <;> simp [kids, sz, szAll] <;> omega
theorem kids_mem {T C : Int} {w : Str} {ds : List PyData} {ps : List Int} (h : placesOf T C w ds = some ps) {d : PyData} (m : d ∈ kids ds ps) : d ∈ ds := by
  rcases places_cases h with ⟨rfl, a, b, rfl⟩ | ⟨rfl, a, b, rfl⟩ | ⟨rfl, a, b, rfl⟩ | ⟨rfl, a, b, c, rfl⟩ | ⟨rfl, a, b, c, rfl⟩ <;> simp [kids] at m ⊢ <;> grind
theorem place_at {T C : Int} {w : Str} {ds : List PyData} {ns : List Int} {H : Hp} {us : List V} {i : Nat} {n : Int} (h : placesOf T C w ds = some ns) (e : ns[i]? = some n) (a : AtAll H ds us) :
    ∃ u, atI (.str w :: us) n = some u ∧ At H (ds.getD (n.toNat - 1) .none) u := by
  have m := List.mem_of_getElem? e
  have l := a.length
  rcases places_cases h with ⟨rfl, x, y, rfl⟩ | ⟨rfl, x, y, rfl⟩ | ⟨rfl, x, y, rfl⟩ | ⟨rfl, x, y, z, rfl⟩ | ⟨rfl, x, y, z, rfl⟩
  iterate 3
    · obtain ⟨u0, t, rfl, h0, u1, t', rfl, h1, h2⟩ := a
      simp only [List.mem_cons, List.not_mem_nil, or_false] at m
      first
        | (rcases m with rfl | rfl; exact ⟨u0, atI_1, h0⟩; exact ⟨u1, atI_2, h1⟩)
        | (subst m; exact ⟨u0, atI_1, h0⟩)
        | (subst m; exact ⟨u1, atI_2, h1⟩)
  iterate 2
    · obtain ⟨u0, t, rfl, h0, u1, t', rfl, h1, u2, t2, rfl, h2, h3⟩ := a
      simp only [List.mem_cons, List.not_mem_nil, or_false] at m
      first
        | (rcases m with rfl | rfl | rfl; exact ⟨u0, atI_1, h0⟩; exact ⟨u1, atI_2, h1⟩; exact ⟨u2, atI_3, h2⟩)
        | (rcases m with rfl | rfl; exact ⟨u1, atI_2, h1⟩; exact ⟨u2, atI_3, h2⟩)
theorem szAll_append {a b : List PyData} : szAll (a ++ b) = szAll a + szAll b := by
  induction a with
  | nil => simp [szAll]
  | cons x r ih => simp [szAll, ih]; omega
theorem szAll_len {a : List PyData} : a.length ≤ szAll a := by
  induction a with
  | nil => simp
  | cons x r ih =>
    have := sz_pos x
    simp [szAll]; omega
/-! the work list -/
def PrOne (H0 H : Hp) (x : PyData × Nat) (v : V) : Prop := ∃ p u, v = .ref p ∧ H p = some (.tup [u, .int x.2]) ∧ At H0 x.1 u
def PrAll (H0 H : Hp) : List (PyData × Nat) → List V → Prop
  | [], vs => vs = []
  | x :: r, vs => ∃ v t, vs = v :: t ∧ PrOne H0 H x v ∧ PrAll H0 H r t
theorem PrOne.mono {H0 H H' : Hp} {x : PyData × Nat} {v : V} (h : PrOne H0 H x v) (e : ∀ p xs, H p = some (.tup xs) → H' p = some (.tup xs)) : PrOne H0 H' x v := by
  obtain ⟨p, u, q, hp, hu⟩ := h
  exact ⟨p, u, q, e _ _ hp, hu⟩
theorem PrAll.mono {H0 H H' : Hp} (e : ∀ p xs, H p = some (.tup xs) → H' p = some (.tup xs)) : ∀ {ps : List (PyData × Nat)} {vs : List V}, PrAll H0 H ps vs → PrAll H0 H' ps vs
  | [], _, h => h
  | _ :: _, _, ⟨v, t, q, h, r⟩ => ⟨v, t, q, h.mono e, PrAll.mono e r⟩
theorem PrAll.append {H0 H : Hp} : ∀ {ps qs : List (PyData × Nat)} {vs ws : List V}, PrAll H0 H ps vs → PrAll H0 H qs ws → PrAll H0 H (ps ++ qs) (vs ++ ws)
  | [], _, _, _, h, k => by rw [show _ = _ from h]; exact k
  | _ :: _, _, _, _, ⟨v, t, q, h, r⟩, k => by subst q; exact ⟨v, _, rfl, h, PrAll.append r k⟩
theorem PrAll.length {H0 H : Hp} : ∀ {ps : List (PyData × Nat)} {vs : List V}, PrAll H0 H ps vs → vs.length = ps.length
  | [], _, h => by rw [show _ = _ from h]; rfl
  | _ :: _, _, ⟨v, t, q, _, r⟩ => by rw [q, List.length_cons, List.length_cons, PrAll.length r]
theorem PrAll.last {H0 H : Hp} : ∀ {ps : List (PyData × Nat)} {vs : List V}, PrAll H0 H ps vs → vs ≠ [] → ∃ qs x ws v, ps = qs ++ [x] ∧ vs = ws ++ [v] ∧ PrAll H0 H qs ws ∧ PrOne H0 H x v
  | [], _, h, n => absurd h n
  | [x], _, ⟨v, t, q, h, r⟩, _ => ⟨[], x, [], v, rfl, by rw [q, show t = [] from r]; rfl, rfl, h⟩
  | x :: y :: l, _, ⟨v, t, q, h, r⟩, _ => by
    obtain ⟨qs, z, ws, w, e1, e2, r1, r2⟩ := PrAll.last r (by obtain ⟨_, _, z, _⟩ := r; rw [z]; simp)
    exact ⟨x :: qs, z, v :: ws, w, by rw [e1]; rfl, by rw [q, e2]; rfl, ⟨v, ws, rfl, h, r1⟩, r2⟩
theorem PrAll.dp {K : PySem.W.Frag} {H0 H : Hp} (e : Same H0 H) : ∀ {ps : List (PyData × Nat)} {vs : List V}, PrAll H0 H ps vs → DpAll K H vs (ps.map fun x => .tuple [x.1, .int x.2])
  | [], _, h => by rw [show _ = _ from h]; exact .nil
  | x :: _, _, ⟨v, t, q, ⟨p, u, z, hp, hu⟩, r⟩ => by
    subst z q
    exact .cons (.tup (.of hp) (.cons (At.dp (hu.le (Same.le e))) (.cons (.int _) .nil))) (PrAll.dp e r)
theorem PrAll.lay {ps : List (PyData × Nat)} (h : ∀ x ∈ ps, okD x.1 = true) : PyData.canLayAll0 (ps.map fun x => .tuple [x.1, .int x.2]) = true := by
  induction ps with
  | nil => rfl
  | cons x r ih =>
    simp only [List.map_cons, PyData.canLayAll0, PyData.canLay0, Bool.and_true, Bool.and_eq_true]
    exact ⟨okD_lay _ (h x (List.mem_cons_self ..)), ih fun y m => h y (List.mem_cons_of_mem _ m)⟩
section
variable {P : Program} {w : World} {K : PySem.W.Frag} {mg : Str → Option Value} {base : Heap}
abbrev s_is_rule : Stmt := topS 11
theorem sc_is_rule : FnScope ["thing", "lines", "tables", "choices", "rest", "rule", "deep", "places", "place"] ["thing", "lines", "tables", "choices"] (defScope s_is_rule) := ⟨rfl, rfl, rfl, by decide +kernel, rfl, by decide +kernel, by decide +kernel⟩
def sp_is_rule : Sp4 := fun a b c e H Q _ => ∃ d L T C, At H d a ∧ (okD d = true ∧ sz d ≤ 50000) ∧ b = .int L ∧ c = .int T ∧ e = .int C ∧ ∀ H', Same H H' → Q (.bl (isR L T C 8 d)) H'
theorem ok_is_rule (M : Mg mg) (c_DEEPEST : ∃ t, mg "DEEPEST" = some (.int 8 t)) (G_places_of : Has P w K mg base "places_of" ["rule", "tables", "choices"] 2 (sp3 sp_places_of)) (G_is_plain : Has P w K mg base "is_plain" ["rule", "lines"] 3 (sp2 sp_is_plain))
    (D : DefAt K mg "is_rule" s_is_rule ["thing", "lines", "tables", "choices"]) : Has P w K mg base "is_rule" ["thing", "lines", "tables", "choices"] 4 (sp4 sp_is_rule) := by
  refine .mk4 D sc_is_rule fun f cdv A outer s H a b c e Q E hr h => ⟨_, (pss_cons (ps_set (i := 4) sc_is_rule.nd rfl (by first | exact Or.inl rfl | exact Or.inr rfl) (pe_lst (pa_cons (pe_tup (pa_cons (pv 0) (pa_cons pe_int pa_nil))) pa_nil)))
    (pss_cons (ps_while own_p (pt_cmpR (k_neE K rfl hr) (pv 4) (pe_lst pa_nil) (nomark _)) (pss_cons (ps_asg (k_bm0 K rfl PySem.F.plainAttrs_list PySem.F.slot_list_pop PySem.F.type_list_pop mt_pop (pv 4)) (pg_tup (by rfl) (pgs_cons (pg_name (i := 5) sc_is_rule.nd rfl (by first | exact Or.inl rfl | exact Or.inr rfl)) (pgs_cons (pg_name (i := 6) sc_is_rule.nd rfl (by first | exact Or.inl rfl | exact Or.inr rfl)) pgs_nil))))
    (pss_cons (ps_if (PW.pt (pw_or (pt_not (pt_val (pe_callB (k_isi K rfl) (by rfl) M.isinstance (by decide +kernel) (pa_cons (pv 5) (pa_cons (pe_bltn (v := .ty "tuple") (by rfl) M.tuple (by decide +kernel) rfl) pa_nil))))) (pw_or (pt_cmpR o_lt (pe_callB (k_len K rfl) (by rfl) M.len (by decide +kernel) (pa_cons (pv 5) pa_nil)) pe_int (nomark _)) (pw_or (pt_cmpR o_gt (pv 6) (pe_gi (by rfl) c_DEEPEST) (nomark _)) (pw_or1 (pt_not (pt_val (pe_callB (k_isi K rfl) (by rfl) M.isinstance (by decide +kernel) (pa_cons (pe_ix (k_ix K rfl) (pv 5) pe_int (fun _ _ => rfl)) (pa_cons (pe_bltn (v := .ty "str") (by rfl) M.str (by decide +kernel) rfl) pa_nil)))))))))) (pss_one (ps_ret pe_bl)) pss_nil)
    (pss_cons (ps_set (i := 7) sc_is_rule.nd rfl (by first | exact Or.inl rfl | exact Or.inr rfl) (pe_own G_places_of (hr.mono (by first | decide | omega)) (by rfl) p_body (pa_cons (pv 5) (pa_cons (pv 2) (pa_cons (pv 3) pa_nil)))))
    (pss_cons (ps_if (PW.pt (pw_and (pt_cmpR op_isN (pv 7) pe_non (nomark _)) (pw_and1 (pt_not (pt_val (pe_own G_is_plain (hr.mono (by first | decide | omega)) (by rfl) p_body (pa_cons (pv 5) (pa_cons (pv 1) pa_nil)))))))) (pss_one (ps_ret pe_bl)) pss_nil)
    (pss_one (ps_if (pt_cmpR op_notN (pv 7) pe_non (nomark _)) (pss_one (ps_set (i := 4) sc_is_rule.nd rfl (by first | exact Or.inl rfl | exact Or.inr rfl) (pe_op (k_add K rfl) (pv 4) (pe_lc (own := [("place", 8)]) (g := gName 8) (by rfl) sc_is_rule.nd (k_pi K rfl (pv 7)) (blkOk_by (N := ["thing", "lines", "tables", "choices", "rest", "rule", "deep", "places", "place"]) (sc := (defScope s_is_rule)) (own := [("place", 8)]) (by decide +kernel)) (fun _ _ _ _ _ => (pg_name (i := 8) sc_is_rule.nd rfl (by first | exact Or.inl rfl | exact Or.inr rfl))) (fun _ _ _ _ _ => pts_nil) (fun _ _ _ _ _ => (pe_tup (pa_cons (pe_ix (k_ix K rfl) (pv 5) (pv 8) (fun _ _ => rfl)) (pa_cons (pe_op (k_add K rfl) (pv 6) pe_int) pa_nil)))))))) pss_nil)))))))
    (pss_one (ps_ret pe_bl)))), ?_⟩
  obtain ⟨d, L, T, C, hd, ⟨ok, hsz⟩, rfl, rfl, rfl, q⟩ := h
  refine Fl.go_start (σ0 := [some _, some _, some _, some _, none, none, none, none, none]) rfl ?_
  walk_at "s"
  rename_i p0 hp0 r0 hr0
  refine while_go (fun m σ' H' => ∃ (r : Addr) (ps : List (PyData × Nat)) (vs : List V) (x1 x2 x3 x4 : Option V), σ' = [some a, some (.int L), some (.int T), some (.int C), some (.ref r), x1, x2, x3, x4] ∧
    m = szAll (ps.map (·.1)) ∧ H' r = some (.lst vs) ∧ H r = none ∧ Same H H' ∧ PrAll H H' ps vs ∧ (∀ x ∈ ps, okD x.1 = true ∧ 1 ≤ x.2) ∧ szAll (ps.map (·.1)) ≤ 50000 ∧ isR L T C 8 d = ps.all fun x => isR L T C (9 - x.2) x.1) (sz d)
    ⟨r0, [(d, 1)], [.ref p0], none, none, none, none, rfl, by simp [szAll], by walk_at "hp", L2.Same.free (Same.new (.refl _) hp0) hr0, by walk_at "sm", ⟨_, _, rfl, ⟨p0, a, rfl, (by show _ = some (HO.tup [a, V.int 1]); walk_at "hp"), hd⟩, rfl⟩, by simp [ok], by simp [szAll]; omega, by simp⟩ ?_
  rintro m σ' H' ⟨r, ps, vs, x1, x2, x3, x4, rfl, rfl, hrv, hrf, sm, hps, hok, hle, hres⟩
  walk_at "s"
  rename_i pe hpe
  have tupN : ∀ p xs, H' p = some (.tup xs) → (upd H' pe (.lst [])) p = some (.tup xs) := fun p xs h => Same.new (.refl _) hpe _ _ h
  refine ne_e (by walk_at "hp") (by walk_at "hp") ((hps.mono tupN).dp (by walk_at "sm")) (PrAll.lay fun x m => (hok x m).1) ?_
  walk_at "s"
  by_cases hv : vs = []
  · subst hv
    have e : ps = [] := List.eq_nil_of_length_eq_zero (hps.length.symm)
    subst e
    walk_at "s"
    rw [hres] at q
    exact q _ (by walk_at "sm")
  have hv' : vs.isEmpty = false := by simpa using hv
  rw [hv']
  walk_at "s"
  refine while_turn ?_
  obtain ⟨qs, x, ws, v, rfl, rfl, hq, ⟨p1, u, rfl, hp1, hu⟩⟩ := hps.last hv
  obtain ⟨d1, k⟩ := x
  dsimp only at hp1 hu
  walk_at "s"
  refine ex_v (v := .ref p1) (by simp) ?_
  rw [List.dropLast_concat]
  have hne : p1 ≠ r := fun z => by rw [z, hrv] at hp1; cases hp1
  have hper : pe ≠ r := fun z => by rw [z, hrv] at hpe; cases hpe
  have tup2 : ∀ p xs, H' p = some (.tup xs) → (upd (upd H' pe (.lst [])) r (.lst ws)) p = some (.tup xs) := fun p xs h => by
    rw [upd_ne (fun z => by rw [z, hrv] at h; cases h)]
    exact tupN p xs h
  have q2 := hq.mono tup2
  have h2r : (upd (upd H' pe (.lst [])) r (.lst ws)) r = some (.lst ws) := upd_same
  have h2p := tup2 _ _ hp1
  have sm2 : Same H (upd (upd H' pe (.lst [])) r (.lst ws)) := by walk_at "sm"
  generalize upd (upd H' pe (.lst [])) r (.lst ws) = H2 at *
  have ok1 := (hok (d1, k) (by simp)).1
  have k1 := (hok (d1, k) (by simp)).2
  dsimp only at ok1 k1
  have no : isR L T C (9 - k) d1 = false → isR L T C 8 d = false := fun z => by
    rw [hres, List.all_append]
    simp [z]
  have hok' : ∀ x ∈ qs, okD x.1 = true ∧ 1 ≤ x.2 := fun x m => hok x (List.mem_append_left _ m)
  have szq : szAll (qs.map (·.1)) + sz d1 = szAll ((qs ++ [(d1, k)]).map (·.1)) := by
    rw [List.map_append, szAll_append]
    simp [szAll]
  walk_at "s"
  refine ⟨rfl, ?_⟩
  cases d1 <;> first | exact hu.elim | skip
  all_goals try (cases (show _ = _ from hu))
  case tuple =>
    rename_i ds
    obtain ⟨t, us, rfl, ht, hus⟩ := id hu
    have lu := hus.length
    have ht2 := sm2 _ _ ht
    walk_at "s"
    refine if_d (fun c => ?_) (fun c => ?_)
    · walk_at "s"
      have z := no (isR_short (by omega))
      rw [z] at q
      exact q _ (by walk_at "sm")
    walk_at "s"
    refine if_d (fun c2 => ?_) (fun c2 => ?_)
    · walk_at "s"
      have z := no (by
        rw [show 9 - k = 0 by omega]
        rfl)
      rw [z] at q
      exact q _ (by walk_at "sm")
    cases ds with
    | nil => simp at lu; simp [lu] at c
    | cons d0 ds' =>
    obtain ⟨u0, us', rfl, h0, hus'⟩ := hus
    have okd : okD d0 = true ∧ okAll ds' = true := by simpa [okD, okAll] using ok1
    have hd0 : (∃ w, d0 = .str w) ∨ ∀ w, d0 ≠ .str w := by cases d0 <;> simp
    rcases hd0 with ⟨w, rfl⟩ | hn
    · cases (show _ = _ from h0)
      have l' := hus'.length
      have eR : isR L T C (9 - k) (.tuple (.str w :: ds')) = match placesOf T C w ds' with | none => isPlain L w ds' | some ps => (kids ds' ps).all (isR L T C (9 - (k + 1))) := by
        rw [show 9 - k = (8 - k) + 1 by omega, show 9 - (k + 1) = 8 - k by omega]
        simp only [List.length_cons] at c
        show (decide (1 ≤ ds'.length) && _) = _
        rw [decide_eq_true (by omega), Bool.true_and]
      walk_at "s"
      refine ⟨w, ds', ⟨t, us', rfl, ht2, hus'.le (Same.le sm2), okd.2⟩, ?_⟩
      cases hp : placesOf T C w ds' with
      | none =>
        rw [hp] at eR
        intro H3 sm3
        walk_at "s"
        refine ⟨w, ds', ⟨t, us', rfl, sm3 _ _ ht2, hus'.le (Same.le (L2.Same.trans sm2 sm3)), okd.2⟩, ?_⟩
        walk_at "s"
        rename_i H4 sm4
        cases hpl : isPlain L w ds' with
        | false =>
          have z := no (eR.trans hpl)
          rw [z] at q
          walk_at "s"
          exact q _ (L2.Same.trans sm2 (L2.Same.trans sm3 sm4))
        | true =>
          walk_at "s"
          have lt := sz_pos (.tuple (.str w :: ds'))
          refine ⟨_, ?_, r, qs, ws, _, _, _, _, rfl, rfl, sm4 _ _ (sm3 _ _ h2r), hrf, L2.Same.trans sm2 (L2.Same.trans sm3 sm4), q2.mono (fun p xs h => sm4 _ _ (sm3 _ _ h)), hok', by omega, ?_⟩
          · omega
          · rw [hres, List.all_append]
            simp [eR, hpl]
      | some ns =>
        rw [hp] at eR
        intro pp H3 sm3 hpp
        walk_at "s"
        refine lc_lst (fun D i H' => ∃ acc, H' D = some (.lst acc) ∧ Same H3 H' ∧ PrAll H H' (((kids ds' ns).map fun y => (y, k + 1)).take i) acc) hpp (fun D hD => ⟨[], upd_same, Same.new (.refl _) hD, rfl⟩) (fun D i H' _ _ ⟨_, _, e, _⟩ => e _ _ hpp) (fun D i x H' hD ex ⟨acc, hacc, smD, pacc⟩ => ?_) (fun D H4 hD ⟨acc, hacc, smD, pacc⟩ => ?_)
        · obtain ⟨n, en, rfl⟩ : ∃ n, ns[i]? = some n ∧ x = .int n := by
            rw [List.getElem?_map] at ex
            cases e : ns[i]? with
            | none => rw [e] at ex; cases ex
            | some n => rw [e] at ex; exact ⟨n, rfl, (Option.some.inj ex).symm⟩
          obtain ⟨u, hu1, hu2⟩ := place_at hp en hus'
          have smA : Same H2 H' := L2.Same.trans sm3 smD
          have ht3 := smA _ _ ht2
          walk_at "s"
          refine ⟨rfl, ?_⟩
          walk_at "s"
          refine ex_v hu1 ?_
          walk_at "s"
          rename_i pn hpn
          have la := pacc.length
          rw [List.length_take, List.length_map] at la
          have lk := szAll_len (a := kids ds' ns)
          have ks := kids_sz hp
          have hpD : pn ≠ D := fun z => by rw [z, hacc] at hpn; cases hpn
          have tupF : ∀ p xs, H' p = some (.tup xs) → (upd (upd H' pn (.tup [u, .int (k + 1)])) D (.lst (acc ++ [.ref pn]))) p = some (.tup xs) := fun p xs h => by
            rw [upd_ne (fun z => by rw [z, hacc] at h; cases h)]
            exact Same.new (.refl _) hpn _ _ h
          have ek : ((kids ds' ns).map fun y => (y, k + 1))[i]? = some (ds'.getD (n.toNat - 1) .none, k + 1) := by
            simp [kids, en]
          refine ⟨small_lt (by omega), _, upd_same, Same.mut (Same.new smD hpn) hD, ?_⟩
          rw [← take_snoc ek]
          exact PrAll.append (pacc.mono tupF) ⟨_, [], rfl, ⟨pn, u, rfl, by rw [upd_ne hpD]; exact upd_same, hu2⟩, rfl⟩
        · have la := pacc.length
          have lw := q2.length
          have ek : ((kids ds' ns).map fun y => (y, k + 1)).take (ns.map V.int).length = (kids ds' ns).map fun y => (y, k + 1) := List.take_of_length_le (by simp [kids])
          rw [ek] at pacc la
          rw [List.length_map] at la
          have lk := szAll_len (a := kids ds' ns)
          have lq := szAll_len (a := qs.map (·.1))
          rw [List.length_map] at lq
          have ks := kids_sz hp
          have smA : Same H2 H4 := L2.Same.trans sm3 smD
          walk_at "s"
          rename_i rn hrn
          have eqm : szAll ((qs ++ (kids ds' ns).map fun y => (y, k + 1)).map (·.1)) = szAll (qs.map (·.1)) + szAll (kids ds' ns) := by
            rw [List.map_append, szAll_append, List.map_map]
            simp [Function.comp_def]
          have tupF : ∀ p xs, H4 p = some (.tup xs) → (upd H4 rn (.lst (ws ++ acc))) p = some (.tup xs) := fun p xs h => Same.new (.refl _) hrn _ _ h
          refine ⟨_, ?_, rn, qs ++ (kids ds' ns).map fun y => (y, k + 1), ws ++ acc, _, _, _, _, rfl, rfl, upd_same, L2.Same.free (L2.Same.trans sm2 smA) hrn, Same.new (L2.Same.trans sm2 smA) hrn, PrAll.append (q2.mono fun p xs h => tupF _ _ (smA _ _ h)) (pacc.mono tupF), ?_, ?_, ?_⟩
          · rw [eqm]
            omega
          · intro x hx
            rcases List.mem_append.mp hx with z | z
            · exact hok' x z
            · obtain ⟨y, hy, rfl⟩ := List.mem_map.mp z
              exact ⟨okAll_mem okd.2 (kids_mem hp hy), by simp⟩
          · rw [eqm]
            omega
          · rw [hres, List.all_append, List.all_append, List.all_map]
            simp [eR, Function.comp_def]
    cases d0 <;> first | exact h0.elim | exact absurd rfl (hn _) | skip
    all_goals try (cases (show _ = _ from h0))
    all_goals
      walk_at "s"
      have z := no (isR_none fun w ds h => by simp at h)
      rw [z] at q
      exact q _ (by walk_at "sm")
  all_goals
    walk_at "s"
    have z := no (isR_none fun w ds h => by simp at h)
    rw [z] at q
    exact q _ (by walk_at "sm")
end
end Fl

-- after: r2.tpl
namespace Fl
open PySem PySem.Spec PyProof.Rows L2 RZ
/-! ### named -/
section
variable {P : Program} {w : World} {K : PySem.W.Frag} {mg : Str → Option Value} {base : Heap}
abbrev s_inner_rules : Stmt := topS 12
theorem sc_inner_rules : FnScope ["rule", "part"] ["rule"] (defScope s_inner_rules) := ⟨rfl, rfl, rfl, by decide +kernel, rfl, by decide +kernel, by decide +kernel⟩
def sp_inner_rules : Sp1 := fun a H Q _ => ∃ H0 t v0 vs ds, Same H0 H ∧ a = .ref t ∧ H t = some (.tup (v0 :: vs)) ∧ AtAll H0 ds vs ∧ vs.length ≤ 60000 ∧ ∀ p H' ws, Same H H' → H' p = some (.lst ws) → AtAll H0 (ds.filter isTupD) ws → Q (.ref p) H'
theorem ok_inner_rules (M : Mg mg) (D : DefAt K mg "inner_rules" s_inner_rules ["rule"]) : Has P w K mg base "inner_rules" ["rule"] 1 (sp1 sp_inner_rules) := by
  refine .mk1 D sc_inner_rules fun f cdv A outer s H a Q E hr h => ⟨_, (pss_one (ps_ret (pe_lc (own := [("part", 1)]) (g := gName 1) (by rfl) sc_inner_rules.nd (k_pi K rfl (pe_slice (k_sl K rfl) (pv 0) (po_some pe_int) po_none)) (blkOk_by (N := ["rule", "part"]) (sc := (defScope s_inner_rules)) (own := [("part", 1)]) (by decide +kernel)) (fun _ _ _ _ _ => (pg_name (i := 1) sc_inner_rules.nd rfl (by first | exact Or.inl rfl | exact Or.inr rfl))) (fun _ _ _ _ _ => (pts_one (pt_val (pe_callB (k_isi K rfl) (by rfl) M.isinstance (by decide +kernel) (pa_cons (pv 1) (pa_cons (pe_bltn (v := .ty "tuple") (by rfl) M.tuple (by decide +kernel) rfl) pa_nil)))))) (fun _ _ _ _ _ => (pv 1))))), ?_⟩
  obtain ⟨H0, t, v0, vs, ds, sm0, rfl, ht, hvs, l, q⟩ := h
  have lv := hvs.length
  refine Fl.go_start (σ0 := [some _, none]) rfl ?_
  walk_at "s"
  rename_i p1 H1 sm1 e1
  rw [cut_tail] at e1
  refine lc_tpl (fun D i H' => ∃ acc, H' D = some (.lst acc) ∧ Same H1 H' ∧ AtAll H0 ((ds.take i).filter isTupD) acc) e1 (fun D hD => ⟨[], upd_same, Same.new (.refl _) hD, rfl⟩) (fun D i H' _ _ ⟨_, _, e, _⟩ => e _ _ e1) (fun D i x H' hD ex ⟨acc, hacc, smD, pacc⟩ => ?_) (fun D H4 hD ⟨acc, hacc, smD, pacc⟩ => ?_)
  · obtain ⟨d, ed, hd⟩ := hvs.ix ex
    have la := pacc.length
    have lf := List.length_filter_le isTupD (ds.take i)
    rw [List.length_take] at lf
    refine ⟨rfl, ?_⟩
    rw [← take_snoc ed, List.filter_append]
    cases d <;> first | exact hd.elim | skip
    case tuple =>
      obtain ⟨b, us, rfl, hb, hus⟩ := id hd
      have hb' := smD _ _ (sm1 _ _ (sm0 _ _ hb))
      walk_at "s"
      exact ⟨Same.mut smD hD, pacc.append (AtAll.one hd)⟩
    all_goals try (cases (show _ = _ from hd))
    case list =>
      obtain ⟨b, us, rfl, hb, hus⟩ := id hd
      have hb' := smD _ _ (sm1 _ _ (sm0 _ _ hb))
      walk_at "s"
      simpa [isTupD] using pacc
    all_goals
      walk_at "s"
      simpa [isTupD] using pacc
  · rw [show (List.drop 1 (v0 :: vs)).length = ds.length by simp [lv], List.take_length] at pacc
    walk_at "s"
    exact q _ _ _ (L2.Same.trans sm1 smD) hacc pacc
def InnQ (H0 H : Hp) (ds : List PyData) (R : Addr → Hp → Prop) : Prop := ∀ p H' ws, Same H H' → H' p = some (.lst ws) → AtAll H0 (ds.filter isTupD) ws → R p H'
instance {H : Hp} {Q : VK} {E : XK} {a : V} : Step (sp_inner_rules a H Q E) (∃ H0 t v0 vs ds, Same H0 H ∧ a = .ref t ∧ H t = some (.tup (v0 :: vs)) ∧ AtAll H0 ds vs ∧ vs.length ≤ 60000 ∧ InnQ H0 H ds fun p H' => Q (.ref p) H') := ⟨fun h => h⟩
end
end Fl

-- after: r3.tpl
namespace Fl
open PySem PySem.Spec PyProof.Rows L2 RZ
theorem places_none {T C : Int} {w : Str} {ds : List PyData} (h1 : ¬ (w = "add" ∨ w = "take" ∨ w = "least" ∨ w = "most")) (h2 : ¬ w = "part") (h3 : ¬ w = "table") (h4 : ¬ w = "where") (h5 : ¬ w = "choose") : placesOf T C w ds = none := by
  simp only [placesOf, h1, h2, h3, h4, h5, false_and, if_false]
theorem places_part {T C : Int} {ds : List PyData} : placesOf T C "part" ds = if ds.length = 2 ∧ isWhole (ds.getD 1 .none) 0 100 = true then some [1] else none := by
  have n1 : ¬ ((("part" : Str) = "add" ∨ ("part" : Str) = "take" ∨ ("part" : Str) = "least" ∨ ("part" : Str) = "most")) := by decide +kernel
  have n3 : ¬ ("part" : Str) = "table" := by decide +kernel
  have n4 : ¬ ("part" : Str) = "where" := by decide +kernel
  have n5 : ¬ ("part" : Str) = "choose" := by decide +kernel
  simp only [placesOf, n1, n3, n4, n5, eq_self, true_and, false_and, if_false]
theorem places_table {T C : Int} {ds : List PyData} : placesOf T C "table" ds = if ds.length = 2 ∧ isWhole (ds.getD 0 .none) 0 (T - 1) = true then some [2] else none := by
  have n1 : ¬ ((("table" : Str) = "add" ∨ ("table" : Str) = "take" ∨ ("table" : Str) = "least" ∨ ("table" : Str) = "most")) := by decide +kernel
  have n2 : ¬ ("table" : Str) = "part" := by decide +kernel
  have n4 : ¬ ("table" : Str) = "where" := by decide +kernel
  have n5 : ¬ ("table" : Str) = "choose" := by decide +kernel
  simp only [placesOf, n1, n2, n4, n5, eq_self, true_and, false_and, if_false]
theorem places_choose {T C : Int} {ds : List PyData} : placesOf T C "choose" ds = if ds.length = 3 ∧ isWhole (ds.getD 0 .none) 0 (C - 1) = true then some [2, 3] else none := by
  have n1 : ¬ ((("choose" : Str) = "add" ∨ ("choose" : Str) = "take" ∨ ("choose" : Str) = "least" ∨ ("choose" : Str) = "most")) := by decide +kernel
  have n2 : ¬ ("choose" : Str) = "part" := by decide +kernel
  have n3 : ¬ ("choose" : Str) = "table" := by decide +kernel
  have n4 : ¬ ("choose" : Str) = "where" := by decide +kernel
  simp only [placesOf, n1, n2, n3, n4, eq_self, true_and, false_and, if_false]
theorem places_where {T C : Int} {ds : List PyData} : placesOf T C "where" ds = if ds.length = 3 then some [1, 2, 3] else none := by
  have n1 : ¬ ((("where" : Str) = "add" ∨ ("where" : Str) = "take" ∨ ("where" : Str) = "least" ∨ ("where" : Str) = "most")) := by decide +kernel
  have n2 : ¬ ("where" : Str) = "part" := by decide +kernel
  have n3 : ¬ ("where" : Str) = "table" := by decide +kernel
  have n5 : ¬ ("where" : Str) = "choose" := by decide +kernel
  simp only [placesOf, n1, n2, n3, n5, eq_self, true_and, false_and, if_false]
theorem places_four {T C : Int} {w : Str} {ds : List PyData} (h : (w = "add" ∨ w = "take" ∨ w = "least" ∨ w = "most")) : placesOf T C w ds = if ds.length = 2 then some [1, 2] else none := by
  have n2 : ¬ w = "part" := by rcases h with h | h | h | h <;> (rw [h]; decide +kernel)
  have n3 : ¬ w = "table" := by rcases h with h | h | h | h <;> (rw [h]; decide +kernel)
  have n4 : ¬ w = "where" := by rcases h with h | h | h | h <;> (rw [h]; decide +kernel)
  have n5 : ¬ w = "choose" := by rcases h with h | h | h | h <;> (rw [h]; decide +kernel)
  simp only [placesOf, h, n2, n3, n4, n5, true_and, false_and, if_false]
theorem whole_cases (d : PyData) : (∃ i, d = .int i) ∨ ((isIntD d && !isBoolD d) = false ∧ ∀ lo hi, isWhole d lo hi = false) := by
  cases d <;> simp [isIntD, isBoolD, isWhole]
end Fl

-- after: rq.tpl
namespace Fl
open PySem PySem.Spec PyProof.Rows L2 RZ
/-! ### values of one kind, sorted: whole numbers (false), texts (true) -/
def okK : Bool → V → Prop
  | false, v => ∃ i, v = .int i
  | true, v => ∃ s, v = .str s
def leV : V → V → Prop
  | .int i, .int j => i ≤ j
  | .str x, .str y => x.cps.toList ≤ y.cps.toList
  | _, _ => False
theorem leV_antisymm {b : Bool} {x y : V} (hx : okK b x) (hy : okK b y) (h1 : leV x y) (h2 : leV y x) : x = y := by
  cases b with
  | false =>
    obtain ⟨i, rfl⟩ := hx
    obtain ⟨j, rfl⟩ := hy
    exact congrArg V.int (Int.le_antisymm h1 h2)
  | true =>
    obtain ⟨i, rfl⟩ := hx
    obtain ⟨j, rfl⟩ := hy
    have e : i.cps.toList = j.cps.toList := List.le_antisymm h1 h2
    have e2 : i.cps = j.cps := Array.toList_inj.mp e
    obtain ⟨i⟩ := i
    obtain ⟨j⟩ := j
    exact congrArg V.str (congrArg Str.mk e2)
/-- the one sorted list without doubles of these values -/
structure Canon (b : Bool) (ys vs : List V) : Prop where
  ok : ∀ v ∈ ys, okK b v
  up : ys.Pairwise leV
  nd : ys.Nodup
  mem : ∀ v, v ∈ ys ↔ v ∈ vs
theorem sorted_eq {b : Bool} : ∀ {xs ys : List V}, (∀ v ∈ xs, okK b v) → xs.Pairwise leV → ys.Pairwise leV → xs.Nodup → ys.Nodup → (∀ v, v ∈ xs ↔ v ∈ ys) → xs = ys
  | [], ys, _, _, _, _, _, m => by
    cases ys with
    | nil => rfl
    | cons y r => exact absurd ((m y).mpr (List.mem_cons_self ..)) (List.not_mem_nil)
  | x :: r, [], _, _, _, _, _, m => absurd ((m x).mp (List.mem_cons_self ..)) (List.not_mem_nil)
  | x :: r, y :: t, ok, u1, u2, n1, n2, m => by
    have oy : okK b y := ok y ((m y).mpr (List.mem_cons_self ..))
    have ox := ok x (List.mem_cons_self ..)
    have u1' := List.pairwise_cons.mp u1
    have u2' := List.pairwise_cons.mp u2
    have n1' := List.nodup_cons.mp n1
    have n2' := List.nodup_cons.mp n2
    have e : x = y := by
      rcases List.mem_cons.mp ((m x).mp (List.mem_cons_self ..)) with z | z
      · exact z
      rcases List.mem_cons.mp ((m y).mpr (List.mem_cons_self ..)) with z' | z'
      · exact z'.symm
      exact leV_antisymm ox oy (u1'.1 y z') (u2'.1 x z)
    subst e
    refine congrArg (x :: ·) (sorted_eq (fun v hv => ok v (List.mem_cons_of_mem _ hv)) u1'.2 u2'.2 n1'.2 n2'.2 fun v => ?_)
    constructor
    · intro hv
      rcases List.mem_cons.mp ((m v).mp (List.mem_cons_of_mem _ hv)) with z | z
      · exact absurd (z ▸ hv) n1'.1
      · exact z
    · intro hv
      rcases List.mem_cons.mp ((m v).mpr (List.mem_cons_of_mem _ hv)) with z | z
      · exact absurd (z ▸ hv) n2'.1
      · exact z
theorem Canon.eq {b : Bool} {xs ys vs : List V} (h : Canon b xs vs) (k : Canon b ys vs) : xs = ys :=
  sorted_eq h.ok h.up k.up h.nd k.nd fun v => (h.mem v).trans (k.mem v).symm
theorem risingS_pw : ∀ {l : List Str} {p : Str}, risingS p l = true → (p :: l).Pairwise (fun a b => a.cps.toList ≤ b.cps.toList)
  | [], _, _ => List.pairwise_singleton _ _
  | x :: r, p, h => by
    have h' : (!ltCps x.cps.toList p.cps.toList && risingS x r) = true := h
    rw [Bool.and_eq_true, ltCps_eq] at h'
    have h1 : p.cps.toList ≤ x.cps.toList := by
      have := h'.1
      simp at this
      exact this
    have ih := risingS_pw h'.2
    refine List.pairwise_cons.mpr ⟨fun y hy => ?_, ih⟩
    rcases List.mem_cons.mp hy with rfl | hy
    · exact h1
    · exact List.le_trans h1 ((List.pairwise_cons.mp ih).1 y hy)
theorem sortedS_pw {l : List Str} (h : sortedS l = true) : l.Pairwise (fun a b => a.cps.toList ≤ b.cps.toList) := by
  cases l with
  | nil => exact List.Pairwise.nil
  | cons x r => exact risingS_pw h
def uSort (K : PySem.W.Frag) : List V → Hp → VK → Prop := fun vs H Q => rSortedI K vs H Q ∨ rSortedS K vs H Q
theorem k_sortU (K : PySem.W.Frag) {X : Cx} (h : X.K = K) : CallR X (.builtin "sorted") (uSort K) := by
  subst h
  intro pins s σ H vs us Q I r h
  rcases h with h | h
  · exact cr_sortedI pins s σ H vs us Q I r h
  · exact cr_sortedS pins s σ H vs us Q I r h
theorem ints_of {xs : List V} (h : ∀ v ∈ xs, okK false v) : ∃ ns : List Int, xs = ns.map V.int := by
  induction xs with
  | nil => exact ⟨[], rfl⟩
  | cons x r ih =>
    obtain ⟨i, rfl⟩ := h x (List.mem_cons_self ..)
    obtain ⟨ns, rfl⟩ := ih fun v hv => h v (List.mem_cons_of_mem _ hv)
    exact ⟨i :: ns, rfl⟩
theorem strs_of {xs : List V} (h : ∀ v ∈ xs, okK true v) : ∃ ns : List Str, xs = ns.map V.str := by
  induction xs with
  | nil => exact ⟨[], rfl⟩
  | cons x r ih =>
    obtain ⟨i, rfl⟩ := h x (List.mem_cons_self ..)
    obtain ⟨ns, rfl⟩ := ih fun v hv => h v (List.mem_cons_of_mem _ hv)
    exact ⟨i :: ns, rfl⟩
theorem sort_k {K : PySem.W.Frag} {H : Hp} {Q : VK} {a : Addr} {xs vs : List V} {b : Bool} (ha : H a = some (.lst xs)) (ok : ∀ v ∈ xs, okK b v) (nd : xs.Nodup) (few : b = true → xs.length < 64) (mem : ∀ v, v ∈ xs ↔ v ∈ vs)
    (q : ∀ (ys : List V) (p : Addr), Canon b ys vs → H p = none → Q (.ref p) (upd H p (.lst ys))) : uSort K [.ref a] H Q := by
  cases b with
  | false =>
    obtain ⟨ns, rfl⟩ := ints_of ok
    refine .inl ⟨a, ns, rfl, .of ha, fun ns' p pm up hp => q _ p ⟨fun v hv => ?_, ?_, ?_, fun v => ?_⟩ hp⟩
    · obtain ⟨i, _, rfl⟩ := List.mem_map.mp hv
      exact ⟨i, rfl⟩
    · exact List.pairwise_map.mpr up
    · exact (pm.map V.int).nodup_iff.mpr nd
    · exact ((pm.map V.int).mem_iff).trans (mem v)
  | true =>
    obtain ⟨ns, rfl⟩ := strs_of ok
    refine .inr ⟨a, ns, rfl, .of ha, by simpa using few rfl, fun ns' p pm up hp => q _ p ⟨fun v hv => ?_, ?_, ?_, fun v => ?_⟩ hp⟩
    · obtain ⟨i, _, rfl⟩ := List.mem_map.mp hv
      exact ⟨i, rfl⟩
    · exact List.pairwise_map.mpr (sortedS_pw up)
    · exact (pm.map V.str).nodup_iff.mpr nd
    · exact ((pm.map V.str).mem_iff).trans (mem v)
theorem eqV_k {b : Bool} {x y : V} (hx : okK b x) (hy : okK b y) : eqV y x = decide (x = y) := by
  cases b with
  | false =>
    obtain ⟨i, rfl⟩ := hx
    obtain ⟨j, rfl⟩ := hy
    show (j == i) = _
    by_cases h : i = j
    · subst h; simp
    · simp [h, Ne.symm h]
  | true =>
    obtain ⟨i, rfl⟩ := hx
    obtain ⟨j, rfl⟩ := hy
    show (j == i) = _
    by_cases h : i = j
    · subst h; simp
    · simp [h, Ne.symm h]
theorem inV_k {b : Bool} {x : V} {xs : List V} (hx : okK b x) (h : ∀ v ∈ xs, okK b v) : inV x xs = decide (x ∈ xs) := by
  induction xs with
  | nil => simp [inV]
  | cons y r ih =>
    show (eqV y x || inV x r) = _
    rw [eqV_k hx (h y (List.mem_cons_self ..)), ih fun v hv => h v (List.mem_cons_of_mem _ hv)]
    simp [List.mem_cons]
end Fl

-- after: r5.tpl
namespace Fl
open PySem PySem.Spec PyProof.Rows L2 RZ
/-! ### the values that a word names in a good rule -/
def vOf : PyData → V
  | .int i => .int i
  | .str s => .str s
  | _ => .non
def vals (word : Str) : Nat → PyData → List V
  | 0, _ => []
  | n + 1, d => match d with
    | .tuple (.str w :: ds) => (if w = word then [vOf (ds.getD 0 .none)] else []) ++ (ds.filter isTupD).flatMap (vals word n)
    | _ => []
def fiveW (b : Bool) (w : Str) : Prop := (b = true ∧ w = "paper") ∨ (b = false ∧ (w = "line" ∨ w = "earlier" ∨ w = "table" ∨ w = "choose"))
theorem isWhole_int {d : PyData} {lo hi : Int} (h : isWhole d lo hi = true) : ∃ i, d = .int i := by
  cases d <;> simp [isWhole] at h
  exact ⟨_, rfl⟩
theorem isWord_str {d : PyData} (h : isWord d = true) : ∃ s, d = .str s := by
  cases d <;> simp [isWord] at h
  exact ⟨_, rfl⟩
theorem good_shape {L T C : Int} {n : Nat} {d : PyData} (h : isR L T C n d = true) : ∃ m w ds, n = m + 1 ∧ d = .tuple (.str w :: ds) ∧ 1 ≤ ds.length ∧ (match placesOf T C w ds with | none => isPlain L w ds | some ps => (kids ds ps).all (isR L T C m)) = true := by
  cases n with
  | zero => cases h
  | succ m =>
    unfold isR isR1 at h
    split at h
    · rename_i w ds
      rw [Bool.and_eq_true] at h
      exact ⟨m, w, ds, rfl, rfl, of_decide_eq_true h.1, h.2⟩
    · cases h
theorem isR_tup {L T C : Int} {n : Nat} {d : PyData} (h : isR L T C n d = true) : isTupD d = true := by
  obtain ⟨m, w, ds, _, rfl, _⟩ := good_shape h
  rfl
theorem plain_one {L : Int} {w : Str} {ds : List PyData} (h : isPlain L w ds = true) : (∃ i, ds = [.int i]) ∨ ∃ s, ds = [.str s] := by
  unfold isPlain at h
  split at h
  · rw [Bool.and_eq_true] at h
    have l := of_decide_eq_true h.1
    match ds, l with
    | [x], _ =>
      obtain ⟨i, e⟩ := isWhole_int (show isWhole x _ _ = true from h.2)
      exact .inl ⟨i, by rw [e]⟩
  split at h
  · rw [Bool.and_eq_true] at h
    have l := of_decide_eq_true h.1
    match ds, l with
    | [x], _ =>
      obtain ⟨i, e⟩ := isWord_str (show isWord x = true from h.2)
      exact .inr ⟨i, by rw [e]⟩
  · rw [Bool.and_eq_true, Bool.and_eq_true] at h
    have l := of_decide_eq_true h.1.2
    match ds, l with
    | [x], _ =>
      obtain ⟨i, e⟩ := isWhole_int (show isWhole x _ _ = true from h.2)
      exact .inl ⟨i, by rw [e]⟩
theorem tups_kids {T C : Int} {w : Str} {ds : List PyData} {ps : List Int} (h : placesOf T C w ds = some ps) {d : PyData} (m : d ∈ ds) (t : isTupD d = true) : d ∈ kids ds ps := by
  have no : ∀ {x : PyData} {lo hi : Int}, isWhole x lo hi = true → ¬ isTupD x = true := fun hx ht => by
    obtain ⟨i, rfl⟩ := isWhole_int hx
    cases ht
  have hc := places_cases h
  unfold placesOf at h
  rcases hc with ⟨rfl, a, b, rfl⟩ | ⟨rfl, a, b, rfl⟩ | ⟨rfl, a, b, rfl⟩ | ⟨rfl, a, b, c, rfl⟩ | ⟨rfl, a, b, c, rfl⟩
  · simpa [kids] using m
  · have hb : isWhole b 0 100 = true := by
      simp only [List.length_cons, List.length_nil, List.getD_cons_zero, List.getD_cons_succ] at h
      split at h
      · simp at h
      split at h
      · rename_i g
        exact g.2.2
      split at h
      · simp at h
      split at h
      · simp at h
      split at h
      · simp at h
      · cases h
    simp only [List.mem_cons, List.not_mem_nil, or_false] at m
    rcases m with rfl | rfl
    · simp [kids]
    · exact absurd t (no hb)
  · have hb : isWhole a 0 (T - 1) = true := by
      simp only [List.length_cons, List.length_nil, List.getD_cons_zero, List.getD_cons_succ] at h
      split at h
      · simp at h
      split at h
      · simp at h
      split at h
      · rename_i g
        exact g.2.2
      split at h
      · simp at h
      split at h
      · simp at h
      · cases h
    simp only [List.mem_cons, List.not_mem_nil, or_false] at m
    rcases m with rfl | rfl
    · exact absurd t (no hb)
    · simp [kids]
  · simpa [kids] using m
  · have hb : isWhole a 0 (C - 1) = true := by
      simp only [List.length_cons, List.length_nil, List.getD_cons_zero, List.getD_cons_succ] at h
      split at h
      · simp at h
      split at h
      · simp at h
      split at h
      · simp at h
      split at h
      · simp at h
      split at h
      · rename_i g
        exact g.2.2
      · cases h
    simp only [List.mem_cons, List.not_mem_nil, or_false] at m
    rcases m with rfl | rfl | rfl
    · exact absurd t (no hb)
    · simp [kids]
    · simp [kids]
/-- the parts of a good rule -/
theorem good_tups {L T C : Int} {m : Nat} {w : Str} {ds : List PyData} (h : isR L T C (m + 1) (.tuple (.str w :: ds)) = true) {d : PyData} (hd : d ∈ ds) (t : isTupD d = true) : isR L T C m d = true := by
  obtain ⟨m', w', ds', e1, e2, _, h⟩ := good_shape h
  cases e1
  cases e2
  cases hp : placesOf T C w ds with
  | none =>
    rw [hp] at h
    rcases plain_one h with ⟨i, rfl⟩ | ⟨i, rfl⟩
    · rw [List.mem_singleton.mp hd] at t
      cases t
    · rw [List.mem_singleton.mp hd] at t
      cases t
  | some ps =>
    rw [hp] at h
    exact List.all_eq_true.mp h d (tups_kids hp hd t)
theorem good_val {L T C : Int} {m : Nat} {b : Bool} {w : Str} {ds : List PyData} (h : isR L T C (m + 1) (.tuple (.str w :: ds)) = true) (f : fiveW b w) : okK b (vOf (ds.getD 0 .none)) := by
  obtain ⟨m', w', ds', e1, e2, _, h⟩ := good_shape h
  cases e1
  cases e2
  rcases f with ⟨rfl, rfl⟩ | ⟨rfl, f⟩
  · rw [places_none (by decide +kernel) (by decide +kernel) (by decide +kernel) (by decide +kernel) (by decide +kernel)] at h
    have h' : isPlain L "paper" ds = true := h
    unfold isPlain at h'
    rw [if_neg (by decide +kernel), if_pos rfl, Bool.and_eq_true] at h'
    obtain ⟨s, e⟩ := isWord_str h'.2
    exact ⟨s, by rw [e]; rfl⟩
  · rcases f with rfl | rfl | rfl | rfl
    · rw [places_none (by decide +kernel) (by decide +kernel) (by decide +kernel) (by decide +kernel) (by decide +kernel)] at h
      have h' : isPlain L "line" ds = true := h
      unfold isPlain at h'
      rw [if_neg (by decide +kernel), if_neg (by decide +kernel), Bool.and_eq_true] at h'
      obtain ⟨s, e⟩ := isWhole_int h'.2
      exact ⟨s, by rw [e]; rfl⟩
    · rw [places_none (by decide +kernel) (by decide +kernel) (by decide +kernel) (by decide +kernel) (by decide +kernel)] at h
      have h' : isPlain L "earlier" ds = true := h
      unfold isPlain at h'
      rw [if_neg (by decide +kernel), if_neg (by decide +kernel), Bool.and_eq_true] at h'
      obtain ⟨s, e⟩ := isWhole_int h'.2
      exact ⟨s, by rw [e]; rfl⟩
    · rw [places_table] at h
      by_cases c : ds.length = 2 ∧ isWhole (ds.getD 0 .none) 0 (T - 1) = true
      · obtain ⟨s, e⟩ := isWhole_int c.2
        exact ⟨s, by rw [e]; rfl⟩
      · rw [if_neg c] at h
        have h' : isPlain L "table" ds = true := h
        unfold isPlain at h'
        rw [if_neg (by decide +kernel), if_neg (by decide +kernel), show (decide (("table" : Str) = "line") || decide (("table" : Str) = "earlier")) = false by decide +kernel] at h'
        simp at h'
    · rw [places_choose] at h
      by_cases c : ds.length = 3 ∧ isWhole (ds.getD 0 .none) 0 (C - 1) = true
      · obtain ⟨s, e⟩ := isWhole_int c.2
        exact ⟨s, by rw [e]; rfl⟩
      · rw [if_neg c] at h
        have h' : isPlain L "choose" ds = true := h
        unfold isPlain at h'
        rw [if_neg (by decide +kernel), if_neg (by decide +kernel), show (decide (("choose" : Str) = "line") || decide (("choose" : Str) = "earlier")) = false by decide +kernel] at h'
        simp at h'
theorem vals_ok {L T C : Int} {b : Bool} {w : Str} (f : fiveW b w) : ∀ {n : Nat} {d : PyData}, isR L T C n d = true → ∀ v ∈ vals w n d, okK b v
  | 0, _, h => by cases h
  | n + 1, d, h => by
    obtain ⟨m', w', ds, e1, rfl, _, _⟩ := good_shape h
    intro v hv
    simp only [vals, List.mem_append, List.mem_flatMap] at hv
    rcases hv with hv | ⟨e, he, hv⟩
    · by_cases c : w' = w
      · subst c
        rw [if_pos rfl] at hv
        rw [List.mem_singleton.mp hv]
        exact good_val h f
      · rw [if_neg c] at hv
        cases hv
    · obtain ⟨he1, he2⟩ := List.mem_filter.mp he
      exact vals_ok f (good_tups h he1 he2) v hv
end Fl

-- after: r9.tpl
namespace Fl
open PySem PySem.Spec PyProof.Rows L2 RZ
/-! every text of d lies in the pool -/
mutual
def inP (pool : List Str) : PyData → Bool
  | .none | .bool _ | .int _ => true
  | .str x => decide (x ∈ pool)
  | .list ds | .tuple ds => inPs pool ds
  | .dict _ => false
def inPs (pool : List Str) : List PyData → Bool
  | [] => true
  | d :: ds => inP pool d && inPs pool ds
end
mutual
theorem inP_ok {pool : List Str} (hp : ∀ s ∈ pool, OkT 1000 s) : ∀ d : PyData, inP pool d = true → okD d = true
  | .none, _ | .bool _, _ | .int _, _ => rfl
  | .str x, h => by
    simp only [inP] at h
    exact (hp x (of_decide_eq_true h)).ok (Nat.le_refl _)
  | .list ds, h | .tuple ds, h => by
    simp only [inP] at h
    simp only [okD]
    exact inPs_ok hp ds h
  | .dict _, h => by simp [inP] at h
theorem inPs_ok {pool : List Str} (hp : ∀ s ∈ pool, OkT 1000 s) : ∀ ds : List PyData, inPs pool ds = true → okAll ds = true
  | [], _ => rfl
  | d :: ds, h => by
    simp only [inPs, Bool.and_eq_true] at h
    simp only [okAll, Bool.and_eq_true]
    exact ⟨inP_ok hp d h.1, inPs_ok hp ds h.2⟩
end
theorem inPs_mem {pool : List Str} {ds : List PyData} (h : inPs pool ds = true) {d : PyData} (m : d ∈ ds) : inP pool d = true := by
  induction ds with
  | nil => cases m
  | cons e r ih =>
    simp only [inPs, Bool.and_eq_true] at h
    rcases List.mem_cons.mp m with z | z
    · rw [z]; exact h.1
    · exact ih h.2 z
end Fl

-- after: r6.tpl r11.tpl
namespace Fl
open PySem PySem.Spec PyProof.Rows L2 RZ
/-! ### rules as trees -/
inductive Rule where
  | num (n : Int)
  | paper (w : Str)
  | line (k : Int)
  | earl (k : Int)
  | two (w : Str) (a b : Rule)
  | part (a : Rule) (p : Int)
  | table (k : Int) (a : Rule)
  | wher (a b c : Rule)
  | choo (k : Int) (a b : Rule)
def Rule.d : Rule → PyData
  | .num n => .tuple [.str "number", .int n]
  | .paper w => .tuple [.str "paper", .str w]
  | .line k => .tuple [.str "line", .int k]
  | .earl k => .tuple [.str "earlier", .int k]
  | .two w a b => .tuple [.str w, a.d, b.d]
  | .part a p => .tuple [.str "part", a.d, .int p]
  | .table k a => .tuple [.str "table", .int k, a.d]
  | .wher a b c => .tuple [.str "where", a.d, b.d, c.d]
  | .choo k a b => .tuple [.str "choose", .int k, a.d, b.d]
/-- what the rules of a form are drawn from -/
structure Sg where
  L : Int
  T : Int
  C : Int
  seen : List Int
  pool : List Str
def op4 (w : Str) : Prop := w = "add" ∨ w = "take" ∨ w = "least" ∨ w = "most"
def Rule.ok (g : Sg) : Nat → Rule → Prop
  | 0, _ => False
  | _ + 1, .num k => -1000000000 ≤ k ∧ k ≤ 1000000000
  | _ + 1, .paper w => w ∈ g.pool
  | _ + 1, .line k => k ∈ g.seen
  | _ + 1, .earl k => 0 ≤ k ∧ k < g.L
  | n + 1, .two w a b => op4 w ∧ a.ok g n ∧ b.ok g n
  | n + 1, .part a p => (0 ≤ p ∧ p ≤ 100) ∧ a.ok g n
  | n + 1, .table k a => (0 ≤ k ∧ k < g.T) ∧ a.ok g n
  | n + 1, .wher a b c => a.ok g n ∧ b.ok g n ∧ c.ok g n
  | n + 1, .choo k a b => (0 ≤ k ∧ k < g.C) ∧ a.ok g n ∧ b.ok g n
theorem Rule.ok_succ {g : Sg} : ∀ {n : Nat} {r : Rule}, r.ok g n → r.ok g (n + 1)
  | 0, _, h => h.elim
  | _ + 1, .num _, h => h
  | _ + 1, .paper _, h => h
  | _ + 1, .line _, h => h
  | _ + 1, .earl _, h => h
  | _ + 1, .two _ _ _, h => ⟨h.1, ok_succ h.2.1, ok_succ h.2.2⟩
  | _ + 1, .part _ _, h => ⟨h.1, ok_succ h.2⟩
  | _ + 1, .table _ _, h => ⟨h.1, ok_succ h.2⟩
  | _ + 1, .wher _ _ _, h => ⟨ok_succ h.1, ok_succ h.2.1, ok_succ h.2.2⟩
  | _ + 1, .choo _ _ _, h => ⟨h.1, ok_succ h.2.1, ok_succ h.2.2⟩
theorem Rule.ok_mono {g : Sg} {r : Rule} {n m : Nat} (l : n ≤ m) (h : r.ok g n) : r.ok g m := by
  induction l with
  | refl => exact h
  | step _ ih => exact ok_succ ih
/-- .. with more lines that may be named -/
theorem Rule.ok_seen {g : Sg} {xs : List Int} (hx : ∀ k ∈ g.seen, k ∈ xs) : ∀ {n : Nat} {r : Rule}, r.ok g n → r.ok { g with seen := xs } n
  | 0, _, h => h.elim
  | _ + 1, .num _, h => h
  | _ + 1, .paper _, h => h
  | _ + 1, .line _, h => hx _ h
  | _ + 1, .earl _, h => h
  | _ + 1, .two _ _ _, h => ⟨h.1, ok_seen hx h.2.1, ok_seen hx h.2.2⟩
  | _ + 1, .part _ _, h => ⟨h.1, ok_seen hx h.2⟩
  | _ + 1, .table _ _, h => ⟨h.1, ok_seen hx h.2⟩
  | _ + 1, .wher _ _ _, h => ⟨ok_seen hx h.1, ok_seen hx h.2.1, ok_seen hx h.2.2⟩
  | _ + 1, .choo _ _ _, h => ⟨h.1, ok_seen hx h.2.1, ok_seen hx h.2.2⟩
/-- which it names behind a word -/
def Rule.lines : Rule → List Int
  | .line k => [k]
  | .num _ | .paper _ | .earl _ => []
  | .two _ a b => a.lines ++ b.lines
  | .part a _ => a.lines
  | .table _ a => a.lines
  | .wher a b c => a.lines ++ b.lines ++ c.lines
  | .choo _ a b => a.lines ++ b.lines
/-- the words that are none of the data's own -/
def kw : List Str := ["number", "paper", "line", "earlier", "add", "take", "least", "most", "part", "table", "where", "choose"]
theorem op4_kw {w : Str} (h : op4 w) : w ∈ kw := by
  rcases h with rfl | rfl | rfl | rfl <;> simp [kw]
theorem Rule.tup (r : Rule) : isTupD r.d = true := by cases r <;> rfl
/-- all texts of a rule lie in its words and those of the pool -/
theorem Rule.inP {g : Sg} : ∀ {n : Nat} {r : Rule}, r.ok g n → Fl.inP (kw ++ g.pool) r.d = true
  | 0, _, h => h.elim
  | _ + 1, .num _, _ => by simp [Rule.d, Fl.inP, inPs, kw]
  | _ + 1, .paper _, h => by
    have h' := show _ ∈ g.pool from h
    simp [Rule.d, Fl.inP, inPs, kw, h']
  | _ + 1, .line _, _ => by simp [Rule.d, Fl.inP, inPs, kw]
  | _ + 1, .earl _, _ => by simp [Rule.d, Fl.inP, inPs, kw]
  | _ + 1, .two w a b, h => by
    have e := op4_kw h.1
    simp only [Rule.d, Fl.inP, inPs, Rule.inP h.2.1, Rule.inP h.2.2, Bool.and_true]
    exact decide_eq_true (List.mem_append_left _ e)
  | _ + 1, .part a _, h => by
    simp only [Rule.d, Fl.inP, inPs, Rule.inP h.2, Bool.and_true]
    simp [kw]
  | _ + 1, .table _ a, h => by
    simp only [Rule.d, Fl.inP, inPs, Rule.inP h.2, Bool.and_true]
    simp [kw]
  | _ + 1, .wher a b c, h => by
    simp only [Rule.d, Fl.inP, inPs, Rule.inP h.1, Rule.inP h.2.1, Rule.inP h.2.2, Bool.and_true]
    simp [kw]
  | _ + 1, .choo _ a b, h => by
    simp only [Rule.d, Fl.inP, inPs, Rule.inP h.2.1, Rule.inP h.2.2, Bool.and_true]
    simp [kw]
theorem Rule.sz_le {g : Sg} : ∀ {n : Nat} {r : Rule}, r.ok g n → sz r.d ≤ 2 * 3 ^ n - 1
  | 0, _, h => h.elim
  | n + 1, r, h => by
    have e : 3 ^ (n + 1) = 3 * 3 ^ n := by rw [Nat.pow_succ]; omega
    have e0 : 0 < 3 ^ n := Nat.pow_pos (by decide)
    cases r with
    | num _ => simp only [Rule.d, sz, szAll]; omega
    | paper _ => simp only [Rule.d, sz, szAll]; omega
    | line _ => simp only [Rule.d, sz, szAll]; omega
    | earl _ => simp only [Rule.d, sz, szAll]; omega
    | two w a b =>
      have h1 := Rule.sz_le h.2.1
      have h2 := Rule.sz_le h.2.2
      simp only [Rule.d, sz, szAll]; omega
    | part a p =>
      have h1 := Rule.sz_le h.2
      simp only [Rule.d, sz, szAll]; omega
    | table k a =>
      have h1 := Rule.sz_le h.2
      simp only [Rule.d, sz, szAll]; omega
    | wher a b c =>
      have h1 := Rule.sz_le h.1
      have h2 := Rule.sz_le h.2.1
      have h3 := Rule.sz_le h.2.2
      simp only [Rule.d, sz, szAll]; omega
    | choo k a b =>
      have h1 := Rule.sz_le h.2.1
      have h2 := Rule.sz_le h.2.2
      simp only [Rule.d, sz, szAll]; omega
end Fl

-- after: gw.tpl ru.tpl
namespace Fl
open PySem PySem.Spec PyProof.Rows L2 RZ
/-! ### what a rule is drawn from, in the heap -/
structure Gen (H : Hp) (s q z p : Addr) (g : Sg) : Prop where
  st : ∃ x, H s = some (.lst [.int x])
  sn : H q = some (.lst (g.seen.map V.int))
  qs : q ≠ s
  sz : H z = some (.tup [.int g.L, .int g.T, .int g.C])
  wd : H p = some (.lst (g.pool.map V.str))
  ps : p ≠ s
  l1 : 1 ≤ g.pool.length
  l2 : g.pool.length ≤ 1000
  l3 : g.seen.length ≤ 1000
  hL : 1 ≤ g.L
theorem Gen.gs {H H' : Hp} {s q z p : Addr} {g : Sg} (h : Gen H s q z p g) (e : Gs s H H') : Gen H' s q z p g where
  st := e.st
  sn := e.keep _ _ h.qs h.sn
  qs := h.qs
  sz := e.keep _ _ (fun w => by
    obtain ⟨x, hx⟩ := h.st
    have h2 := h.sz
    rw [w, hx] at h2
    cases h2) h.sz
  wd := e.keep _ _ h.ps h.wd
  ps := h.ps
  l1 := h.l1
  l2 := h.l2
  l3 := h.l3
  hL := h.hL
section
variable {P : Program} {w : World} {K : PySem.W.Frag} {mg : Str → Option Value} {base : Heap}
abbrev s__law_plain : Stmt := topS 21
theorem sc__law_plain : FnScope ["_law_state", "_law_seen", "_law_sizes", "_law_words_here", "_law_kind"] ["_law_state", "_law_seen", "_law_sizes", "_law_words_here"] (defScope s__law_plain) := ⟨rfl, rfl, rfl, by decide +kernel, rfl, by decide +kernel, by decide +kernel⟩
def sp_plain : Sp4 := fun a b c e H Q _ => ∃ s q z p g, a = .ref s ∧ b = .ref q ∧ c = .ref z ∧ e = .ref p ∧ Gen H s q z p g ∧ DrwQ s H (fun (r : Rule) v H' => r.ok g 1 ∧ At H' r.d v) fun _ v H' => Q v H'
theorem ok_plain (M : Mg mg) (G__law_next : Has P w K mg base "_law_next" ["_law_state", "_law_size"] 1 (sp2 sp_next)) (G__law_number : Has P w K mg base "_law_number" ["_law_state"] 2 (sp1 sp_number))
    (D : DefAt K mg "_law_plain" s__law_plain ["_law_state", "_law_seen", "_law_sizes", "_law_words_here"]) : Has P w K mg base "_law_plain" ["_law_state", "_law_seen", "_law_sizes", "_law_words_here"] 3 (sp4 sp_plain) := by
  refine .mk4 D sc__law_plain fun f cdv A outer s0 H a b c e Q E hr h => ⟨_, (pss_cons (ps_set (i := 4) sc__law_plain.nd rfl (by first | exact Or.inl rfl | exact Or.inr rfl) (pe_own G__law_next (hr.mono (by first | decide | omega)) (by rfl) p_body (pa_cons (pv 0) (pa_cons pe_int pa_nil))))
    (pss_cons (ps_if (pt_cmpR (k_eq K rfl hr) (pv 4) pe_int (nomark _)) (pss_one (ps_ret (pe_tup (pa_cons pe_str (pa_cons (pe_own G__law_number (hr.mono (by first | decide | omega)) (by rfl) p_body (pa_cons (pv 0) pa_nil)) pa_nil))))) pss_nil)
    (pss_cons (ps_if (PW.pt (pw_and (pt_cmpR o_lt (pv 4) pe_int (nomark _)) (pw_and1 (pt_cmpR o_gt (pe_callB (k_len K rfl) (by rfl) M.len (by decide +kernel) (pa_cons (pv 1) pa_nil)) pe_int (nomark _))))) (pss_one (ps_ret (pe_tup (pa_cons pe_str (pa_cons (pe_ix (k_ix K rfl) (pv 1) (pe_own G__law_next (hr.mono (by first | decide | omega)) (by rfl) p_body (pa_cons (pv 0) (pa_cons (pe_callB (k_len K rfl) (by rfl) M.len (by decide +kernel) (pa_cons (pv 1) pa_nil)) pa_nil))) (fun _ _ => rfl)) pa_nil))))) pss_nil)
    (pss_cons (ps_if (pt_cmpR (k_eq K rfl hr) (pv 4) pe_int (nomark _)) (pss_one (ps_ret (pe_tup (pa_cons pe_str (pa_cons (pe_own G__law_next (hr.mono (by first | decide | omega)) (by rfl) p_body (pa_cons (pv 0) (pa_cons (pe_ix (k_ix K rfl) (pv 2) pe_int (fun _ _ => rfl)) pa_nil))) pa_nil))))) pss_nil)
    (pss_one (ps_ret (pe_tup (pa_cons pe_str (pa_cons (pe_ix (k_ix K rfl) (pv 3) (pe_own G__law_next (hr.mono (by first | decide | omega)) (by rfl) p_body (pa_cons (pv 0) (pa_cons (pe_callB (k_len K rfl) (by rfl) M.len (by decide +kernel) (pa_cons (pv 3) pa_nil)) pa_nil))) (fun _ _ => rfl)) pa_nil))))))))), ?_⟩
  obtain ⟨s, q, z, p, g, rfl, rfl, rfl, rfl, hg, k⟩ := h
  obtain ⟨x, hs⟩ := hg.st
  have hq := hg.sn
  have hqs := hg.qs
  have hz := hg.sz
  have hp := hg.wd
  have hps := hg.ps
  have hzs : z ≠ s := fun w => by rw [w, hs] at hz; cases hz
  have l1 := hg.l1
  have hL := hg.hL
  refine Fl.go_start (σ0 := [some _, some _, some _, some _, none]) rfl ?_
  walk_at "s"
  rename_i y r h0 h1
  refine if_d (fun c => ?_) (fun c => ?_)
  · walk_at "s"
    rename_i n H2 n0 n1 gs2 _ _ t ht
    exact k (.num n) _ _ (by walk_at "gs") ⟨⟨n0, n1⟩, at2 upd_same rfl rfl⟩
  have l1' : 0 < ((g.pool.map V.str).length : Int) := by simp; omega
  have hL' : 0 < g.L := by omega
  walk_at "s"
  refine if_d (fun c1 => ?wa) (fun c1 => ?wb)
  case' wa =>
    walk_at "s"
    refine if_d (fun c2 => ?wa1) (fun c2 => ?wa2)
  case wa1 =>
    walk_at "s"
    rename_i y2 r2 g0 g1
    refine ex_pick (fun v => ∃ i ∈ g.seen, v = .int i) g0 g1 (fun v hv => by
      obtain ⟨i, hi, e⟩ := List.mem_map.mp hv
      exact ⟨i, hi, e.symm⟩) ?_
    rintro _ ⟨i, hi, rfl⟩
    walk_at "s"
    exact k (.line i) _ _ (by walk_at "gs") ⟨hi, at2 upd_same rfl rfl⟩
  all_goals
    walk_at "s"
    refine if_d (fun c3 => ?_) (fun c3 => ?_)
    · walk_at "s"
      rename_i y2 r2 g0 g1 t ht
      exact k (.earl r2) _ _ (by walk_at "gs") ⟨⟨g0, g1⟩, at2 upd_same rfl rfl⟩
    walk_at "s"
    rename_i y2 r2 g0 g1
    refine ex_pick (fun v => ∃ i ∈ g.pool, v = .str i) g0 g1 (fun v hv => by
      obtain ⟨i, hi, e⟩ := List.mem_map.mp hv
      exact ⟨i, hi, e.symm⟩) ?_
    rintro _ ⟨i, hi, rfl⟩
    walk_at "s"
    exact k (.paper i) _ _ (by walk_at "gs") ⟨hi, at2 upd_same rfl rfl⟩
end
end Fl

-- after: g2.tpl
namespace Fl
open PySem PySem.Spec PyProof.Rows L2 RZ
section
variable {P : Program} {w : World} {K : PySem.W.Frag} {mg : Str → Option Value} {base : Heap}
instance {H : Hp} {Q : VK} {E : XK} {s q z p : Addr} : Step (sp_plain (.ref s) (.ref q) (.ref z) (.ref p) H Q E) (∃ g, Gen H s q z p g ∧ DrwQ s H (fun (r : Rule) v H' => r.ok g 1 ∧ At H' r.d v) fun _ v H' => Q v H') := ⟨fun ⟨g, h, k⟩ => ⟨s, q, z, p, g, rfl, rfl, rfl, rfl, h, k⟩⟩
theorem ops_pick {r : Int} (h0 : 2 ≤ r) (h1 : r < 6) : ∃ w, op4 w ∧ atI [V.str "add", V.str "take", V.str "least", V.str "most"] (r - 2) = some (.str w) := by
  rcases four (r := r - 2) (by omega) (by omega) with e | e | e | e <;> rw [e]
  · exact ⟨_, .inl rfl, rfl⟩
  · exact ⟨_, .inr (.inl rfl), rfl⟩
  · exact ⟨_, .inr (.inr (.inl rfl)), rfl⟩
  · exact ⟨_, .inr (.inr (.inr rfl)), rfl⟩
abbrev s__law_rule : Stmt := topS 22
theorem sc__law_rule : FnScope ["_law_state", "_law_deep", "_law_seen", "_law_sizes", "_law_words_here", "_law_kind", "_law_one", "_law_other"] ["_law_state", "_law_deep", "_law_seen", "_law_sizes", "_law_words_here"] (defScope s__law_rule) := ⟨rfl, rfl, rfl, by decide +kernel, rfl, by decide +kernel, by decide +kernel⟩
def sp_rule (n : Nat) : Sp5 := fun a b c e i H Q _ => ∃ s q z p g deep, a = .ref s ∧ b = .int deep ∧ c = .ref q ∧ e = .ref z ∧ i = .ref p ∧ Gen H s q z p g ∧ (1 ≤ deep ∧ deep ≤ n) ∧ DrwQ s H (fun (r : Rule) v H' => r.ok g deep.toNat ∧ At H' r.d v) fun _ v H' => Q v H'
instance {H : Hp} {Q : VK} {E : XK} {s q z p : Addr} {deep : Int} {n : Nat} : Step (sp_rule n (.ref s) (.int deep) (.ref q) (.ref z) (.ref p) H Q E) (∃ g, Gen H s q z p g ∧ (1 ≤ deep ∧ deep ≤ n) ∧ DrwQ s H (fun (r : Rule) v H' => r.ok g deep.toNat ∧ At H' r.d v) fun _ v H' => Q v H') := ⟨fun ⟨g, h, k, l⟩ => ⟨s, q, z, p, g, deep, rfl, rfl, rfl, rfl, rfl, h, k, l⟩⟩
theorem ok_rule_step {n : Nat} (M : Mg mg) (G__law_next : Has P w K mg base "_law_next" ["_law_state", "_law_size"] 1 (sp2 sp_next)) (G__law_plain : Has P w K mg base "_law_plain" ["_law_state", "_law_seen", "_law_sizes", "_law_words_here"] 3 (sp4 sp_plain))
    (G__law_rule : Has P w K mg base "_law_rule" ["_law_state", "_law_deep", "_law_seen", "_law_sizes", "_law_words_here"] (n + 3) (sp5 (sp_rule n))) (D : DefAt K mg "_law_rule" s__law_rule ["_law_state", "_law_deep", "_law_seen", "_law_sizes", "_law_words_here"]) : Has P w K mg base "_law_rule" ["_law_state", "_law_deep", "_law_seen", "_law_sizes", "_law_words_here"] (n + 3 + 1) (sp5 (sp_rule (n + 1))) := by
  refine .mk5 D sc__law_rule fun f cdv A outer s0 H a b c e i Q E hr h => ⟨_, (pss_cons (ps_set (i := 5) sc__law_rule.nd rfl (by first | exact Or.inl rfl | exact Or.inr rfl) (pe_own G__law_next (hr.mono (by first | decide | omega)) (by rfl) p_body (pa_cons (pv 0) (pa_cons pe_int pa_nil))))
    (pss_cons (ps_if (PW.pt (pw_or (pt_cmpR o_lt (pv 1) pe_int (nomark _)) (pw_or1 (pt_cmpR o_lt (pv 5) pe_int (nomark _))))) (pss_one (ps_ret (pe_own G__law_plain (hr.mono (by first | decide | omega)) (by rfl) p_body (pa_cons (pv 0) (pa_cons (pv 2) (pa_cons (pv 3) (pa_cons (pv 4) pa_nil))))))) pss_nil)
    (pss_cons (ps_set (i := 6) sc__law_rule.nd rfl (by first | exact Or.inl rfl | exact Or.inr rfl) (pe_own G__law_rule (hr.mono (by first | decide | omega)) (by rfl) p_body (pa_cons (pv 0) (pa_cons (pe_op o_sub (pv 1) pe_int) (pa_cons (pv 2) (pa_cons (pv 3) (pa_cons (pv 4) pa_nil)))))))
    (pss_cons (ps_if (pt_cmpR (k_eq K rfl hr) (pv 5) pe_int (nomark _)) (pss_one (ps_ret (pe_tup (pa_cons pe_str (pa_cons (pv 6) (pa_cons (pe_ix (k_ix K rfl) (pe_lst (pa_cons pe_int (pa_cons pe_int (pa_cons (pe_own G__law_next (hr.mono (by first | decide | omega)) (by rfl) p_body (pa_cons (pv 0) (pa_cons pe_int pa_nil))) pa_nil)))) (pe_own G__law_next (hr.mono (by first | decide | omega)) (by rfl) p_body (pa_cons (pv 0) (pa_cons pe_int pa_nil))) (fun _ _ => rfl)) pa_nil)))))) pss_nil)
    (pss_cons (ps_if (PW.pt (pw_and (pt_cmpR (k_eq K rfl hr) (pv 5) pe_int (nomark _)) (pw_and1 (pt_cmpR o_gt (pe_ix (k_ix K rfl) (pv 3) pe_int (fun _ _ => rfl)) pe_int (nomark _))))) (pss_one (ps_ret (pe_tup (pa_cons pe_str (pa_cons (pe_own G__law_next (hr.mono (by first | decide | omega)) (by rfl) p_body (pa_cons (pv 0) (pa_cons (pe_ix (k_ix K rfl) (pv 3) pe_int (fun _ _ => rfl)) pa_nil))) (pa_cons (pv 6) pa_nil)))))) pss_nil)
    (pss_cons (ps_if (pt_cmpR (k_eq K rfl hr) (pv 5) pe_int (nomark _)) (pss_one (ps_ret (pv 6))) pss_nil)
    (pss_cons (ps_set (i := 7) sc__law_rule.nd rfl (by first | exact Or.inl rfl | exact Or.inr rfl) (pe_own G__law_rule (hr.mono (by first | decide | omega)) (by rfl) p_body (pa_cons (pv 0) (pa_cons (pe_callB (c_min2 rfl) (by rfl) M.min (by decide +kernel) (pa_cons (pe_op o_sub (pv 1) pe_int) (pa_cons pe_int pa_nil))) (pa_cons (pv 2) (pa_cons (pv 3) (pa_cons (pv 4) pa_nil)))))))
    (pss_meet (ps_if (pt_cmpR (k_eq K rfl hr) (pe_own G__law_next (hr.mono (by first | decide | omega)) (by rfl) p_body (pa_cons (pv 0) (pa_cons pe_int pa_nil))) pe_int (nomark _)) (pss_one (ps_par (i := 6) (j := 7) (by rfl) sc__law_rule.nd rfl rfl (by decide) rfl rfl (pa_cons (pv 7) (pa_cons (pv 6) pa_nil)) (by rfl))) pss_nil)
    (pss_cons (ps_if (pt_cmpR o_lt (pv 5) pe_int (nomark _)) (pss_one (ps_ret (pe_tup (pa_cons (pe_ix (k_ix K rfl) (pe_lst (pa_cons pe_str (pa_cons pe_str (pa_cons pe_str (pa_cons pe_str pa_nil))))) (pe_op o_sub (pv 5) pe_int) (fun _ _ => rfl)) (pa_cons (pv 6) (pa_cons (pv 7) pa_nil)))))) pss_nil)
    (pss_cons (ps_if (pt_cmpR o_lt (pv 5) pe_int (nomark _)) (pss_one (ps_ret (pe_tup (pa_cons pe_str (pa_cons (pv 6) (pa_cons (pv 7) (pa_cons (pe_own G__law_rule (hr.mono (by first | decide | omega)) (by rfl) p_body (pa_cons (pv 0) (pa_cons (pe_callB (c_min2 rfl) (by rfl) M.min (by decide +kernel) (pa_cons (pe_op o_sub (pv 1) pe_int) (pa_cons pe_int pa_nil))) (pa_cons (pv 2) (pa_cons (pv 3) (pa_cons (pv 4) pa_nil)))))) pa_nil))))))) pss_nil)
    (pss_cons (ps_if (pt_cmpR o_gt (pe_ix (k_ix K rfl) (pv 3) pe_int (fun _ _ => rfl)) pe_int (nomark _)) (pss_one (ps_ret (pe_tup (pa_cons pe_str (pa_cons (pe_own G__law_next (hr.mono (by first | decide | omega)) (by rfl) p_body (pa_cons (pv 0) (pa_cons (pe_ix (k_ix K rfl) (pv 3) pe_int (fun _ _ => rfl)) pa_nil))) (pa_cons (pv 6) (pa_cons (pv 7) pa_nil))))))) pss_nil)
    (pss_one (ps_ret (pe_tup (pa_cons pe_str (pa_cons (pv 7) (pa_cons (pv 6) pa_nil))))))))))))))))), ?_⟩
  obtain ⟨s, q, z, p, g, deep, rfl, rfl, rfl, rfl, rfl, hg, ⟨hd1, hdn⟩, k⟩ := h
  obtain ⟨x, hs⟩ := hg.st
  have hz := hg.sz
  have hzs : z ≠ s := fun w => by rw [w, hs] at hz; cases hz
  obtain ⟨m, rfl⟩ : ∃ m : Nat, deep = m + 1 := ⟨(deep - 1).toNat, by omega⟩
  have em : ((m : Int) + 1).toNat = m + 1 := by omega
  rw [em] at k
  refine Fl.go_start (σ0 := [some _, some _, some _, some _, some _, none, none, none]) rfl ?_
  walk_at "s"
  rename_i y r h0 h1
  refine if_d (fun c => ?wa) (fun c => ?wb)
  case' wb =>
    walk_at "s"
    refine if_d (fun c0 => ?wb1) (fun c0 => ?wb2)
  case wb2 =>
    have hm : 1 ≤ m := by omega
    have e1 : ((m : Int) + 1 - 1).toNat = m := by omega
    walk_at "s"
    refine ⟨g, hg.gs (by walk_at "gs"), ⟨by omega, by omega⟩, fun r1 v1 H1 gs1 ⟨o1, a1⟩ => ?_⟩
    rw [e1] at o1
    have gsA : Gs s H H1 := by walk_at "gs"
    clear gs1
    obtain ⟨x1, hx1⟩ := gsA.st
    have hg1 := hg.gs gsA
    have hz1 := hg1.sz
    walk_at "s"
    refine if_d (fun c1 => ?_) (fun c1 => ?_)
    · walk_at "s"
      rename_i ya ra ra0 ra1 pl hpl yb rb rb0 rb1
      refine ex_pick (fun v => ∃ i : Int, v = .int i ∧ 0 ≤ i ∧ i ≤ 100) rb0 rb1 (fun v hv => by
        simp only [List.mem_cons, List.not_mem_nil, or_false] at hv
        rcases hv with rfl | rfl | rfl
        · exact ⟨_, rfl, by decide, by decide⟩
        · exact ⟨_, rfl, by decide, by decide⟩
        · exact ⟨_, rfl, by omega, by omega⟩) ?_
      rintro _ ⟨i, rfl, i0, i1⟩
      walk_at "s"
      exact k (.part r1 i) _ _ (by walk_at "gs") ⟨⟨⟨i0, i1⟩, o1⟩, at3 upd_same rfl (by walk_at "at") rfl⟩
    walk_at "s"
    refine if_d (fun c2 => ?_) (fun c2 => ?_)
    · walk_at "s"
      refine if_d (fun c3 => ?_) (fun c3 => ?_)
      · walk_at "s"
        rename_i ya ra ra0 ra1 t ht
        exact k (.table ra r1) _ _ (by walk_at "gs") ⟨⟨⟨ra0, ra1⟩, o1⟩, at3 upd_same rfl rfl (by walk_at "at")⟩
      walk_at "s"
      walk_at "yes"
      walk_at "s"
      exact k r1 v1 H1 gsA ⟨Rule.ok_succ o1, a1⟩
    walk_at "s"
    walk_at "no"
    walk_at "s"
    refine ⟨g, hg1, ⟨by split <;> omega, by split <;> omega⟩, fun r2 v2 H2 gs2 ⟨o2, a2⟩ => ?_⟩
    have o2 : r2.ok g m := Rule.ok_mono (by split <;> omega) o2
    have a1' : At H2 r1.d v1 := by walk_at "at"
    have gsB : Gs s H H2 := by walk_at "gs"
    clear gs2
    obtain ⟨x2, hx2⟩ := gsB.st
    have hg2 := hg.gs gsB
    have hz2 := hg2.sz
    walk_at "s"
    refine meet (fun σ' H' => Gs s H H' ∧ ∃ (ra : Rule) (va : V) (rb : Rule) (vb : V), σ' = [some (.ref s), some (.int (m + 1)), some (.ref q), some (.ref z), some (.ref p), some (.int r), some va, some vb] ∧ ra.ok g m ∧ rb.ok g m ∧ At H' ra.d va ∧ At H' rb.d vb) ?_ ?_
    · walk_at "s"
      refine if_d (fun c3 => ?_) (fun c3 => ?_)
      · walk_at "s"
        exact ⟨by walk_at "gs", r2, v2, r1, v1, rfl, o2, o1, by walk_at "at", by walk_at "at"⟩
      · walk_at "s"
        exact ⟨by walk_at "gs", r1, v1, r2, v2, rfl, o1, o2, by walk_at "at", by walk_at "at"⟩
    clear a1 a2 a1' o1 o2
    rintro σ' H3 ⟨gsC, ra, va, rb, vb, rfl, oa, ob, aa, ab⟩
    obtain ⟨x3, hx3⟩ := gsC.st
    have hg3 := hg.gs gsC
    have hz3 := hg3.sz
    walk_at "s"
    refine if_d (fun c3 => ?_) (fun c3 => ?_)
    · walk_at "s"
      obtain ⟨w, hw, ew⟩ := ops_pick (r := r) (by omega) c3
      refine ex_v ew ?_
      walk_at "s"
      exact k (.two w ra rb) _ _ (by walk_at "gs") ⟨⟨hw, oa, ob⟩, at3 upd_same rfl (by walk_at "at") (by walk_at "at")⟩
    walk_at "s"
    refine if_d (fun c4 => ?_) (fun c4 => ?_)
    · walk_at "s"
      refine ⟨g, hg3, ⟨by split <;> omega, by split <;> omega⟩, fun r4 v4 H4 gs4 ⟨o4, a4⟩ => ?_⟩
      have o4 : r4.ok g m := Rule.ok_mono (by split <;> omega) o4
      obtain ⟨x4, hx4⟩ := gs4.st
      walk_at "s"
      exact k (.wher ra rb r4) _ _ (by walk_at "gs") ⟨⟨oa, ob, o4⟩, at4 upd_same rfl (by walk_at "at") (by walk_at "at") (by walk_at "at")⟩
    walk_at "s"
    refine if_d (fun c5 => ?_) (fun c5 => ?_)
    · walk_at "s"
      rename_i yd rd rd0 rd1 t ht
      exact k (.choo rd ra rb) _ _ (by walk_at "gs") ⟨⟨⟨rd0, rd1⟩, oa, ob⟩, at4 upd_same rfl rfl (by walk_at "at") (by walk_at "at")⟩
    walk_at "s"
    exact k (.two "take" rb ra) _ _ (by walk_at "gs") ⟨⟨.inr (.inl rfl), ob, oa⟩, at3 upd_same rfl (by walk_at "at") (by walk_at "at")⟩
  all_goals
    walk_at "s"
    refine ⟨g, hg.gs (by walk_at "gs"), fun r1 v1 H1 gs1 ⟨o1, a1⟩ => ?_⟩
    walk_at "s"
    exact k r1 v1 H1 (by walk_at "gs") ⟨Rule.ok_mono (by omega) o1, a1⟩
theorem ok_rule (M : Mg mg) (G__law_next : Has P w K mg base "_law_next" ["_law_state", "_law_size"] 1 (sp2 sp_next)) (G__law_plain : Has P w K mg base "_law_plain" ["_law_state", "_law_seen", "_law_sizes", "_law_words_here"] 3 (sp4 sp_plain)) (D : DefAt K mg "_law_rule" s__law_rule ["_law_state", "_law_deep", "_law_seen", "_law_sizes", "_law_words_here"]) :
    ∀ n : Nat, Has P w K mg base "_law_rule" ["_law_state", "_law_deep", "_law_seen", "_law_sizes", "_law_words_here"] (n + 3) (sp5 (sp_rule n))
  | 0 => Has.none_left D fun vs H Q E h => by
    obtain ⟨_, _, _, _, _, _, _, _, _, _, _, deep, _, _, _, _, _, _, ⟨h1, h2⟩, _⟩ := h
    omega
  | n + 1 => ok_rule_step M G__law_next G__law_plain (ok_rule M G__law_next G__law_plain D n) D
end
end Fl

-- after: ru.tpl
namespace Fl
open PySem PySem.Spec PyProof.Rows L2 RZ
structure Sg.Fine (g : Sg) : Prop where
  pool : ∀ w ∈ g.pool, isWord (.str w) = true
  seen : ∀ k ∈ g.seen, 0 ≤ k ∧ k < g.L
theorem isWhole_of {i lo hi : Int} (h1 : lo ≤ i) (h2 : i ≤ hi) : isWhole (.int i) lo hi = true := by
  simp [isWhole, h1, h2]
theorem isR_eq {L T C : Int} {n : Nat} {w : Str} {ds : List PyData} : isR L T C (n + 1) (.tuple (.str w :: ds)) = (decide (1 ≤ ds.length) && match placesOf T C w ds with | none => isPlain L w ds | some ps => (kids ds ps).all (isR L T C n)) := rfl
theorem Rule.isR {g : Sg} (f : g.Fine) : ∀ {n : Nat} {r : Rule}, r.ok g n → Fl.isR g.L g.T g.C n r.d = true
  | 0, _, h => h.elim
  | n + 1, .num k, h => by
    have h := (show -1000000000 ≤ k ∧ k ≤ 1000000000 from h)
    rw [Rule.d, isR_eq, places_none (by decide +kernel) (by decide +kernel) (by decide +kernel) (by decide +kernel) (by decide +kernel)]
    simp [isPlain, isNumber, isWhole, h]
  | n + 1, .paper w, h => by
    rw [Rule.d, isR_eq, places_none (by decide +kernel) (by decide +kernel) (by decide +kernel) (by decide +kernel) (by decide +kernel)]
    show (true && isPlain g.L "paper" [.str w]) = true
    unfold isPlain
    rw [if_neg (by decide +kernel), if_pos rfl]
    simpa using f.pool w h
  | n + 1, .line k, h => by
    have h := f.seen k h
    rw [Rule.d, isR_eq, places_none (by decide +kernel) (by decide +kernel) (by decide +kernel) (by decide +kernel) (by decide +kernel)]
    show (true && isPlain g.L "line" [.int k]) = true
    unfold isPlain
    rw [if_neg (by decide +kernel), if_neg (by decide +kernel)]
    simp [isWhole, h.1]
    omega
  | n + 1, .earl k, h => by
    have h := (show 0 ≤ k ∧ k < g.L from h)
    rw [Rule.d, isR_eq, places_none (by decide +kernel) (by decide +kernel) (by decide +kernel) (by decide +kernel) (by decide +kernel)]
    show (true && isPlain g.L "earlier" [.int k]) = true
    unfold isPlain
    rw [if_neg (by decide +kernel), if_neg (by decide +kernel)]
    simp [isWhole, h.1]
    omega
  | n + 1, .two w a b, h => by
    rw [Rule.d, isR_eq, places_four h.1]
    simp [kids, Rule.isR f h.2.1, Rule.isR f h.2.2]
  | n + 1, .part a p, h => by
    rw [Rule.d, isR_eq, places_part]
    simp [kids, Rule.isR f h.2, isWhole, h.1.1, h.1.2]
  | n + 1, .table k a, h => by
    rw [Rule.d, isR_eq, places_table]
    have e : isWhole (.int k) 0 (g.T - 1) = true := isWhole_of h.1.1 (by have := h.1.2; omega)
    simp [kids, Rule.isR f h.2, e]
  | n + 1, .wher a b c, h => by
    rw [Rule.d, isR_eq, places_where]
    simp [kids, Rule.isR f h.1, Rule.isR f h.2.1, Rule.isR f h.2.2]
  | n + 1, .choo k a b, h => by
    rw [Rule.d, isR_eq, places_choose]
    have e : isWhole (.int k) 0 (g.C - 1) = true := isWhole_of h.1.1 (by have := h.1.2; omega)
    simp [kids, Rule.isR f h.2.1, Rule.isR f h.2.2, e]
/-- what stands behind one of the five words -/
def Rule.names (x : Str) : Rule → List V
  | .num _ => []
  | .paper w => if x = "paper" then [.str w] else []
  | .line k => if x = "line" then [.int k] else []
  | .earl k => if x = "earlier" then [.int k] else []
  | .two _ a b => a.names x ++ b.names x
  | .part a _ => a.names x
  | .table k a => (if x = "table" then [.int k] else []) ++ a.names x
  | .wher a b c => a.names x ++ (b.names x ++ c.names x)
  | .choo k a b => (if x = "choose" then [.int k] else []) ++ (a.names x ++ b.names x)
theorem five_not {b : Bool} {x w : Str} (f : fiveW b x) (h : w = "number" ∨ op4 w ∨ w = "part" ∨ w = "where") : ¬ w = x := by
  rintro rfl
  rcases f with ⟨_, rfl⟩ | ⟨_, rfl | rfl | rfl | rfl⟩ <;> (unfold op4 at h; revert h; decide +kernel)
theorem flat1 {x : Str} {n : Nat} {a : PyData} {ds : List PyData} (h : isTupD a = true) : ((a :: ds).filter isTupD).flatMap (vals x n) = vals x n a ++ (ds.filter isTupD).flatMap (vals x n) := by
  rw [List.filter_cons, h]
  rfl
theorem flat0 {x : Str} {n : Nat} {k : Int} {ds : List PyData} : ((.int k :: ds).filter isTupD).flatMap (vals x n) = (ds.filter isTupD).flatMap (vals x n) := rfl
theorem flatS {x w : Str} {n : Nat} {ds : List PyData} : ((.str w :: ds).filter isTupD).flatMap (vals x n) = (ds.filter isTupD).flatMap (vals x n) := rfl
theorem flatN {x : Str} {n : Nat} : (([] : List PyData).filter isTupD).flatMap (vals x n) = [] := rfl
theorem Rule.vals {g : Sg} {b : Bool} {x : Str} (f : fiveW b x) : ∀ {n : Nat} {r : Rule}, r.ok g n → Fl.vals x n r.d = r.names x
  | 0, _, h => h.elim
  | n + 1, .num k, h => by
    simp only [Rule.d, Fl.vals, Rule.names, flat0, flatN, if_neg (five_not f (.inl rfl))]
    rfl
  | n + 1, .paper w, h => by
    simp only [Rule.d, Fl.vals, Rule.names, flatS, flatN, List.append_nil, List.getD_cons_zero, vOf, eq_comm]
  | n + 1, .line k, h => by
    simp only [Rule.d, Fl.vals, Rule.names, flat0, flatN, List.append_nil, List.getD_cons_zero, vOf, eq_comm]
  | n + 1, .earl k, h => by
    simp only [Rule.d, Fl.vals, Rule.names, flat0, flatN, List.append_nil, List.getD_cons_zero, vOf, eq_comm]
  | n + 1, .two w a b, h => by
    simp only [Rule.d, Fl.vals, Rule.names, flat1 (Rule.tup _), flatN, if_neg (five_not f (.inr (.inl h.1))), List.append_nil, List.nil_append]
    rw [Rule.vals f h.2.1, Rule.vals f h.2.2]
  | n + 1, .part a p, h => by
    simp only [Rule.d, Fl.vals, Rule.names, flat1 (Rule.tup _), flat0, flatN, if_neg (five_not f (.inr (.inr (.inl rfl)))), List.append_nil, List.nil_append]
    rw [Rule.vals f h.2]
  | n + 1, .table k a, h => by
    simp only [Rule.d, Fl.vals, Rule.names, flat1 (Rule.tup _), flat0, flatN, List.append_nil, List.getD_cons_zero, vOf]
    rw [Rule.vals f h.2]
    simp only [eq_comm]
  | n + 1, .wher a b c, h => by
    simp only [Rule.d, Fl.vals, Rule.names, flat1 (Rule.tup _), flatN, if_neg (five_not f (.inr (.inr (.inr rfl)))), List.append_nil, List.nil_append]
    rw [Rule.vals f h.1, Rule.vals f h.2.1, Rule.vals f h.2.2]
  | n + 1, .choo k a b, h => by
    simp only [Rule.d, Fl.vals, Rule.names, flat1 (Rule.tup _), flat0, flatN, List.append_nil, List.getD_cons_zero, vOf]
    rw [Rule.vals f h.2.1, Rule.vals f h.2.2]
    simp only [eq_comm]
theorem Rule.names_line : ∀ r : Rule, r.names "line" = r.lines.map V.int := by
  intro r
  have e1 : ¬ ("line" : Str) = "paper" := by decide +kernel
  have e2 : ¬ ("line" : Str) = "earlier" := by decide +kernel
  have e3 : ¬ ("line" : Str) = "table" := by decide +kernel
  have e4 : ¬ ("line" : Str) = "choose" := by decide +kernel
  induction r <;> simp_all [Rule.names, Rule.lines]
end Fl

-- after: g3.tpl ru2.tpl
namespace Fl
open PySem PySem.Spec PyProof.Rows L2 RZ
/-! ### a thing put otherwise -/
def oddT : List Str := ["", "abcdefghi", "Ab", "adds", "a", "0", "ab_", "a b", "{", "a{", "`", "az\n", "-", "7"]
def pool2 (g : Sg) : List Str := (kw ++ g.pool) ++ oddT
mutual
theorem inP_mono {p q : List Str} (h : ∀ s ∈ p, s ∈ q) : ∀ d : PyData, inP p d = true → inP q d = true
  | .none, _ | .bool _, _ | .int _, _ => rfl
  | .str x, e => by
    simp only [inP] at e ⊢
    exact decide_eq_true (h _ (of_decide_eq_true e))
  | .list ds, e | .tuple ds, e => by
    simp only [inP] at e ⊢
    exact inPs_mono h ds e
  | .dict _, e => by simp [inP] at e
theorem inPs_mono {p q : List Str} (h : ∀ s ∈ p, s ∈ q) : ∀ ds : List PyData, inPs p ds = true → inPs q ds = true
  | [], _ => rfl
  | d :: ds, e => by
    simp only [inPs, Bool.and_eq_true] at e ⊢
    exact ⟨inP_mono h d e.1, inPs_mono h ds e.2⟩
end
theorem inPs_of {p : List Str} {ds : List PyData} (h : ∀ d ∈ ds, inP p d = true) : inPs p ds = true := by
  induction ds with
  | nil => rfl
  | cons d r ih =>
    simp only [inPs, Bool.and_eq_true]
    exact ⟨h d (List.mem_cons_self ..), ih fun x hx => h x (List.mem_cons_of_mem _ hx)⟩
theorem Rule.shape (r : Rule) : ∃ w ds, r.d = .tuple (.str w :: ds) := by cases r <;> exact ⟨_, _, rfl⟩
theorem sz_take {ds : List PyData} {n : Nat} : szAll (ds.take n) ≤ szAll ds := by
  have := szAll_append (a := ds.take n) (b := ds.drop n)
  rw [List.take_append_drop] at this
  omega
/-- what may be put in -/
def OddD (g : Sg) (d : PyData) : Prop := inP (pool2 g) d = true ∧ sz d ≤ 27000
theorem pkE {g : Sg} {w : Str} (h : w ∈ kw ++ oddT) : inP (pool2 g) (.str w) = true := by
  have h' : w ∈ pool2 g := by
    unfold pool2
    simp only [List.mem_append] at h ⊢
    exact h.elim (fun z => .inl (.inl z)) .inr
  simp only [inP, decide_eq_true h']
theorem inP_tup {p : List Str} {ds : List PyData} (h : inPs p ds = true) : inP p (.tuple ds) = true := by simpa only [inP] using h
theorem inP_lst {p : List Str} {ds : List PyData} (h : inPs p ds = true) : inP p (.list ds) = true := by simpa only [inP] using h
theorem inP_int {p : List Str} {i : Int} : inP p (.int i) = true := rfl
theorem inP_bool {p : List Str} {i : Bool} : inP p (.bool i) = true := rfl
theorem inP_none {p : List Str} : inP p .none = true := rfl
theorem inPs_nil {p : List Str} : inPs p [] = true := rfl
theorem inPs_cons {p : List Str} {d : PyData} {ds : List PyData} (h : inP p d = true) (t : inPs p ds = true) : inPs p (d :: ds) = true := by
  simp only [inPs, Bool.and_eq_true]
  exact ⟨h, t⟩
theorem oddD_mk {g : Sg} {d : PyData} (h : inP (pool2 g) d = true) (k : sz d ≤ 27000) : OddD g d := ⟨h, k⟩
theorem all_nil {α : Type} {p : α → Prop} : ∀ d ∈ ([] : List α), p d := fun _ h => by cases h
theorem all_cons {α : Type} {p : α → Prop} {x : α} {xs : List α} (h : p x) (t : ∀ d ∈ xs, p d) : ∀ d ∈ x :: xs, p d := fun d hd => by
  rcases List.mem_cons.mp hd with e | e
  · rw [e]; exact h
  · exact t d e
theorem all_app {α : Type} {p : α → Prop} {xs ys : List α} (h : ∀ d ∈ xs, p d) (t : ∀ d ∈ ys, p d) : ∀ d ∈ xs ++ ys, p d := fun d hd =>
  (List.mem_append.mp hd).elim (h d) (t d)
local macro_rules | `(tactic| walk_at "ip") => `(tactic| first
  | with_reducible assumption
  | exact Fl.pkE (by decide +kernel)
  | with_reducible exact Fl.inPs_nil
  | with_reducible exact Fl.inP_int
  | with_reducible exact Fl.inP_bool
  | with_reducible exact Fl.inP_none
  | ((with_reducible apply Fl.inP_tup); walk_at "ip")
  | ((with_reducible apply Fl.inP_lst); walk_at "ip")
  | ((with_reducible apply Fl.inPs_cons); · walk_at "ip"
     · walk_at "ip"))
local macro_rules | `(tactic| walk_at "odd1") => `(tactic| exact Fl.oddD_mk (by walk_at "ip") (by simp only [Fl.sz, Fl.szAll] at *; omega))
local macro_rules | `(tactic| walk_at "odd") => `(tactic| first
  | with_reducible exact Fl.all_nil
  | exact Fl.all_cons (by walk_at "odd1") (by walk_at "odd"))
section
variable {P : Program} {w : World} {K : PySem.W.Frag} {mg : Str → Option Value} {base : Heap}
abbrev s__law_odd : Stmt := topS 25
theorem sc__law_odd : FnScope ["_law_state", "_law_rule_here", "_law_sizes", "_law_far", "_law_some"] ["_law_state", "_law_rule_here", "_law_sizes"] (defScope s__law_odd) := ⟨rfl, rfl, rfl, by decide +kernel, rfl, by decide +kernel, by decide +kernel⟩
def sp_odd : Sp3 := fun a b c H Q _ => ∃ s q z p g, ∃ r : Rule, a = .ref s ∧ At H r.d b ∧ c = .ref z ∧ Gen H s q z p g ∧ r.ok g 8 ∧ DrwQ s H (fun (d : PyData) v H' => OddD g d ∧ At H' d v) fun _ v H' => Q v H'
theorem ok_odd (M : Mg mg) (G__law_next : Has P w K mg base "_law_next" ["_law_state", "_law_size"] 1 (sp2 sp_next)) (D : DefAt K mg "_law_odd" s__law_odd ["_law_state", "_law_rule_here", "_law_sizes"]) : Has P w K mg base "_law_odd" ["_law_state", "_law_rule_here", "_law_sizes"] 2 (sp3 sp_odd) := by
  refine .mk3 D sc__law_odd fun f cdv A outer s0 H a b c Q E hr h => ⟨_, (pss_meet (ps_set (i := 3) sc__law_odd.nd rfl (by first | exact Or.inl rfl | exact Or.inr rfl) (pe_own G__law_next (hr.mono (by first | decide | omega)) (by rfl) p_body (pa_cons (pv 0) (pa_cons (pe_op o_pow pe_int pe_int) pa_nil))))
    (pss_meet (ps_set (i := 4) sc__law_odd.nd rfl (by first | exact Or.inl rfl | exact Or.inr rfl) (pe_lst (pa_cons (pe_op (k_add K rfl) (pv 1) (pe_tup (pa_cons (pv 1) pa_nil))) (pa_cons (pe_slice (k_sl K rfl) (pv 1) po_none (po_some (pe_un o_neg pe_int))) (pa_cons (pe_callTy (k_list K rfl) (by rfl) M.list (by decide +kernel) (pa_cons (pv 1) pa_nil)) (pa_cons pe_non (pa_cons pe_str (pa_cons (pe_tup pa_nil) (pa_cons (pe_tup (pa_cons pe_str (pa_cons (pe_ix (k_ix K rfl) (pv 2) pe_int (fun _ _ => rfl)) pa_nil))) (pa_cons (pe_tup (pa_cons pe_str (pa_cons (pe_un o_neg pe_int) pa_nil))) pa_nil))))))))))
    (pss_meet (ps_set (i := 4) sc__law_odd.nd rfl (by first | exact Or.inl rfl | exact Or.inr rfl) (pe_op (k_add K rfl) (pv 4) (pe_lst (pa_cons (pe_tup (pa_cons pe_str (pa_cons pe_bl pa_nil))) (pa_cons (pe_tup (pa_cons pe_str (pa_cons (pe_ix (k_ix K rfl) (pv 2) pe_int (fun _ _ => rfl)) (pa_cons (pv 1) pa_nil)))) (pa_cons (pe_tup (pa_cons pe_str (pa_cons (pe_ix (k_ix K rfl) (pv 2) pe_int (fun _ _ => rfl)) (pa_cons (pv 1) (pa_cons (pv 1) pa_nil))))) (pa_cons (pe_tup (pa_cons pe_str (pa_cons (pv 1) (pa_cons pe_int pa_nil)))) pa_nil)))))))
    (pss_meet (ps_set (i := 4) sc__law_odd.nd rfl (by first | exact Or.inl rfl | exact Or.inr rfl) (pe_op (k_add K rfl) (pv 4) (pe_lst (pa_cons (pe_tup (pa_cons pe_str (pa_cons (pe_op (k_add K rfl) (pe_op (k_add K rfl) (pe_op o_pow pe_int pe_int) pe_int) (pv 3)) pa_nil))) (pa_cons (pe_tup (pa_cons pe_str (pa_cons pe_non pa_nil))) (pa_cons (pe_tup (pa_cons pe_str (pa_cons pe_str pa_nil))) (pa_cons (pe_tup (pa_cons pe_str (pa_cons pe_str pa_nil))) pa_nil)))))))
    (pss_meet (ps_set (i := 4) sc__law_odd.nd rfl (by first | exact Or.inl rfl | exact Or.inr rfl) (pe_op (k_add K rfl) (pv 4) (pe_lst (pa_cons (pe_tup (pa_cons pe_str (pa_cons (pv 1) (pa_cons (pe_un o_neg pe_int) pa_nil)))) (pa_cons (pe_tup (pa_cons pe_str (pa_cons pe_str pa_nil))) pa_nil)))))
    (pss_meet (ps_set (i := 4) sc__law_odd.nd rfl (by first | exact Or.inl rfl | exact Or.inr rfl) (pe_op (k_add K rfl) (pv 4) (pe_lst (pa_cons (pe_tup (pa_cons pe_str (pa_cons (pe_op (k_add K rfl) (pe_ix (k_ix K rfl) (pv 2) pe_int (fun _ _ => rfl)) (pv 3)) pa_nil))) (pa_cons (pe_tup (pa_cons pe_str (pa_cons (pv 1) (pa_cons (pv 1) pa_nil)))) (pa_cons (pe_tup (pa_cons pe_str (pa_cons (pv 1) (pa_cons (pv 1) pa_nil)))) (pa_cons pe_int (pa_cons pe_bl pa_nil))))))))
    (pss_meet (ps_set (i := 4) sc__law_odd.nd rfl (by first | exact Or.inl rfl | exact Or.inr rfl) (pe_op (k_add K rfl) (pv 4) (pe_lst (pa_cons (pe_tup (pa_cons pe_non (pa_cons (pv 1) (pa_cons (pv 1) pa_nil)))) (pa_cons (pe_tup (pa_cons pe_str (pa_cons (pv 1) (pa_cons (pe_lst (pa_cons (pv 1) pa_nil)) pa_nil)))) (pa_cons (pe_tup (pa_cons pe_str (pa_cons (pe_lst (pa_cons pe_str pa_nil)) pa_nil))) (pa_cons (pe_tup (pa_cons pe_str (pa_cons (pv 1) (pa_cons pe_int pa_nil)))) pa_nil)))))))
    (pss_meet (ps_set (i := 4) sc__law_odd.nd rfl (by first | exact Or.inl rfl | exact Or.inr rfl) (pe_op (k_add K rfl) (pv 4) (pe_lst (pa_cons (pe_tup (pa_cons pe_str (pa_cons (pe_op o_sub (pe_un o_neg (pe_op o_pow pe_int pe_int)) pe_int) pa_nil))) (pa_cons (pe_tup (pa_cons pe_str (pa_cons pe_str pa_nil))) (pa_cons (pe_tup (pa_cons pe_str (pa_cons pe_bl pa_nil))) (pa_cons (pe_tup (pa_cons pe_str (pa_cons pe_bl pa_nil))) (pa_cons (pe_tup (pa_cons pe_str (pa_cons (pv 1) (pa_cons pe_bl pa_nil)))) pa_nil))))))))
    (pss_meet (ps_set (i := 4) sc__law_odd.nd rfl (by first | exact Or.inl rfl | exact Or.inr rfl) (pe_op (k_add K rfl) (pv 4) (pe_lst (pa_cons (pe_tup (pa_cons pe_str (pa_cons pe_bl (pa_cons (pv 1) pa_nil)))) (pa_cons (pe_tup (pa_cons pe_str (pa_cons pe_bl (pa_cons (pv 1) (pa_cons (pv 1) pa_nil))))) (pa_cons (pe_tup (pa_cons pe_str (pa_cons pe_str pa_nil))) (pa_cons (pe_tup (pa_cons pe_str (pa_cons pe_str pa_nil))) pa_nil)))))))
    (pss_meet (ps_set (i := 4) sc__law_odd.nd rfl (by first | exact Or.inl rfl | exact Or.inr rfl) (pe_op (k_add K rfl) (pv 4) (pe_lst (pa_cons (pe_tup (pa_cons pe_str (pa_cons (pe_ix (k_ix K rfl) (pe_lst (pa_cons pe_str (pa_cons pe_str (pa_cons pe_str (pa_cons pe_str (pa_cons pe_str (pa_cons pe_str pa_nil))))))) (pe_op o_mod (pv 3) pe_int) (fun _ _ => rfl)) pa_nil))) pa_nil))))
    (pss_one (ps_ret (pe_ix (k_ix K rfl) (pv 4) (pe_own G__law_next (hr.mono (by first | decide | omega)) (by rfl) p_body (pa_cons (pv 0) (pa_cons (pe_callB (k_len K rfl) (by rfl) M.len (by decide +kernel) (pa_cons (pv 4) pa_nil)) pa_nil))) (fun _ _ => rfl)))))))))))))), ?_⟩
  obtain ⟨s, q, z, p, g, r, rfl, hb, rfl, hg, ho, k⟩ := h
  obtain ⟨x, hs⟩ := hg.st
  have hz := hg.sz
  have hzs : z ≠ s := fun w => by rw [w, hs] at hz; cases hz
  have hsz := Rule.sz_le ho
  have hin := inP_mono (q := pool2 g) (fun t ht => List.mem_append_left _ ht) _ (Rule.inP ho)
  obtain ⟨w0, ds, er⟩ := r.shape
  obtain ⟨t, vs, rfl, ht, u0, us, rfl, h0, hus⟩ := (show At H (.tuple (.str w0 :: ds)) b from er ▸ hb)
  cases (show _ = _ from h0)
  have hts : t ≠ s := fun w => by rw [w, hs] at ht; cases ht
  have lu := hus.length
  have hin' : inPs (pool2 g) (.str w0 :: ds) = true := by
    rw [er] at hin
    simpa only [inP] using hin
  rw [er] at hsz hb
  have hsz2 : 1 + szAll (.str w0 :: ds) ≤ 2 * 3 ^ 8 - 1 := by simpa only [sz] using hsz
  have hin2 : inP (pool2 g) (.tuple (.str w0 :: ds)) = true := inP_tup hin'
  refine Fl.go_start (σ0 := [some _, some _, some _, none, none]) rfl ?_
  refine meet (fun σ' H' => ∃ far : Int, σ' = [some (.ref s), some (.ref t), some (.ref z), some (.int far), none] ∧ 0 ≤ far ∧ Gs s H H') ?_ ?_
  · walk_at "s"
    exact ⟨_, rfl, by assumption, by walk_at "gs"⟩
  rintro σ' H1 ⟨far, rfl, hfar, gs1⟩
  obtain ⟨x1, hx1⟩ := gs1.st
  have ht1 : H1 t = some (.tup (.str w0 :: us)) := by walk_at "hp"
  have hz1 : H1 z = some (.tup [.int g.L, .int g.T, .int g.C]) := by walk_at "hp"
  have hr1 : At H1 (.tuple (.str w0 :: ds)) (.ref t) := by walk_at "at"
  have lds := szAll_len (a := ds)
  have lus : us.length ≤ 20000 := by simp only [szAll, sz] at hsz2; omega
  have hd0 : AtAll H (.str w0 :: ds) (.str w0 :: us) := .cons rfl hus
  refine meet (fun σ' H' => ∃ (sm : Addr) (vs : List V) (es : List PyData), σ' = [some (.ref s), some (.ref t), some (.ref z), some (.int far), some (.ref sm)] ∧ H' sm = some (.lst vs) ∧ AtAll H' es vs ∧ (∀ d ∈ es, OddD g d) ∧ vs.length = 8 ∧ Gs s H H') ?_ ?_
  · walk_at "s"
    rename_i p1 h1 a1 H2 sm2 e1 a2 H3 sm3 e2 p3 h3 p4 h4 p5 h5 p6 h6 p7 h7
    rw [cut_init] at e2
    refine ⟨_, _, [.tuple ((.str w0 :: ds) ++ [.tuple (.str w0 :: ds)]), .tuple ((.str w0 :: ds).take ((V.str w0 :: us).length - 1)), .list (.str w0 :: ds), .none, .str "line", .tuple [], .tuple [.str "line", .int g.L], .tuple [.str "line", .int (-1)]], rfl, upd_same, ?_, ?_, rfl, by walk_at "gs"⟩
    · refine .cons (at_tup (by walk_at "hp") (.append (hd0.le (by walk_at "le")) (.one (by walk_at "at")))) (.cons (at_tup (by walk_at "hp") (.take _ (hd0.le (by walk_at "le")))) (.cons (at_lst (by walk_at "hp") (fun x hx => by simp at hx) (hd0.le (by walk_at "le"))) ?_))
      walk_at "al"
    · refine all_cons ⟨inP_tup (inPs_of (all_app ?_ ?_)), ?_⟩ (all_cons ⟨inP_tup (inPs_of fun d hd => ?_), ?_⟩ (all_cons ⟨inP_lst hin', ?_⟩ ?_))
      · exact fun d hd => inPs_mem hin' hd
      · exact all_cons hin2 all_nil
      · simp only [sz, szAll_append, szAll]
        simp only [sz, szAll] at hsz2
        omega
      · exact inPs_mem hin' (List.mem_of_mem_take hd)
      · have := sz_take (ds := .str w0 :: ds) (n := (V.str w0 :: us).length - 1)
        simp only [sz]
        omega
      · simp only [sz]
        omega
      · walk_at "odd"
  clear gs1 hx1 ht1 hz1 hr1
  rintro σ' H1 ⟨sm, vs, es, rfl, hsm1, hes, oes, lvs, gs1⟩
  obtain ⟨x1, hx1⟩ := gs1.st
  have hms : sm ≠ s := fun w => by rw [w, hx1] at hsm1; cases hsm1; exact absurd lvs (by simp)
  have ht1 : H1 t = some (.tup (.str w0 :: us)) := by walk_at "hp"
  have hz1 : H1 z = some (.tup [.int g.L, .int g.T, .int g.C]) := by walk_at "hp"
  have hr1 : At H1 (.tuple (.str w0 :: ds)) (.ref t) := by walk_at "at"
  refine meet (fun σ' H' => ∃ (sm : Addr) (vs : List V) (es : List PyData), σ' = [some (.ref s), some (.ref t), some (.ref z), some (.int far), some (.ref sm)] ∧ H' sm = some (.lst vs) ∧ AtAll H' es vs ∧ (∀ d ∈ es, OddD g d) ∧ vs.length = 12 ∧ Gs s H H') ?_ ?_
  · walk_at "s"
    refine ⟨_, _, es ++ [.tuple [.str "earlier", .bool true], .tuple [.str "table", .int g.T, .tuple (.str w0 :: ds)], .tuple [.str "choose", .int g.C, .tuple (.str w0 :: ds), .tuple (.str w0 :: ds)], .tuple [.str "part", .tuple (.str w0 :: ds), .int 101]], rfl, upd_same, .append (by walk_at "al") (by walk_at "al"), all_app oes (by walk_at "odd"), by rw [List.length_append, lvs]; rfl, by walk_at "gs"⟩
  clear hsm1 hes oes lvs gs1 hms ht1 hz1 hr1 hx1
  rintro σ' H1 ⟨sm, vs, es, rfl, hsm1, hes, oes, lvs, gs1⟩
  obtain ⟨x1, hx1⟩ := gs1.st
  have hms : sm ≠ s := fun w => by rw [w, hx1] at hsm1; cases hsm1; exact absurd lvs (by simp)
  have ht1 : H1 t = some (.tup (.str w0 :: us)) := by walk_at "hp"
  have hz1 : H1 z = some (.tup [.int g.L, .int g.T, .int g.C]) := by walk_at "hp"
  have hr1 : At H1 (.tuple (.str w0 :: ds)) (.ref t) := by walk_at "at"
  refine meet (fun σ' H' => ∃ (sm : Addr) (vs : List V) (es : List PyData), σ' = [some (.ref s), some (.ref t), some (.ref z), some (.int far), some (.ref sm)] ∧ H' sm = some (.lst vs) ∧ AtAll H' es vs ∧ (∀ d ∈ es, OddD g d) ∧ vs.length = 16 ∧ Gs s H H') ?_ ?_
  · walk_at "s"
    refine ⟨_, _, es ++ [.tuple [.str "number", .int (10 ^ Int.toNat 9 + 1 + far)], .tuple [.str "number", .none], .tuple [.str "paper", .str ""], .tuple [.str "paper", .str "abcdefghi"]], rfl, upd_same, .append (by walk_at "al") (by walk_at "al"), all_app oes (by walk_at "odd"), by rw [List.length_append, lvs]; rfl, by walk_at "gs"⟩
  clear hsm1 hes oes lvs gs1 hms ht1 hz1 hr1 hx1
  rintro σ' H1 ⟨sm, vs, es, rfl, hsm1, hes, oes, lvs, gs1⟩
  obtain ⟨x1, hx1⟩ := gs1.st
  have hms : sm ≠ s := fun w => by rw [w, hx1] at hsm1; cases hsm1; exact absurd lvs (by simp)
  have ht1 : H1 t = some (.tup (.str w0 :: us)) := by walk_at "hp"
  have hz1 : H1 z = some (.tup [.int g.L, .int g.T, .int g.C]) := by walk_at "hp"
  have hr1 : At H1 (.tuple (.str w0 :: ds)) (.ref t) := by walk_at "at"
  refine meet (fun σ' H' => ∃ (sm : Addr) (vs : List V) (es : List PyData), σ' = [some (.ref s), some (.ref t), some (.ref z), some (.int far), some (.ref sm)] ∧ H' sm = some (.lst vs) ∧ AtAll H' es vs ∧ (∀ d ∈ es, OddD g d) ∧ vs.length = 18 ∧ Gs s H H') ?_ ?_
  · walk_at "s"
    refine ⟨_, _, es ++ [.tuple [.str "part", .tuple (.str w0 :: ds), .int (-1)], .tuple [.str "paper", .str "Ab"]], rfl, upd_same, .append (by walk_at "al") (by walk_at "al"), all_app oes (by walk_at "odd"), by rw [List.length_append, lvs]; rfl, by walk_at "gs"⟩
  clear hsm1 hes oes lvs gs1 hms ht1 hz1 hr1 hx1
  rintro σ' H1 ⟨sm, vs, es, rfl, hsm1, hes, oes, lvs, gs1⟩
  obtain ⟨x1, hx1⟩ := gs1.st
  have hms : sm ≠ s := fun w => by rw [w, hx1] at hsm1; cases hsm1; exact absurd lvs (by simp)
  have ht1 : H1 t = some (.tup (.str w0 :: us)) := by walk_at "hp"
  have hz1 : H1 z = some (.tup [.int g.L, .int g.T, .int g.C]) := by walk_at "hp"
  have hr1 : At H1 (.tuple (.str w0 :: ds)) (.ref t) := by walk_at "at"
  refine meet (fun σ' H' => ∃ (sm : Addr) (vs : List V) (es : List PyData), σ' = [some (.ref s), some (.ref t), some (.ref z), some (.int far), some (.ref sm)] ∧ H' sm = some (.lst vs) ∧ AtAll H' es vs ∧ (∀ d ∈ es, OddD g d) ∧ vs.length = 23 ∧ Gs s H H') ?_ ?_
  · walk_at "s"
    refine ⟨_, _, es ++ [.tuple [.str "line", .int (g.L + far)], .tuple [.str "adds", .tuple (.str w0 :: ds), .tuple (.str w0 :: ds)], .tuple [.str "where", .tuple (.str w0 :: ds), .tuple (.str w0 :: ds)], .int 7, .bool true], rfl, upd_same, .append (by walk_at "al") (by walk_at "al"), all_app oes (by walk_at "odd"), by rw [List.length_append, lvs]; rfl, by walk_at "gs"⟩
  clear hsm1 hes oes lvs gs1 hms ht1 hz1 hr1 hx1
  rintro σ' H1 ⟨sm, vs, es, rfl, hsm1, hes, oes, lvs, gs1⟩
  obtain ⟨x1, hx1⟩ := gs1.st
  have hms : sm ≠ s := fun w => by rw [w, hx1] at hsm1; cases hsm1; exact absurd lvs (by simp)
  have ht1 : H1 t = some (.tup (.str w0 :: us)) := by walk_at "hp"
  have hz1 : H1 z = some (.tup [.int g.L, .int g.T, .int g.C]) := by walk_at "hp"
  have hr1 : At H1 (.tuple (.str w0 :: ds)) (.ref t) := by walk_at "at"
  refine meet (fun σ' H' => ∃ (sm : Addr) (vs : List V) (es : List PyData), σ' = [some (.ref s), some (.ref t), some (.ref z), some (.int far), some (.ref sm)] ∧ H' sm = some (.lst vs) ∧ AtAll H' es vs ∧ (∀ d ∈ es, OddD g d) ∧ vs.length = 27 ∧ Gs s H H') ?_ ?_
  · walk_at "s"
    refine ⟨_, _, es ++ [.tuple [.none, .tuple (.str w0 :: ds), .tuple (.str w0 :: ds)], .tuple [.str "add", .tuple (.str w0 :: ds), .list [.tuple (.str w0 :: ds)]], .tuple [.str "paper", .list [.str "a"]], .tuple [.str "add", .tuple (.str w0 :: ds), .int 7]], rfl, upd_same, .append (by walk_at "al") (by walk_at "al"), all_app oes (by walk_at "odd"), by rw [List.length_append, lvs]; rfl, by walk_at "gs"⟩
  clear hsm1 hes oes lvs gs1 hms ht1 hz1 hr1 hx1
  rintro σ' H1 ⟨sm, vs, es, rfl, hsm1, hes, oes, lvs, gs1⟩
  obtain ⟨x1, hx1⟩ := gs1.st
  have hms : sm ≠ s := fun w => by rw [w, hx1] at hsm1; cases hsm1; exact absurd lvs (by simp)
  have ht1 : H1 t = some (.tup (.str w0 :: us)) := by walk_at "hp"
  have hz1 : H1 z = some (.tup [.int g.L, .int g.T, .int g.C]) := by walk_at "hp"
  have hr1 : At H1 (.tuple (.str w0 :: ds)) (.ref t) := by walk_at "at"
  refine meet (fun σ' H' => ∃ (sm : Addr) (vs : List V) (es : List PyData), σ' = [some (.ref s), some (.ref t), some (.ref z), some (.int far), some (.ref sm)] ∧ H' sm = some (.lst vs) ∧ AtAll H' es vs ∧ (∀ d ∈ es, OddD g d) ∧ vs.length = 32 ∧ Gs s H H') ?_ ?_
  · walk_at "s"
    refine ⟨_, _, es ++ [.tuple [.str "number", .int (-10 ^ Int.toNat 9 - 1)], .tuple [.str "line", .str "0"], .tuple [.str "number", .bool true], .tuple [.str "line", .bool false], .tuple [.str "part", .tuple (.str w0 :: ds), .bool true]], rfl, upd_same, .append (by walk_at "al") (by walk_at "al"), all_app oes (by walk_at "odd"), by rw [List.length_append, lvs]; rfl, by walk_at "gs"⟩
  clear hsm1 hes oes lvs gs1 hms ht1 hz1 hr1 hx1
  rintro σ' H1 ⟨sm, vs, es, rfl, hsm1, hes, oes, lvs, gs1⟩
  obtain ⟨x1, hx1⟩ := gs1.st
  have hms : sm ≠ s := fun w => by rw [w, hx1] at hsm1; cases hsm1; exact absurd lvs (by simp)
  have ht1 : H1 t = some (.tup (.str w0 :: us)) := by walk_at "hp"
  have hz1 : H1 z = some (.tup [.int g.L, .int g.T, .int g.C]) := by walk_at "hp"
  have hr1 : At H1 (.tuple (.str w0 :: ds)) (.ref t) := by walk_at "at"
  refine meet (fun σ' H' => ∃ (sm : Addr) (vs : List V) (es : List PyData), σ' = [some (.ref s), some (.ref t), some (.ref z), some (.int far), some (.ref sm)] ∧ H' sm = some (.lst vs) ∧ AtAll H' es vs ∧ (∀ d ∈ es, OddD g d) ∧ vs.length = 36 ∧ Gs s H H') ?_ ?_
  · walk_at "s"
    refine ⟨_, _, es ++ [.tuple [.str "table", .bool false, .tuple (.str w0 :: ds)], .tuple [.str "choose", .bool true, .tuple (.str w0 :: ds), .tuple (.str w0 :: ds)], .tuple [.str "paper", .str "ab_"], .tuple [.str "paper", .str "a b"]], rfl, upd_same, .append (by walk_at "al") (by walk_at "al"), all_app oes (by walk_at "odd"), by rw [List.length_append, lvs]; rfl, by walk_at "gs"⟩
  clear hsm1 hes oes lvs gs1 hms ht1 hz1 hr1 hx1
  rintro σ' H1 ⟨sm, vs, es, rfl, hsm1, hes, oes, lvs, gs1⟩
  obtain ⟨x1, hx1⟩ := gs1.st
  have hms : sm ≠ s := fun w => by rw [w, hx1] at hsm1; cases hsm1; exact absurd lvs (by simp)
  have ht1 : H1 t = some (.tup (.str w0 :: us)) := by walk_at "hp"
  have hz1 : H1 z = some (.tup [.int g.L, .int g.T, .int g.C]) := by walk_at "hp"
  have hr1 : At H1 (.tuple (.str w0 :: ds)) (.ref t) := by walk_at "at"
  refine meet (fun σ' H' => ∃ (sm : Addr) (vs : List V) (es : List PyData), σ' = [some (.ref s), some (.ref t), some (.ref z), some (.int far), some (.ref sm)] ∧ H' sm = some (.lst vs) ∧ AtAll H' es vs ∧ (∀ d ∈ es, OddD g d) ∧ vs.length = 37 ∧ Gs s H H') ?_ ?_
  · walk_at "s"
    refine ex_pick (fun v => ∃ x : Str, v = .str x ∧ x ∈ kw ++ oddT) (Int.emod_nonneg _ (by decide)) (Int.emod_lt_of_pos _ (by decide)) (fun v hv => ?_) ?_
    · simp only [List.mem_cons, List.not_mem_nil, or_false] at hv
      rcases hv with rfl | rfl | rfl | rfl | rfl | rfl <;> exact ⟨_, rfl, by decide +kernel⟩
    rintro _ ⟨xx, rfl, hxx⟩
    have hpx : inP (pool2 g) (.str xx) = true := pkE hxx
    walk_at "s"
    refine ⟨_, _, es ++ [.tuple [.str "paper", .str xx]], rfl, upd_same, .append (by walk_at "al") (by walk_at "al"), all_app oes (by walk_at "odd"), by rw [List.length_append, lvs]; rfl, by walk_at "gs"⟩
  clear hsm1 hes oes lvs gs1 hms ht1 hz1 hr1 hx1
  rintro σ' H1 ⟨sm, vs, es, rfl, hsm1, hes, oes, lvs, gs1⟩
  obtain ⟨x1, hx1⟩ := gs1.st
  have hms : sm ≠ s := fun w => by rw [w, hx1] at hsm1; cases hsm1; exact absurd lvs (by simp)
  walk_at "s"
  rename_i yy rr rr0 rr1
  obtain ⟨v, ev, en, hm⟩ := atI_range rr0 rr1
  obtain ⟨d, ed, ad⟩ := hes.ix en
  refine ex_v ev ?_
  walk_at "s"
  exact k d v _ (by walk_at "gs") ⟨oes d (List.mem_of_getElem? ed), by walk_at "at"⟩
end
end Fl

-- after: r6.tpl
namespace Fl
open PySem PySem.Spec PyProof.Rows L2 RZ
theorem nodup_le {α : Type} [DecidableEq α] : ∀ {xs ys : List α}, xs.Nodup → (∀ x ∈ xs, x ∈ ys) → xs.length ≤ ys.length
  | [], _, _, _ => Nat.zero_le _
  | x :: r, ys, nd, h => by
    have nd' := List.nodup_cons.mp nd
    have hx := h x (List.mem_cons_self ..)
    have ih := nodup_le (ys := ys.erase x) nd'.2 fun z hz => (List.mem_erase_of_ne (fun (e : z = x) => nd'.1 (by rw [← e]; exact hz))).mpr (h z (List.mem_cons_of_mem _ hz))
    rw [List.length_erase_of_mem hx] at ih
    have := List.length_pos_of_mem hx
    simp only [List.length_cons]
    omega
theorem szAll_filter {ds : List PyData} {p : PyData → Bool} : szAll (ds.filter p) ≤ szAll ds := by
  induction ds with
  | nil => simp
  | cons d r ih =>
    rw [List.filter_cons]
    split <;> simp only [szAll] <;> omega
mutual
theorem vals_len {w : Str} : ∀ (n : Nat) (d : PyData), (vals w n d).length ≤ sz d
  | 0, d => by simp [vals]
  | n + 1, d => by
    unfold vals
    split
    · rename_i w' ds
      have h := valsAll_len (w := w) n (ds.filter isTupD)
      have h2 := szAll_filter (ds := ds) (p := isTupD)
      rw [List.length_append]
      have h3 : (if w' = w then [vOf (ds.getD 0 .none)] else []).length ≤ 1 := by split <;> simp
      simp only [sz, szAll]
      omega
    · simp
theorem valsAll_len {w : Str} : ∀ (n : Nat) (ds : List PyData), (ds.flatMap (vals w n)).length ≤ szAll ds
  | n, [] => by simp
  | n, d :: r => by
    rw [List.flatMap_cons, List.length_append]
    have h1 := vals_len (w := w) n d
    have h2 := valsAll_len (w := w) n r
    simp only [szAll]
    omega
end
theorem sz_mem {d : PyData} {ds : List PyData} (h : d ∈ ds) : sz d ≤ szAll ds := by
  induction ds with
  | nil => cases h
  | cons e r ih =>
    rcases List.mem_cons.mp h with rfl | h
    · simp only [szAll]; omega
    · have := ih h
      simp only [szAll]; omega
theorem fm_filter {gs ys : List V} : (ys.filterMap fun v => if v ∈ gs then none else some v) = ys.filter fun v => !decide (v ∈ gs) := by
  induction ys with
  | nil => rfl
  | cons y r ih =>
    by_cases c : y ∈ gs <;> simp [c, ih]
theorem at_vOf {b : Bool} {H : Hp} {d : PyData} {v : V} (h : okK b (vOf d)) (a : At H d v) : v = vOf d := by
  cases d with
  | int i => exact a
  | str s => exact a
  | _ => cases b <;> (obtain ⟨_, h⟩ := h; cases h)
theorem flat_k {b : Bool} {v : V} (h : okK b v) : flatV v = true := by
  cases b <;> (obtain ⟨_, rfl⟩ := h; rfl)
theorem notin_k {K : PySem.W.Frag} {H : Hp} {Q : VK} {b : Bool} {p : Addr} {v : V} {fs : List V} (hx : okK b v) (hf : ∀ u ∈ fs, okK b u) (h : H p = some (.lst fs)) (q : Q (.bl (!decide (v ∈ fs))) H) : uNotIn K v (.ref p) H Q :=
  .inl ⟨p, fs, rfl, .inl (.of h), flat_k hx, List.all_eq_true.mpr fun u hu => flat_k (hf u hu), by rw [inV_k hx hf]; exact q⟩
section
variable {P : Program} {w : World} {K : PySem.W.Frag} {mg : Str → Option Value} {base : Heap}
def Pool (b : Bool) (vs : List V) : Prop := b = true → ∃ pool : List V, pool.length ≤ 60 ∧ ∀ v ∈ vs, v ∈ pool
def NamQ (b : Bool) (vs : List V) (H : Hp) (R : Addr → Hp → Prop) : Prop := ∀ p H' ys, Same H H' → H' p = some (.lst ys) → Canon b ys vs → R p H'
def sp_law_named (n : Nat) : Sp2 := fun a c H Q _ => ∃ d L T C x b, At H d a ∧ okD d = true ∧ sz d ≤ 50000 ∧ isR L T C n d = true ∧ c = .str x ∧ fiveW b x ∧ Pool b (vals x n d) ∧ NamQ b (vals x n d) H fun p H' => Q (.ref p) H'
def sp_law_namedP : Nat → Sp2
  | 0 => fun _ _ _ _ _ => False
  | n + 1 => sp_law_named n
abbrev s__law_named : Stmt := topS 27
theorem sc__law_named : FnScope ["_law_rule_here", "_law_word", "_law_found", "_law_one", "_law_more"] ["_law_rule_here", "_law_word"] (defScope s__law_named) := ⟨rfl, rfl, rfl, by decide +kernel, rfl, by decide +kernel, by decide +kernel⟩
theorem ok_law_named_step {n : Nat} (M : Mg mg) (G__law_named : Has P w K mg base "_law_named" ["_law_rule_here", "_law_word"] n (sp2 (sp_law_namedP n))) (D : DefAt K mg "_law_named" s__law_named ["_law_rule_here", "_law_word"]) :
    Has P w K mg base "_law_named" ["_law_rule_here", "_law_word"] (n + 1) (sp2 (sp_law_named n)) := by
  refine .mk2 D sc__law_named fun f cdv A outer s H a c Q E hr h => ⟨_, (pss_cons (ps_set (i := 2) sc__law_named.nd rfl (by first | exact Or.inl rfl | exact Or.inr rfl) (pe_lst pa_nil))
    (pss_meet (ps_if (pt_cmpR (k_eq K rfl hr) (pe_ix (k_ix K rfl) (pv 0) pe_int (fun _ _ => rfl)) (pv 1) (nomark _)) (pss_one (ps_expr (k_bm K rfl PySem.F.plainAttrs_list PySem.F.slot_list_append PySem.F.type_list_append mt_append (pv 2) (pa_cons (pe_ix (k_ix K rfl) (pv 0) pe_int (fun _ _ => rfl)) pa_nil)))) pss_nil)
    (pss_cons (ps_for own_p (by rfl) (k_pi K rfl (pe_slice (k_sl K rfl) (pv 0) (po_some pe_int) po_none)) (pg_name (i := 3) sc__law_named.nd rfl (by first | exact Or.inl rfl | exact Or.inr rfl)) (pss_one (ps_if (pt_val (pe_callB (k_isi K rfl) (by rfl) M.isinstance (by decide +kernel) (pa_cons (pv 3) (pa_cons (pe_bltn (v := .ty "tuple") (by rfl) M.tuple (by decide +kernel) rfl) pa_nil)))) (pss_one (ps_set (i := 2) sc__law_named.nd rfl (by first | exact Or.inl rfl | exact Or.inr rfl) (pe_op (k_add K rfl) (pv 2) (pe_lc (own := [("_law_more", 4)]) (g := gName 4) (by rfl) sc__law_named.nd (k_pi K rfl (pe_own G__law_named (hr.mono (by first | decide | omega)) (by rfl) p_body (pa_cons (pv 3) (pa_cons (pv 1) pa_nil)))) (blkOk_by (N := ["_law_rule_here", "_law_word", "_law_found", "_law_one", "_law_more"]) (sc := (defScope s__law_named)) (own := [("_law_more", 4)]) (by decide +kernel)) (fun _ _ _ _ _ => (pg_name (i := 4) sc__law_named.nd rfl (by first | exact Or.inl rfl | exact Or.inr rfl))) (fun _ _ _ _ _ => (pts_one (pt_cmpR (k_notin K rfl hr) (pv 4) (pv 2) (by rfl)))) (fun _ _ _ _ _ => (pv 4)))))) pss_nil)))
    (pss_one (ps_ret (pe_callB (k_sortU K rfl) (by rfl) M.sorted (by decide +kernel) (pa_cons (pv 2) pa_nil))))))), ?_⟩
  obtain ⟨d, L, T, C, x, b, hd, ok, hsz, hg, rfl, hf, hpool, q⟩ := h
  obtain ⟨m, w', ds, rfl, rfl, hl, _⟩ := good_shape hg
  obtain ⟨t, us0, rfl, ht, u0, us, rfl, h0, hus⟩ := id hd
  cases (show _ = _ from h0)
  have okd : okAll ds = true := by
    simp only [okD, okAll, Bool.and_eq_true] at ok
    exact ok.2
  have lu := hus.length
  have vok := vals_ok hf hg
  have vlen := vals_len (w := x) (m + 1) (.tuple (.str w' :: ds))
  refine Fl.go_start (σ0 := [some _, some _, none, none, none]) rfl ?_
  walk_at "s"
  rename_i fa hfa
  refine meet (fun σ' H' => ∃ fs, σ' = [some (.ref t), some (.str x), some (.ref fa), none, none] ∧ H' fa = some (.lst fs) ∧ Same H H' ∧ fs = if w' = x then [vOf (ds.getD 0 .none)] else []) ?_ ?_
  · walk_at "s"
    refine if_d (fun c1 => ?_) (fun c1 => ?_)
    · walk_at "s"
      have ov := good_val hg (by rw [c1]; exact hf)
      cases ds with
      | nil => simp at hl
      | cons e0 er =>
      obtain ⟨u1, ur, rfl, h1, hur⟩ := hus
      rw [List.getD_cons_zero] at ov
      have ev : u1 = vOf e0 := at_vOf ov h1
      refine ex_v atI_1 ?_
      walk_at "s"
      exact ⟨_, rfl, by walk_at "hp", by walk_at "sm", by rw [if_pos c1, ev]; rfl⟩
    · walk_at "s"
      exact ⟨_, rfl, by walk_at "hp", by walk_at "sm", by rw [if_neg c1]⟩
  rintro σ' H1 ⟨fs, rfl, hfs, sm1, efs⟩
  have ht1 := sm1 _ _ ht
  walk_at "s"
  rename_i p2 H2 sm2 e2
  rw [cut_tail] at e2
  have e2' : H2 p2 = some (.tup us) := e2
  have vmem : ∀ v, v ∈ vals x (m + 1) (.tuple (.str w' :: ds)) ↔ v ∈ (if w' = x then [vOf (ds.getD 0 .none)] else []) ++ (ds.filter isTupD).flatMap (vals x m) := fun v => Iff.rfl
  refine for_tpl (fun i σ' H' => ∃ fb gs y z, σ' = [some (.ref t), some (.str x), some (.ref fb), y, z] ∧ H' fb = some (.lst gs) ∧ Same H H' ∧ H' p2 = some (.tup us) ∧ gs.Nodup ∧
      ∀ v, v ∈ gs ↔ v ∈ (if w' = x then [vOf (ds.getD 0 .none)] else []) ++ ((ds.take i).filter isTupD).flatMap (vals x m)) e2' ⟨fa, fs, none, none, rfl, sm2 _ _ hfs, L2.Same.trans sm1 sm2, e2', ?_, fun v => ?_⟩ (fun i σ' H' _ ⟨_, _, _, _, _, _, _, e, _⟩ => e) ?_ ?_
  · rw [efs]
    split <;> simp
  · rw [efs]
    simp
  · rintro i u σ' H3 eu ⟨fb, gs, y, z, rfl, hgs, sm3, hp2, gnd, gmem⟩
    obtain ⟨e, ee, he⟩ := hus.ix eu
    have hmem := List.mem_of_getElem? ee
    have gvals : ∀ v ∈ gs, v ∈ vals x (m + 1) (.tuple (.str w' :: ds)) := fun v hv => by
      rw [vmem]
      rcases List.mem_append.mp ((gmem v).mp hv) with z | z
      · exact List.mem_append_left _ z
      · obtain ⟨a, ha, hv'⟩ := List.mem_flatMap.mp z
        obtain ⟨ha1, ha2⟩ := List.mem_filter.mp ha
        exact List.mem_append_right _ (List.mem_flatMap.mpr ⟨a, List.mem_filter.mpr ⟨List.mem_of_mem_take ha1, ha2⟩, hv'⟩)
    have gok : ∀ v ∈ gs, okK b v := fun v hv => vok v (gvals v hv)
    by_cases te : isTupD e = true
    · obtain ⟨es, rfl⟩ : ∃ es, e = .tuple es := by
        cases e with
        | tuple es => exact ⟨es, rfl⟩
        | _ => cases te
      obtain ⟨b1, us1, rfl, hb1, hus1⟩ := id he
      have hb1' := sm3 _ _ hb1
      walk_at "s"
      have gd := good_tups hg hmem te
      have sub : ∀ v ∈ vals x m (.tuple es), v ∈ vals x (m + 1) (.tuple (.str w' :: ds)) := fun v hv => (vmem v).mpr (List.mem_append_right _ (List.mem_flatMap.mpr ⟨_, List.mem_filter.mpr ⟨hmem, te⟩, hv⟩))
      have sze : sz (.tuple es) ≤ 50000 := by
        have h1 := sz_mem hmem
        simp only [sz, szAll] at hsz h1 ⊢
        omega
      refine ⟨.tuple es, L, T, C, x, b, he.le (Same.le sm3), okAll_mem okd hmem, sze, gd, rfl, hf, fun hb => by
        obtain ⟨pool, pl, pm⟩ := hpool hb
        exact ⟨pool, pl, fun v hv => pm v (sub v hv)⟩, fun p3 H4 ys sm4 e4 cn => ?_⟩
      have lys : ys.length ≤ 50000 := Nat.le_trans (nodup_le cn.nd fun v hv => (cn.mem v).mp hv) (Nat.le_trans (vals_len _ _) sze)
      refine lc_filtL (fun v => if v ∈ gs then none else some v) e4 (by omega) (fun _ => rfl) (fun u H5 hu sm5 Q hQ => ?_) (fun u y H5 hu eu sm5 Q hQ => ?_) (fun D H5 hD sm5 e5 => ?_)
      · have gs5 := sm5 _ _ (sm4 _ _ hgs)
        walk_at "s"
        refine notin_k (cn.ok u hu) gok gs5 ?_
        have e : ((if u ∈ gs then none else some u : Option V)).isSome = !decide (u ∈ gs) := by
          by_cases c : u ∈ gs <;> simp [c]
        have hq := hQ H5 (.refl _)
        rw [e] at hq
        walk_at "s"
        exact hq
      · have e : u = y := by
          by_cases c : u ∈ gs
          · rw [if_pos c] at eu
            cases eu
          · rw [if_neg c] at eu
            exact Option.some.inj eu
        subst e
        walk_at "s"
        exact hQ _ (.refl _)
      · rw [fm_filter] at e5
        have gs5 := sm5 _ _ (sm4 _ _ hgs)
        have nd2 : (gs ++ ys.filter fun v => !decide (v ∈ gs)).Nodup := by
          refine List.nodup_append.mpr ⟨gnd, cn.nd.filter _, fun a ha b hb e => ?_⟩
          have := (List.mem_filter.mp hb).2
          rw [← e] at this
          simp [ha] at this
        have mem2 : ∀ v, v ∈ (gs ++ ys.filter fun v => !decide (v ∈ gs)) ↔ v ∈ (if w' = x then [vOf (ds.getD 0 .none)] else []) ++ ((ds.take (i + 1)).filter isTupD).flatMap (vals x m) := fun v => by
          rw [← take_snoc ee, List.filter_append, List.filter_cons, te]
          simp only [if_true, List.filter_nil, List.flatMap_append, List.flatMap_cons, List.flatMap_nil, List.append_nil]
          rw [← List.append_assoc, List.mem_append, List.mem_append, ← gmem v, ← cn.mem v, List.mem_filter]
          by_cases c : v ∈ gs <;> simp [c]
        have len2 : (gs ++ ys.filter fun v => !decide (v ∈ gs)).length ≤ 50000 := Nat.le_trans (nodup_le nd2 fun v hv => by
          rcases List.mem_append.mp hv with z | z
          · exact gvals v z
          · exact sub v ((cn.mem v).mp (List.mem_filter.mp z).1)) (Nat.le_trans vlen hsz)
        rw [List.length_append] at len2
        walk_at "s"
        rename_i fn hfn
        have hp5 := sm5 _ _ (sm4 _ _ hp2)
        exact ⟨fn, _, _, _, rfl, upd_same, Same.new (L2.Same.trans sm3 (L2.Same.trans sm4 sm5)) hfn, Same.new (.refl _) hfn _ _ hp5, nd2, mem2⟩
    · have te' : isTupD e = false := by simpa using te
      have nx : ∀ v, v ∈ gs ↔ v ∈ (if w' = x then [vOf (ds.getD 0 .none)] else []) ++ ((ds.take (i + 1)).filter isTupD).flatMap (vals x m) := fun v => by
        rw [← take_snoc ee, List.filter_append, List.filter_cons, te']
        simpa using gmem v
      cases e <;> first | exact he.elim | exact absurd rfl te | skip
      all_goals try (cases (show _ = _ from he))
      all_goals (walk_at "s"; exact ⟨fb, gs, _, _, rfl, hgs, sm3, hp2, gnd, nx⟩)
  · rintro σ' H3 ⟨fb, gs, y, z, rfl, hgs, sm3, hp2, gnd, gmem⟩
    rw [lu, List.take_length] at gmem
    have gok : ∀ v ∈ gs, okK b v := fun v hv => vok v ((vmem v).mpr ((gmem v).mp hv))
    walk_at "s"
    refine sort_k hgs gok gnd (fun hb => ?_) (fun v => (gmem v).trans (vmem v).symm) (fun ys p cn hp => ?_)
    · obtain ⟨pool, pl, pm⟩ := hpool hb
      have := nodup_le gnd fun v hv => pm v ((vmem v).mpr ((gmem v).mp hv))
      omega
    · exact q p _ ys (Same.new sm3 hp) upd_same cn
theorem none_law_named {n : Nat} (D : DefAt K mg "_law_named" s__law_named ["_law_rule_here", "_law_word"]) : Has P w K mg base "_law_named" ["_law_rule_here", "_law_word"] n (sp2 (sp_law_namedP 0)) := Has.none_left D fun vs H Q E h => by
  obtain ⟨_, _, _, h⟩ := h
  exact h
theorem ok_law_named (M : Mg mg) (D : DefAt K mg "_law_named" s__law_named ["_law_rule_here", "_law_word"]) : ∀ n : Nat, Has P w K mg base "_law_named" ["_law_rule_here", "_law_word"] (n + 1) (sp2 (sp_law_named n))
  | 0 => ok_law_named_step M (none_law_named D) D
  | n + 1 => ok_law_named_step M (ok_law_named M D n) D
end
end Fl

-- after: r13.tpl r7.tpl
namespace Fl
open PySem PySem.Spec PyProof.Rows L2 RZ
theorem sz_split : ∀ {ds : List PyData} {j : Nat} {d : PyData}, ds[j]? = some d → szAll ds = szAll (ds.take j) + sz d + szAll (ds.drop (j + 1))
  | [], _, _, e => by simp at e
  | x :: r, 0, d, e => by
    have e := Option.some.inj e
    subst e
    simp [szAll]
  | x :: r, j + 1, d, e => by
    have ih := sz_split (ds := r) (j := j) (d := d) (by simpa using e)
    simp only [szAll, List.take_succ_cons, List.drop_succ_cons]
    omega
def putF (ds : List PyData) : V → Option V
  | .int j => if isTupD (ds.getD j.toNat .none) then some (.int j) else none
  | _ => none
theorem putF_int {ds : List PyData} {j : Int} : putF ds (.int j) = if isTupD (ds.getD j.toNat .none) then some (.int j) else none := rfl
section
variable {P : Program} {w : World} {K : PySem.W.Frag} {mg : Str → Option Value} {base : Heap}
abbrev s__law_put_in : Stmt := topS 26
theorem sc__law_put_in : FnScope ["_law_state", "_law_rule_here", "_law_thing", "_law_places", "_law_at", "_law_k"] ["_law_state", "_law_rule_here", "_law_thing"] (defScope s__law_put_in) := ⟨rfl, rfl, rfl, by decide +kernel, rfl, by decide +kernel, by decide +kernel⟩
def sp_put (n : Nat) : Sp3 := fun a b c H Q _ => ∃ s x L T C d e p, a = .ref s ∧ H s = some (.lst [.int x]) ∧ At H d b ∧ isR L T C n d = true ∧ inP p d = true ∧ At H e c ∧ inP p e = true ∧ sz d ≤ 20000 ∧
  DrwQ s H (fun (d' : PyData) v H' => (inP p d' = true ∧ sz d' ≤ sz d + sz e) ∧ At H' d' v) fun _ v H' => Q v H'
theorem ok_put_step {n : Nat} (M : Mg mg) (G__law_next : Has P w K mg base "_law_next" ["_law_state", "_law_size"] 1 (sp2 sp_next)) (G__law_put_in : Has P w K mg base "_law_put_in" ["_law_state", "_law_rule_here", "_law_thing"] (n + 2) (sp3 (sp_put n)))
    (D : DefAt K mg "_law_put_in" s__law_put_in ["_law_state", "_law_rule_here", "_law_thing"]) : Has P w K mg base "_law_put_in" ["_law_state", "_law_rule_here", "_law_thing"] (n + 2 + 1) (sp3 (sp_put (n + 1))) := by
  refine .mk3 D sc__law_put_in fun f cdv A outer s0 H a b c Q E hr h => ⟨_, (pss_cons (ps_setLc (i := 3) (own := [("_law_k", 5)]) (g := gName 5) (by rfl) sc__law_put_in.nd rfl rfl (sw_true rfl rfl rfl (by decide +kernel)) (pi_range2 (by rfl) M.range (pa_cons pe_int (pa_cons (pe_callB (k_len K rfl) (by rfl) M.len (by decide +kernel) (pa_cons (pv 1) pa_nil)) pa_nil))) (blkOk_by (N := ["_law_state", "_law_rule_here", "_law_thing", "_law_places", "_law_at", "_law_k"]) (sc := (defScope s__law_put_in)) (own := [("_law_k", 5)]) (by decide +kernel)) (fun _ _ _ _ _ => (pg_name (i := 5) sc__law_put_in.nd rfl (by first | exact Or.inl rfl | exact Or.inr rfl))) (fun _ _ _ _ _ => (pts_one (pt_val (pe_callB (k_isi K rfl) (by rfl) M.isinstance (by decide +kernel) (pa_cons (pe_ix (k_ix K rfl) (pv 1) (pv 5) (fun _ _ => rfl)) (pa_cons (pe_bltn (v := .ty "tuple") (by rfl) M.tuple (by decide +kernel) rfl) pa_nil)))))) (fun _ _ _ _ _ => (pv 5)))
    (pss_cons (ps_if (PW.pt (pw_or (pt_cmpR (k_eqE K rfl hr) (pv 3) (pe_lst pa_nil) (nomark _)) (pw_or1 (pt_cmpR (k_eq K rfl hr) (pe_own G__law_next (hr.mono (by first | decide | omega)) (by rfl) p_body (pa_cons (pv 0) (pa_cons pe_int pa_nil))) pe_int (nomark _))))) (pss_one (ps_ret (pv 2))) pss_nil)
    (pss_cons (ps_set (i := 4) sc__law_put_in.nd rfl (by first | exact Or.inl rfl | exact Or.inr rfl) (pe_ix (k_ix K rfl) (pv 3) (pe_own G__law_next (hr.mono (by first | decide | omega)) (by rfl) p_body (pa_cons (pv 0) (pa_cons (pe_callB (k_len K rfl) (by rfl) M.len (by decide +kernel) (pa_cons (pv 3) pa_nil)) pa_nil))) (fun _ _ => rfl)))
    (pss_one (ps_ret (pe_op (k_add K rfl) (pe_op (k_add K rfl) (pe_slice (k_sl K rfl) (pv 1) po_none (po_some (pv 4))) (pe_tup (pa_cons (pe_own G__law_put_in (hr.mono (by first | decide | omega)) (by rfl) p_body (pa_cons (pv 0) (pa_cons (pe_ix (k_ix K rfl) (pv 1) (pv 4) (fun _ _ => rfl)) (pa_cons (pv 2) pa_nil)))) pa_nil))) (pe_slice (k_sl K rfl) (pv 1) (po_some (pe_op (k_add K rfl) (pv 4) pe_int)) po_none))))))), ?_⟩
  obtain ⟨s, x, L, T, C, d, e, p, rfl, hs, hd, hR, hpd, he, hpe, hsz, k⟩ := h
  obtain ⟨m', w0, ds, e1, rfl, hl, _⟩ := good_shape hR
  cases e1
  obtain ⟨t, vs, rfl, ht, hvs⟩ := id hd
  have hts : t ≠ s := fun w => by rw [w, hs] at ht; cases ht
  have lv := hvs.length
  have lsz := szAll_len (a := .str w0 :: ds)
  have lv2 : vs.length ≤ 20000 := by simp only [sz] at hsz; omega
  have hp' : inPs p (.str w0 :: ds) = true := by simpa only [inP] using hpd
  refine Fl.go_start (σ0 := [some _, some _, some _, none, none, none]) rfl ?_
  walk_at "s"
  refine lc_filtR (putF (.str w0 :: ds)) (by omega) (fun _ => rfl) (fun i H' hi sm R hR => ?_) (fun i y H' hi ey sm R hR => ?_) (fun D1 H1 hD1 sm1 eD1 => ?_)
  · walk_at "s"
    obtain ⟨v, ev⟩ : ∃ v, vs[1 + i]? = some v := ⟨_, List.getElem?_eq_getElem (by omega)⟩
    obtain ⟨d0, ed, hd0⟩ := hvs.ix ev
    have ev' : atI vs (1 + (i : Int)) = some v := by
      have z := atI_nat ev
      rwa [show ((1 + i : Nat) : Int) = 1 + (i : Int) by omega] at z
    refine ex_v ev' ?_
    walk_at "s"
    have e : (putF (.str w0 :: ds) (.int (1 + i))).isSome = isTupD d0 := by
      rw [putF_int, show (1 + (i : Int)).toNat = 1 + i by omega, List.getD_eq_getElem?_getD, ed, Option.getD_some]
      cases isTupD d0 <;> rfl
    rw [e] at hR
    exact hR _ (.refl _)
  · walk_at "s"
    have ey : y = .int (1 + i) := by
      rw [putF_int] at ey
      split at ey
      · exact (Option.some.inj ey).symm
      · cases ey
    subst ey
    exact hR _ (.refl _)
  have hall : ∀ v ∈ ((List.range ((vs.length : Int) - 1).toNat).map fun (i : Nat) => V.int (1 + i)).filterMap (putF (.str w0 :: ds)), ∃ j : Nat, v = .int j ∧ j < vs.length ∧ isTupD ((PyData.str w0 :: ds).getD j .none) = true := by
    intro v hv
    obtain ⟨u, hu, hf⟩ := List.mem_filterMap.mp hv
    obtain ⟨i, hi, rfl⟩ := List.mem_map.mp hu
    rw [putF_int] at hf
    split at hf
    · rename_i ht
      have hi := List.mem_range.mp hi
      refine ⟨1 + i, (Option.some.inj hf).symm, by omega, ?_⟩
      rw [← ht]
      congr 2
    · cases hf
  obtain ⟨ns, ens⟩ := ints_of (xs := ((List.range ((vs.length : Int) - 1).toNat).map fun (i : Nat) => V.int (1 + i)).filterMap (putF (.str w0 :: ds))) fun v hv => by
    obtain ⟨j, rfl, _⟩ := hall v hv
    exact ⟨_, rfl⟩
  rw [ens] at eD1 hall
  have hD1s : D1 ≠ s := fun w => by rw [w, hs] at hD1; cases hD1
  walk_at "s"
  rename_i pl hpl
  refine eq_eI (by walk_at "hp") (by walk_at "hp") ?_
  walk_at "s"
  by_cases hn : ns = []
  · subst hn
    walk_at "s"
    exact k e c _ (by walk_at "gs") ⟨⟨hpe, by omega⟩, by walk_at "at"⟩
  have hn' : ns.isEmpty = false := by simpa using hn
  rw [hn']
  walk_at "s"
  refine if_d (fun c1 => ?_) (fun c1 => ?_)
  · walk_at "s"
    exact k e c _ (by walk_at "gs") ⟨⟨hpe, by omega⟩, by walk_at "at"⟩
  have hn0 : 0 < ((ns.map V.int).length : Int) := by
    have := List.length_pos_iff.mpr hn
    simp; omega
  walk_at "s"
  rename_i yb rb rb0 rb1
  refine ex_pick _ rb0 rb1 hall ?_
  rintro _ ⟨j, rfl, hj, hjt⟩
  walk_at "s"
  rename_i a2 H2 sm2 e2
  rw [cut_to] at e2
  obtain ⟨v, ev⟩ : ∃ v, vs[j]? = some v := ⟨_, List.getElem?_eq_getElem hj⟩
  obtain ⟨d0, ed, hd0⟩ := hvs.ix ev
  rw [List.getD_eq_getElem?_getD, ed, Option.getD_some] at hjt
  have hmem : d0 ∈ ds := by
    cases j with
    | zero =>
      have z := Option.some.inj ed
      rw [← z] at hjt
      cases hjt
    | succ j => exact List.mem_of_getElem? (by simpa using ed)
  have hsz0 := sz_mem hmem
  have hsz' : 1 + (1 + szAll ds) ≤ 20000 := by simpa only [sz, szAll] using hsz
  refine ex_v (atI_nat ev) ?_
  have gs2 : Gs s H H2 := by walk_at "gs"
  obtain ⟨x2, hx2⟩ := gs2.st
  walk_at "s"
  refine ⟨s, x2, L, T, C, d0, e, p, rfl, hx2, hd0.le (gs2.le hs), good_tups hR hmem hjt, inPs_mem hp' (List.mem_cons_of_mem _ hmem), by walk_at "at", hpe, by omega, fun d' v' H3 gs3 ⟨⟨ip, sz'⟩, a'⟩ => ?_⟩
  obtain ⟨x3, hx3⟩ := gs3.st
  have e3 : H3 a2 = some (.tup (vs.take j)) := by
    refine gs3.keep _ _ (fun w => ?_) e2
    rw [w, hx2] at e2
    cases e2
  have ht3 : H3 t = some (.tup vs) := by walk_at "hp"
  have gs4 : Gs s H H3 := gs2.trans gs3
  walk_at "s"
  rename_i pq hpq a4 H5 sm5 e5 a6 H6 sm6 e6
  rw [cut_from1] at e6 ⊢
  have hA : AtAll H6 (.str w0 :: ds) vs := hvs.le (by walk_at "le")
  have hB : At H6 d' v' := by walk_at "at"
  refine ⟨small_of (by simp; omega), fun a7 H7 sm7 e7 => ?_⟩
  have spl := sz_split ed
  refine k (.tuple (((PyData.str w0 :: ds).take j ++ [d']) ++ (PyData.str w0 :: ds).drop (j + 1))) _ _ (by walk_at "gs") ⟨⟨inP_tup (inPs_of (all_app (all_app (fun z hz => inPs_mem hp' (List.mem_of_mem_take hz)) (all_cons ip all_nil)) (fun z hz => inPs_mem hp' (List.mem_of_mem_drop hz)))), ?_⟩, at_tup e7 (((AtAll.take j hA).append (.one hB)).append (AtAll.drop (j + 1) hA) |>.le (Same.le sm7))⟩
  simp only [sz, szAll_append, szAll] at hsz' spl ⊢
  omega
theorem ok_put (M : Mg mg) (G__law_next : Has P w K mg base "_law_next" ["_law_state", "_law_size"] 1 (sp2 sp_next)) (D : DefAt K mg "_law_put_in" s__law_put_in ["_law_state", "_law_rule_here", "_law_thing"]) : ∀ n : Nat, Has P w K mg base "_law_put_in" ["_law_state", "_law_rule_here", "_law_thing"] (n + 2) (sp3 (sp_put n))
  | 0 => Has.none_left D fun vs H Q E h => by
    obtain ⟨_, _, _, _, s, x, L, T, C, d, e, p, _, _, _, hR, _⟩ := h
    cases hR
  | n + 1 => ok_put_step M G__law_next (ok_put M G__law_next D n) D
end
end Fl

-- after: r7.tpl
namespace Fl
open PySem PySem.Spec PyProof.Rows L2 RZ
theorem AtAll.last {H : Hp} : ∀ {ds : List PyData} {vs : List V}, AtAll H ds vs → vs ≠ [] → ∃ es d ws v, ds = es ++ [d] ∧ vs = ws ++ [v] ∧ AtAll H es ws ∧ At H d v
  | [], _, h, n => absurd h n
  | [x], _, ⟨v, t, q, h, r⟩, _ => ⟨[], x, [], v, rfl, by rw [q, show t = [] from r]; rfl, rfl, h⟩
  | x :: y :: l, _, ⟨v, t, q, h, r⟩, _ => by
    obtain ⟨qs, z, ws, w, e1, e2, r1, r2⟩ := AtAll.last r (by obtain ⟨_, _, z, _⟩ := r; rw [z]; simp)
    exact ⟨x :: qs, z, v :: ws, w, by rw [e1]; rfl, by rw [q, e2]; rfl, ⟨v, ws, rfl, h, r1⟩, r2⟩
section
variable {P : Program} {w : World} {K : PySem.W.Frag} {mg : Str → Option Value} {base : Heap}
abbrev s_named : Stmt := topS 13
theorem sc_named : FnScope ["rule", "word", "found", "rest", "one"] ["rule", "word"] (defScope s_named) := ⟨rfl, rfl, rfl, by decide +kernel, rfl, by decide +kernel, by decide +kernel⟩
theorem ok_named (M : Mg mg) (G_inner_rules : Has P w K mg base "inner_rules" ["rule"] 1 (sp1 sp_inner_rules)) (D : DefAt K mg "named" s_named ["rule", "word"]) : Has P w K mg base "named" ["rule", "word"] 2 (sp2 (sp_law_named 8)) := by
  refine .mk2 D sc_named fun f cdv A outer s H a c Q E hr h => ⟨_, (pss_cons (ps_set (i := 2) sc_named.nd rfl (by first | exact Or.inl rfl | exact Or.inr rfl) (pe_lst pa_nil))
    (pss_cons (ps_set (i := 3) sc_named.nd rfl (by first | exact Or.inl rfl | exact Or.inr rfl) (pe_lst (pa_cons (pv 0) pa_nil)))
    (pss_cons (ps_while own_p (pt_cmpR (k_neE K rfl hr) (pv 3) (pe_lst pa_nil) (nomark _)) (pss_cons (ps_set (i := 4) sc_named.nd rfl (by first | exact Or.inl rfl | exact Or.inr rfl) (k_bm0 K rfl PySem.F.plainAttrs_list PySem.F.slot_list_pop PySem.F.type_list_pop mt_pop (pv 3)))
    (pss_meet (ps_if (PW.pt (pw_and (pt_cmpR (k_eq K rfl hr) (pe_ix (k_ix K rfl) (pv 4) pe_int (fun _ _ => rfl)) (pv 1) (nomark _)) (pw_and1 (pt_cmpR (k_notin K rfl hr) (pe_ix (k_ix K rfl) (pv 4) pe_int (fun _ _ => rfl)) (pv 2) (by rfl))))) (pss_one (ps_expr (k_bm K rfl PySem.F.plainAttrs_list PySem.F.slot_list_append PySem.F.type_list_append mt_append (pv 2) (pa_cons (pe_ix (k_ix K rfl) (pv 4) pe_int (fun _ _ => rfl)) pa_nil)))) pss_nil)
    (pss_one (ps_set (i := 3) sc_named.nd rfl (by first | exact Or.inl rfl | exact Or.inr rfl) (pe_op (k_add K rfl) (pv 3) (pe_own G_inner_rules (hr.mono (by first | decide | omega)) (by rfl) p_body (pa_cons (pv 4) pa_nil))))))))
    (pss_one (ps_ret (pe_callB (k_sortU K rfl) (by rfl) M.sorted (by decide +kernel) (pa_cons (pv 2) pa_nil))))))), ?_⟩
  obtain ⟨d, L, T, C, x, b, hd, ok, hsz, hg, rfl, hf, hpool, q⟩ := h
  have vok := vals_ok hf hg
  have vlen := vals_len (w := x) 8 d
  refine Fl.go_start (σ0 := [some _, some _, none, none, none]) rfl ?_
  walk_at "s"
  rename_i fa hfa r0 hr0
  have hne0 : fa ≠ r0 := fun z => by rw [z, upd_same] at hr0; cases hr0
  have hr0' : H r0 = none := L2.Same.free (Same.new (.refl _) hfa) hr0
  refine while_go (fun m σ' H' => ∃ (r : Addr) (ps : List (PyData × Nat)) (vs gs : List V) (x4 : Option V), σ' = [some a, some (.str x), some (.ref fa), some (.ref r), x4] ∧
    m = szAll (ps.map (·.1)) ∧ H' r = some (.lst vs) ∧ H' fa = some (.lst gs) ∧ fa ≠ r ∧ H r = none ∧ Same H H' ∧ AtAll H (ps.map (·.1)) vs ∧ (∀ e ∈ ps, okD e.1 = true ∧ isR L T C e.2 e.1 = true) ∧ szAll (ps.map (·.1)) ≤ 50000 ∧ gs.Nodup ∧
      ∀ v, v ∈ vals x 8 d ↔ v ∈ gs ∨ ∃ e ∈ ps, v ∈ vals x e.2 e.1) (sz d)
    ⟨r0, [(d, 8)], [a], [], none, rfl, by simp [szAll], by walk_at "hp", ?_, hne0, hr0', by walk_at "sm", AtAll.one hd, by simp [ok, hg], by simp [szAll]; omega, List.nodup_nil, by simp⟩ ?_
  · rw [upd_ne hne0]
    exact upd_same
  rintro m σ' H' ⟨r, ps, vs, gs, x4, rfl, rfl, hrv, hfg, hne, hrf, sm, hps, hok, hle, gnd, gmem⟩
  have gok : ∀ v ∈ gs, okK b v := fun v hv => vok v ((gmem v).mpr (.inl hv))
  walk_at "s"
  rename_i pe hpe
  refine ne_e (by walk_at "hp") (by walk_at "hp") ((hps.le (Same.le (Same.new sm hpe))).dp) (okAll_lay _ (okAll_of fun e m => by
    obtain ⟨z, hz, rfl⟩ := List.mem_map.mp m
    exact (hok z hz).1)) ?_
  walk_at "s"
  by_cases hv : vs = []
  · subst hv
    have e : ps = [] := List.eq_nil_of_length_eq_zero (by have := hps.length; simpa using this.symm)
    subst e
    have gmem' : ∀ v, v ∈ gs ↔ v ∈ vals x 8 d := fun v => by rw [gmem v]; simp
    have hpf : pe ≠ fa := fun z => by rw [z, hfg] at hpe; cases hpe
    walk_at "s"
    refine sort_k (by rw [upd_ne hpf.symm]; exact hfg) gok gnd (fun hb => ?_) gmem' (fun ys p cn hp => ?_)
    · obtain ⟨pool, pl, pm⟩ := hpool hb
      have := nodup_le gnd fun v hv => pm v ((gmem' v).mp hv)
      omega
    · exact q p _ ys (Same.new (Same.new sm hpe) hp) upd_same cn
  have hv' : vs.isEmpty = false := by simpa using hv
  rw [hv']
  walk_at "s"
  refine while_turn ?_
  obtain ⟨es, d1, ws, v, e1, rfl, hq, hu⟩ := hps.last hv
  have hpn : ps ≠ [] := fun z => by rw [z] at e1; simp at e1
  obtain ⟨qs, x0, rfl⟩ : ∃ qs x0, ps = qs ++ [x0] := ⟨ps.dropLast, ps.getLast hpn, (List.dropLast_concat_getLast hpn).symm⟩
  obtain ⟨d0, k⟩ := x0
  rw [List.map_append] at e1
  obtain ⟨rfl, e3⟩ := List.append_inj' e1 rfl
  obtain rfl : d0 = d1 := by simpa using e3
  obtain ⟨okd, hgd⟩ := hok (d0, k) (by simp)
  dsimp only at okd hgd
  obtain ⟨m1, w', ds, rfl, rfl, hl, _⟩ := good_shape hgd
  obtain ⟨t, us0, rfl, ht, u0, us, rfl, h0, hus⟩ := id hu
  cases (show _ = _ from h0)
  have lu := hus.length
  have glen : gs.length ≤ 50000 := Nat.le_trans (nodup_le gnd fun v hv => (gmem v).mpr (.inl hv)) (Nat.le_trans vlen hsz)
  walk_at "s"
  refine ex_v (v := .ref t) (by simp) ?_
  rw [List.dropLast_concat]
  have hpf : pe ≠ fa := fun z => by rw [z, hfg] at hpe; cases hpe
  have h2r : (upd (upd H' pe (.lst [])) r (.lst ws)) r = some (.lst ws) := upd_same
  have h2f : (upd (upd H' pe (.lst [])) r (.lst ws)) fa = some (.lst gs) := by rw [upd_ne hne, upd_ne hpf.symm]; exact hfg
  have sm2 : Same H (upd (upd H' pe (.lst [])) r (.lst ws)) := by walk_at "sm"
  generalize upd (upd H' pe (.lst [])) r (.lst ws) = H2 at *
  have hfaH : H fa = none := by assumption
  have ht2 := sm2 _ _ ht
  refine meet (fun σ' H3 => ∃ gs', σ' = [some a, some (.str x), some (.ref fa), some (.ref r), some (.ref t)] ∧ H3 r = some (.lst ws) ∧ H3 fa = some (.lst gs') ∧ Same H H3 ∧ gs'.Nodup ∧ ∀ v, v ∈ gs' ↔ v ∈ gs ∨ v ∈ (if w' = x then [vOf (ds.getD 0 .none)] else [])) ?_ ?_
  · walk_at "s"
    refine if_d (fun c1 => ?_) (fun c1 => ?_)
    · walk_at "s"
      have ov := good_val hgd (by rw [c1]; exact hf)
      cases ds with
      | nil => simp at hl
      | cons e0 er =>
      obtain ⟨u1, ur, rfl, h1, hur⟩ := hus
      rw [List.getD_cons_zero] at ov
      obtain rfl : u1 = vOf e0 := at_vOf ov h1
      walk_at "s"
      refine notin_k ov gok h2f ?_
      by_cases cg : vOf e0 ∈ gs
      · rw [decide_eq_true cg]
        walk_at "s"
        refine ⟨gs, rfl, h2r, h2f, sm2, gnd, fun v => ?_⟩
        rw [if_pos c1, List.getD_cons_zero, List.mem_singleton]
        exact ⟨.inl, fun z => z.elim id fun z => z ▸ cg⟩
      · rw [decide_eq_false cg]
        walk_at "s"
        refine ⟨gs ++ [vOf e0], rfl, by rw [upd_ne hne.symm]; exact h2r, upd_same, Same.mut sm2 hfaH, List.nodup_append.mpr ⟨gnd, by simp, fun a ha b hb e => ?_⟩, fun v => ?_⟩
        · rw [List.mem_singleton.mp hb] at e
          exact cg (e ▸ ha)
        · rw [if_pos c1, List.getD_cons_zero, List.mem_append]
    · walk_at "s"
      exact ⟨gs, rfl, h2r, h2f, sm2, gnd, fun v => by rw [if_neg c1]; simp⟩
  rintro σ' H3 ⟨gs', rfl, h3r, h3f, sm3, gnd', gmem'⟩
  have ht3 := sm3 _ _ ht
  walk_at "s"
  have lds := szAll_len (a := ds)
  have szq : szAll (qs.map (·.1)) + sz (.tuple (.str w' :: ds)) = szAll ((qs ++ [(PyData.tuple (PyData.str w' :: ds), m1 + 1)]).map (·.1)) := by
    rw [List.map_append, szAll_append]
    simp [szAll]
  have szd : sz (.tuple (.str w' :: ds)) = 1 + (1 + szAll ds) := by simp only [sz, szAll]
  refine ⟨H, t, _, us, ds, sm3, rfl, ht3, hus, by omega, fun p5 H4 ws5 sm4 e5 at5 => ?_⟩
  have h4r := sm4 _ _ h3r
  have h4f := sm4 _ _ h3f
  have l5 := at5.length
  have lf := szAll_filter (ds := ds) (p := isTupD)
  have lf2 := szAll_len (a := ds.filter isTupD)
  have lq := hq.length
  have lq2 := szAll_len (a := qs.map (·.1))
  have ltot : ws.length + ws5.length ≤ 50000 := by omega
  walk_at "s"
  rename_i rn hrn
  have em : (qs ++ (ds.filter isTupD).map fun e => (e, m1)).map (·.1) = qs.map (·.1) ++ ds.filter isTupD := by
    rw [List.map_append, List.map_map]
    simp [Function.comp_def]
  have es : szAll ((qs ++ (ds.filter isTupD).map fun e => (e, m1)).map (·.1)) = szAll (qs.map (·.1)) + szAll (ds.filter isTupD) := by
    rw [em, szAll_append]
  have hfr : fa ≠ rn := fun z => by rw [← z, h4f] at hrn; cases hrn
  refine ⟨_, ?_, rn, qs ++ (ds.filter isTupD).map fun e => (e, m1), ws ++ ws5, gs', _, rfl, rfl, upd_same, by rw [upd_ne hfr]; exact h4f, hfr, L2.Same.free (L2.Same.trans sm3 sm4) hrn, Same.new (L2.Same.trans sm3 sm4) hrn, by rw [em]; exact hq.append at5, ?_, ?_, gnd', fun v => ?_⟩
  · rw [es]
    omega
  · intro e he
    rcases List.mem_append.mp he with z | z
    · exact hok e (List.mem_append_left _ z)
    · obtain ⟨y, hy, rfl⟩ := List.mem_map.mp z
      obtain ⟨hy1, hy2⟩ := List.mem_filter.mp hy
      simp only [okD, okAll, Bool.and_eq_true] at okd
      exact ⟨okAll_mem okd.2 hy1, good_tups hgd hy1 hy2⟩
  · rw [es]
    omega
  · rw [gmem v, gmem' v]
    have key : v ∈ vals x (m1 + 1) (.tuple (.str w' :: ds)) ↔ v ∈ (if w' = x then [vOf (ds.getD 0 .none)] else []) ∨ ∃ e ∈ ds.filter isTupD, v ∈ vals x m1 e := by
      show v ∈ _ ++ _ ↔ _
      rw [List.mem_append, List.mem_flatMap]
    constructor
    · rintro (z | ⟨e, he, z⟩)
      · exact .inl (.inl z)
      · rcases List.mem_append.mp he with he | he
        · exact .inr ⟨e, List.mem_append_left _ he, z⟩
        · rw [List.mem_singleton.mp he] at z
          rcases key.mp z with z | ⟨y, hy, z⟩
          · exact .inl (.inr z)
          · exact .inr ⟨(y, m1), List.mem_append_right _ (List.mem_map.mpr ⟨y, hy, rfl⟩), z⟩
    · rintro ((z | z) | ⟨e, he, z⟩)
      · exact .inl z
      · exact .inr ⟨_, List.mem_append_right _ (List.mem_singleton.mpr rfl), key.mpr (.inl z)⟩
      · rcases List.mem_append.mp he with he | he
        · exact .inr ⟨e, List.mem_append_left _ he, z⟩
        · obtain ⟨y, hy, rfl⟩ := List.mem_map.mp he
          exact .inr ⟨_, List.mem_append_right _ (List.mem_singleton.mpr rfl), key.mpr (.inr ⟨y, hy, z⟩)⟩
end
end Fl

-- after: rq.tpl gen0.tpl
namespace Fl
open PySem PySem.Spec PyProof.Rows L2 RZ
/-! ### the law's own: is it a word, is it a rule -/
section
variable {P : Program} {w : World} {K : PySem.W.Frag} {mg : Str → Option Value} {base : Heap}
abbrev s__law_is_word : Stmt := topS 24
theorem sc__law_is_word : FnScope ["_law_thing", "_law_sign"] ["_law_thing"] (defScope s__law_is_word) := ⟨rfl, rfl, rfl, by decide +kernel, rfl, by decide +kernel, by decide +kernel⟩
theorem ok_law_is_word (M : Mg mg) (D : DefAt K mg "_law_is_word" s__law_is_word ["_law_thing"]) : Has P w K mg base "_law_is_word" ["_law_thing"] 1 (sp1 sp_is_word) := by
  refine .mk1 D sc__law_is_word fun f cdv A outer s H a Q E hr h => ⟨_, (pss_cons (ps_if (PW.pt (pw_or (pt_not (pt_val (pe_callB (k_isi K rfl) (by rfl) M.isinstance (by decide +kernel) (pa_cons (pv 0) (pa_cons (pe_bltn (v := .ty "str") (by rfl) M.str (by decide +kernel) rfl) pa_nil))))) (pw_or (pt_cmpR o_lt (pe_callB (k_len K rfl) (by rfl) M.len (by decide +kernel) (pa_cons (pv 0) pa_nil)) pe_int (nomark _)) (pw_or1 (pt_cmpR o_gt (pe_callB (k_len K rfl) (by rfl) M.len (by decide +kernel) (pa_cons (pv 0) pa_nil)) pe_int (nomark _)))))) (pss_one (ps_ret pe_bl)) pss_nil)
    (pss_cons (ps_for own_p (by rfl) (pi_str (pv 0)) (pg_name (i := 1) sc__law_is_word.nd rfl (by first | exact Or.inl rfl | exact Or.inr rfl)) (pss_one (ps_if (pt_cmpR o_notIn_sign (pv 1) pe_str (by rfl)) (pss_one (ps_ret pe_bl)) pss_nil)))
    (pss_one (ps_ret pe_bl)))), ?_⟩
  obtain ⟨d, hd, ok, q⟩ := h
  refine Fl.go_start (σ0 := [some _, none]) rfl ?_
  cases d <;> first | exact hd.elim | skip
  all_goals try (cases (show _ = _ from hd))
  case str =>
    rename_i x
    have l := okD_len ok
    have l2 : x.length ≤ sizeLine := small_of (by omega)
    walk_at "s"
    refine if_d (fun c => ?_) (fun c => ?_)
    · walk_at "s"
      have e : isWord (.str x) = false := by simp [isWord, show ¬ 1 ≤ x.length by omega]
      rw [e] at q
      exact q _ (.refl _)
    walk_at "s"
    refine if_d (fun c => ?_) (fun c => ?_)
    · walk_at "s"
      have e : isWord (.str x) = false := by simp [isWord, show ¬ x.length ≤ 8 by omega]
      rw [e] at q
      exact q _ (.refl _)
    walk_at "s"
    have e : isWord (.str x) = x.cps.toList.all fun c => decide (c ∈ letters.cps.toList) := by
      simp [isWord, show 1 ≤ x.length by omega, show x.length ≤ 8 by omega]
    refine for_str (fun i σ' H' => ∃ y, σ' = [some (.str x), y] ∧ H' = H ∧ (x.cps.toList.take i).all (fun c => decide (c ∈ letters.cps.toList)) = true) ⟨_, rfl, rfl, rfl⟩ ?_ ?_
    · rintro i c' σ' H' ec ⟨y, rfl, rfl, hall⟩
      walk_at "s"
      have ec' : x.cps.toList[i]? = some c' := by rw [Array.getElem?_toList]; exact ec
      by_cases hc : c' ∈ letters.cps.toList
      · have h1 : (!decide (c' ∈ letters.cps.toList)) = false := by simp [hc]
        show (if (!decide (c' ∈ letters.cps.toList)) = true then _ else _)
        rw [h1]
        walk_at "s"
        refine ⟨_, rfl, rfl, ?_⟩
        rw [← take_snoc ec', List.all_append, hall]
        simpa using hc
      · have h1 : (!decide (c' ∈ letters.cps.toList)) = true := by simp [hc]
        show (if (!decide (c' ∈ letters.cps.toList)) = true then _ else _)
        rw [h1]
        walk_at "s"
        have z : isWord (.str x) = false := by
          rw [e]
          apply Bool.eq_false_iff.mpr
          intro z
          exact hc (of_decide_eq_true (List.all_eq_true.mp z c' (List.mem_of_getElem? ec')))
        rw [z] at q
        exact q _ (.refl _)
    · rintro σ' H' ⟨y, rfl, rfl, hall⟩
      walk_at "s"
      rw [show x.cps.size = x.cps.toList.length by simp, List.take_length] at hall
      rw [e, hall] at q
      exact q _ (.refl _)
  all_goals (walk_at "s"; exact q _ (.refl _))
abbrev s__law_is : Stmt := topS 23
theorem sc__law_is : FnScope ["_law_thing", "_law_sizes", "_law_deep", "_law_word", "_law_inside", "_law_size", "_law_one"] ["_law_thing", "_law_sizes", "_law_deep"] (defScope s__law_is) := ⟨rfl, rfl, rfl, by decide +kernel, rfl, by decide +kernel, by decide +kernel⟩
def sp_law_is (n : Nat) : Sp3 := fun a b c H Q _ => ∃ d L T C p, At H d a ∧ okD d = true ∧ b = .ref p ∧ H p = some (.tup [.int L, .int T, .int C]) ∧ c = .int (9 - n) ∧ n ≤ 8 ∧ ∀ H', Same H H' → Q (.bl (isR L T C n d)) H'
def sp_law_isP : Nat → Sp3
  | 0 => fun _ _ _ _ _ _ => False
  | n + 1 => sp_law_is n
theorem ok_law_is_step {n : Nat} (M : Mg mg) (G__law_whole : Has P w K mg base "_law_whole" ["_law_found"] 1 (sp1 sp_whole)) (G__law_is_word : Has P w K mg base "_law_is_word" ["_law_thing"] 1 (sp1 sp_is_word))
    (G__law_is : Has P w K mg base "_law_is" ["_law_thing", "_law_sizes", "_law_deep"] (n + 2) (sp3 (sp_law_isP n))) (D : DefAt K mg "_law_is" s__law_is ["_law_thing", "_law_sizes", "_law_deep"]) : Has P w K mg base "_law_is" ["_law_thing", "_law_sizes", "_law_deep"] (n + 3) (sp3 (sp_law_is n)) := by
  refine .mk3 D sc__law_is fun f cdv A outer s H a b c Q E hr h => ⟨_, (pss_cons (ps_if (PW.pt (pw_or (pt_not (pt_val (pe_callB (k_isi K rfl) (by rfl) M.isinstance (by decide +kernel) (pa_cons (pv 0) (pa_cons (pe_bltn (v := .ty "tuple") (by rfl) M.tuple (by decide +kernel) rfl) pa_nil))))) (pw_or (pt_cmpR o_lt (pe_callB (k_len K rfl) (by rfl) M.len (by decide +kernel) (pa_cons (pv 0) pa_nil)) pe_int (nomark _)) (pw_or (pt_cmpR o_gt (pv 2) pe_int (nomark _)) (pw_or1 (pt_not (pt_val (pe_callB (k_isi K rfl) (by rfl) M.isinstance (by decide +kernel) (pa_cons (pe_ix (k_ix K rfl) (pv 0) pe_int (fun _ _ => rfl)) (pa_cons (pe_bltn (v := .ty "str") (by rfl) M.str (by decide +kernel) rfl) pa_nil)))))))))) (pss_one (ps_ret pe_bl)) pss_nil)
    (pss_cons (ps_set (i := 3) sc__law_is.nd rfl (by first | exact Or.inl rfl | exact Or.inr rfl) (pe_ix (k_ix K rfl) (pv 0) pe_int (fun _ _ => rfl)))
    (pss_cons (ps_if (pt_cmpR (k_eq K rfl hr) (pv 3) pe_str (nomark _)) (pss_one (ps_ret (pe_and (pe_cmpR (k_eq K rfl hr) (pe_callB (k_len K rfl) (by rfl) M.len (by decide +kernel) (pa_cons (pv 0) pa_nil)) pe_int (nomark _)) (pe_and (pe_own G__law_whole (hr.mono (by first | decide | omega)) (by rfl) p_body (pa_cons (pe_ix (k_ix K rfl) (pv 0) pe_int (fun _ _ => rfl)) pa_nil)) (pe_one (pe_chain o_le o_le (pe_un o_neg (pe_op o_pow pe_int pe_int)) (pe_ix (k_ix K rfl) (pv 0) pe_int (fun _ _ => rfl)) (pe_op o_pow pe_int pe_int))))))) pss_nil)
    (pss_cons (ps_if (pt_cmpR (k_eq K rfl hr) (pv 3) pe_str (nomark _)) (pss_one (ps_ret (pe_and (pe_cmpR (k_eq K rfl hr) (pe_callB (k_len K rfl) (by rfl) M.len (by decide +kernel) (pa_cons (pv 0) pa_nil)) pe_int (nomark _)) (pe_one (pe_own G__law_is_word (hr.mono (by first | decide | omega)) (by rfl) p_body (pa_cons (pe_ix (k_ix K rfl) (pv 0) pe_int (fun _ _ => rfl)) pa_nil)))))) pss_nil)
    (pss_cons (ps_if (pt_cmpR (k_in K rfl hr) (pv 3) (pe_lst (pa_cons pe_str (pa_cons pe_str pa_nil))) (by rfl)) (pss_one (ps_ret (pe_and (pe_cmpR (k_eq K rfl hr) (pe_callB (k_len K rfl) (by rfl) M.len (by decide +kernel) (pa_cons (pv 0) pa_nil)) pe_int (nomark _)) (pe_and (pe_own G__law_whole (hr.mono (by first | decide | omega)) (by rfl) p_body (pa_cons (pe_ix (k_ix K rfl) (pv 0) pe_int (fun _ _ => rfl)) pa_nil)) (pe_one (pe_chain o_le o_lt pe_int (pe_ix (k_ix K rfl) (pv 0) pe_int (fun _ _ => rfl)) (pe_ix (k_ix K rfl) (pv 1) pe_int (fun _ _ => rfl)))))))) pss_nil)
    (pss_cons (ps_set (i := 4) sc__law_is.nd rfl (by first | exact Or.inl rfl | exact Or.inr rfl) (pe_slice (k_sl K rfl) (pv 0) (po_some pe_int) po_none))
    (pss_meet (ps_if (pt_cmpR (k_eq K rfl hr) (pv 3) pe_str (nomark _)) (pss_cons (ps_if (PW.pt (pw_or (pt_cmpR (k_ne K rfl hr) (pe_callB (k_len K rfl) (by rfl) M.len (by decide +kernel) (pa_cons (pv 0) pa_nil)) pe_int (nomark _)) (pw_or (pt_not (pt_val (pe_own G__law_whole (hr.mono (by first | decide | omega)) (by rfl) p_body (pa_cons (pe_ix (k_ix K rfl) (pv 0) pe_int (fun _ _ => rfl)) pa_nil)))) (pw_or (pt_cmpR o_lt (pe_ix (k_ix K rfl) (pv 0) pe_int (fun _ _ => rfl)) pe_int (nomark _)) (pw_or1 (pt_cmpR o_gt (pe_ix (k_ix K rfl) (pv 0) pe_int (fun _ _ => rfl)) pe_int (nomark _))))))) (pss_one (ps_ret pe_bl)) pss_nil)
    (pss_one (ps_set (i := 4) sc__law_is.nd rfl (by first | exact Or.inl rfl | exact Or.inr rfl) (pe_slice (k_sl K rfl) (pv 0) (po_some pe_int) (po_some pe_int))))) (pss_one (ps_if (pt_cmpR (k_in K rfl hr) (pv 3) (pe_lst (pa_cons pe_str (pa_cons pe_str pa_nil))) (by rfl)) (pss_cons (ps_set (i := 5) sc__law_is.nd rfl (by first | exact Or.inl rfl | exact Or.inr rfl) (pe_ix (k_ix K rfl) (pe_lst (pa_cons (pe_ix (k_ix K rfl) (pv 1) pe_int (fun _ _ => rfl)) (pa_cons (pe_ix (k_ix K rfl) (pv 1) pe_int (fun _ _ => rfl)) pa_nil))) (pe_callTy c_int (by rfl) M.int (by decide +kernel) (pa_cons (pe_cmpR (k_eq K rfl hr) (pv 3) pe_str (nomark _)) pa_nil)) (fun _ _ => rfl)))
    (pss_cons (ps_if (PW.pt (pw_or (pt_cmpR (k_ne K rfl hr) (pe_callB (k_len K rfl) (by rfl) M.len (by decide +kernel) (pa_cons (pv 0) pa_nil)) (pe_op (k_add K rfl) pe_int (pe_callTy c_int (by rfl) M.int (by decide +kernel) (pa_cons (pe_cmpR (k_eq K rfl hr) (pv 3) pe_str (nomark _)) pa_nil))) (nomark _)) (pw_or (pt_not (pt_val (pe_own G__law_whole (hr.mono (by first | decide | omega)) (by rfl) p_body (pa_cons (pe_ix (k_ix K rfl) (pv 0) pe_int (fun _ _ => rfl)) pa_nil)))) (pw_or1 (pt_not (pt_chain o_le o_lt pe_int (pe_ix (k_ix K rfl) (pv 0) pe_int (fun _ _ => rfl)) (pv 5))))))) (pss_one (ps_ret pe_bl)) pss_nil)
    (pss_one (ps_set (i := 4) sc__law_is.nd rfl (by first | exact Or.inl rfl | exact Or.inr rfl) (pe_slice (k_sl K rfl) (pv 0) (po_some pe_int) po_none))))) (pss_one (ps_if (PW.pt (pw_or (pt_cmpR (k_ne K rfl hr) (pe_callB (k_len K rfl) (by rfl) M.len (by decide +kernel) (pa_cons (pv 0) pa_nil)) (pe_op (k_add K rfl) pe_int (pe_callTy c_int (by rfl) M.int (by decide +kernel) (pa_cons (pe_cmpR (k_eq K rfl hr) (pv 3) pe_str (nomark _)) pa_nil))) (nomark _)) (pw_or1 (pt_cmpR (k_notin K rfl hr) (pv 3) (pe_lst (pa_cons pe_str (pa_cons pe_str (pa_cons pe_str (pa_cons pe_str (pa_cons pe_str pa_nil)))))) (by rfl))))) (pss_one (ps_ret pe_bl)) pss_nil)))))
    (pss_cons (ps_for own_p (by rfl) (k_pi K rfl (pv 4)) (pg_name (i := 6) sc__law_is.nd rfl (by first | exact Or.inl rfl | exact Or.inr rfl)) (pss_one (ps_if (pt_not (pt_val (pe_own G__law_is (hr.mono (by first | decide | omega)) (by rfl) p_body (pa_cons (pv 6) (pa_cons (pv 1) (pa_cons (pe_op (k_add K rfl) (pv 2) pe_int) pa_nil)))))) (pss_one (ps_ret pe_bl)) pss_nil)))
    (pss_one (ps_ret pe_bl)))))))))), ?_⟩
  obtain ⟨d, L, T, C, p, hd, ok, rfl, hp, rfl, hn, q⟩ := h
  refine Fl.go_start (σ0 := [some _, some _, some _, none, none, none, none]) rfl ?_
  by_cases ht : ∃ ds, d = .tuple ds
  rotate_left
  · have z : isR L T C n d = false := isR_none fun w ds e => ht ⟨_, e⟩
    rw [z] at q
    cases d <;> first | exact hd.elim | exact absurd ⟨_, rfl⟩ ht | skip
    all_goals try (cases (show _ = _ from hd))
    all_goals (walk_at "s"; exact q _ (.refl _))
  obtain ⟨ds, rfl⟩ := ht
  obtain ⟨t, us, rfl, ht, hus⟩ := id hd
  have lu := hus.length
  walk_at "s"
  refine if_d (fun c => ?_) (fun c => ?_)
  · walk_at "s"
    have z : isR L T C n (.tuple ds) = false := isR_short (by omega)
    rw [z] at q
    exact q _ (.refl _)
  walk_at "s"
  refine if_d (fun c2 => ?_) (fun c2 => ?_)
  · walk_at "s"
    have z : n = 0 := by omega
    subst z
    exact q _ (.refl _)
  obtain ⟨m, rfl⟩ : ∃ m, n = m + 1 := ⟨n - 1, by omega⟩
  cases ds with
  | nil => simp at lu; simp [lu] at c
  | cons d0 ds' =>
  obtain ⟨u0, us', rfl, h0, hus'⟩ := hus
  have okd : okD d0 = true ∧ okAll ds' = true := by simpa [okD, okAll] using ok
  have hd0 : (∃ w, d0 = .str w) ∨ ∀ w, d0 ≠ .str w := by cases d0 <;> simp
  rcases hd0 with ⟨w, rfl⟩ | hnw
  rotate_left
  · have z : isR L T C (m + 1) (.tuple (d0 :: ds')) = false := isR_none fun w ds e => by
      injection e with e
      injection e with e
      exact hnw _ e
    rw [z] at q
    cases d0 <;> first | exact h0.elim | exact absurd rfl (hnw _) | skip
    all_goals try (cases (show _ = _ from h0))
    all_goals (walk_at "s"; exact q _ (.refl _))
  cases (show _ = _ from h0)
  have l' := hus'.length
  have eR : isR L T C (m + 1) (.tuple (.str w :: ds')) = match placesOf T C w ds' with | none => isPlain L w ds' | some ps => (kids ds' ps).all (isR L T C m) := by
    simp only [List.length_cons] at c
    show (decide (1 ≤ ds'.length) && _) = _
    rw [decide_eq_true (by omega), Bool.true_and]
    all_goals (cases placesOf T C w ds' <;> rfl)
  rw [eR] at q
  walk_at "s"
  by_cases g1 : w = "number"
  · subst g1
    rw [places_none (by decide +kernel) (by decide +kernel) (by decide +kernel) (by decide +kernel) (by decide +kernel)] at q
    dsimp only at q
    walk_at "yes"
    walk_at "s"
    refine if_d (fun c1 => ?_) (fun c1 => ?_)
    · obtain ⟨d1, v1, rfl, rfl, h1⟩ := hus'.ex1 (by simp at c1; omega)
      walk_at "s"
      rcases whole_cases d1 with ⟨i, rfl⟩ | ⟨e1, e2⟩
      · cases (show _ = _ from h1)
        walk_at "s"
        rw [show (10 : Int) ^ Int.toNat 9 = 1000000000 by decide]
        refine if_d (fun c3 => ?_) (fun c3 => ?_)
        · walk_at "s"
          have e : isPlain L "number" [.int i] = decide (i ≤ 1000000000) := by simp [isPlain, isNumber, isWhole, c3]
          rw [e] at q
          exact q _ (.refl _)
        · have e : isPlain L "number" [.int i] = false := by simp [isPlain, isNumber, isWhole, c3]
          rw [e] at q
          exact q _ (.refl _)
      · rw [e1]
        walk_at "s"
        have e : isPlain L "number" [d1] = false := by simp [isPlain, isNumber, e2]
        rw [e] at q
        exact q _ (.refl _)
    · walk_at "s"
      have e : isPlain L "number" ds' = false := by
        have : ¬ ds'.length = 1 := by simp at c1; omega
        simp [isPlain, this]
      rw [e] at q
      exact q _ (.refl _)
  walk_at "no"
  walk_at "s"
  by_cases g2 : w = "paper"
  · subst g2
    rw [places_none (by decide +kernel) (by decide +kernel) (by decide +kernel) (by decide +kernel) (by decide +kernel)] at q
    dsimp only at q
    walk_at "yes"
    walk_at "s"
    refine if_d (fun c1 => ?_) (fun c1 => ?_)
    · obtain ⟨d1, v1, rfl, rfl, h1⟩ := hus'.ex1 (by simp at c1; omega)
      have ok1 : okD d1 = true := okAll_mem okd.2 (List.mem_singleton.mpr rfl)
      walk_at "s"
      have e : isPlain L "paper" [d1] = isWord d1 := by unfold isPlain; rw [if_neg g1, if_pos rfl]; simp
      rw [e] at q
      exact q _ (by walk_at "sm")
    · walk_at "s"
      have e : isPlain L "paper" ds' = false := by
        have : ¬ ds'.length = 1 := by simp at c1; omega
        unfold isPlain
        rw [if_neg g1, if_pos rfl]
        simp [this]
      rw [e] at q
      exact q _ (.refl _)
  walk_at "no"
  walk_at "s"
  rename_i pl hpl
  rw [inV_str, inV_str, inV_nil, Bool.or_false]
  by_cases g3 : (decide (w = "line") || decide (w = "earlier")) = true
  · have g3' : w = "line" ∨ w = "earlier" := by simpa using g3
    rw [places_none (by rcases g3' with z | z <;> (rw [z]; decide +kernel)) (by rcases g3' with z | z <;> (rw [z]; decide +kernel)) (by rcases g3' with z | z <;> (rw [z]; decide +kernel)) (by rcases g3' with z | z <;> (rw [z]; decide +kernel)) (by rcases g3' with z | z <;> (rw [z]; decide +kernel))] at q
    dsimp only at q
    rw [g3]
    walk_at "s"
    refine if_d (fun c1 => ?_) (fun c1 => ?_)
    · obtain ⟨d1, v1, rfl, rfl, h1⟩ := hus'.ex1 (by simp at c1; omega)
      have e0 : isPlain L w [d1] = isWhole d1 0 (L - 1) := by
        unfold isPlain
        rw [if_neg g1, if_neg g2, g3]
        simp
      rw [e0] at q
      walk_at "s"
      rcases whole_cases d1 with ⟨i, rfl⟩ | ⟨e1, e2⟩
      · cases (show _ = _ from h1)
        walk_at "s"
        refine if_d (fun c3 => ?_) (fun c3 => ?_)
        · walk_at "s"
          have e : isWhole (.int i) 0 (L - 1) = decide (i < L) := by
            simp only [isWhole, decide_eq_true c3, Bool.true_and]
            exact decide_eq_decide.mpr (by omega)
          rw [e] at q
          exact q _ (by walk_at "sm")
        · have e : isWhole (.int i) 0 (L - 1) = false := by simp [isWhole, c3]
          rw [e] at q
          exact q _ (by walk_at "sm")
      · rw [e1]
        walk_at "s"
        rw [e2] at q
        exact q _ (by walk_at "sm")
    · walk_at "s"
      have e : isPlain L w ds' = false := by
        have : ¬ ds'.length = 1 := by simp at c1; omega
        unfold isPlain
        rw [if_neg g1, if_neg g2]
        simp [this]
      rw [e] at q
      exact q _ (by walk_at "sm")
  have g3f : (decide (w = "line") || decide (w = "earlier")) = false := by simpa using g3
  rw [g3f]
  have pf : isPlain L w ds' = false := by
    unfold isPlain
    rw [if_neg g1, if_neg g2, g3f]
    rfl
  rw [pf] at q
  walk_at "s"
  rename_i p4 H4 sm4 e4
  refine meet (fun σ' H' => ∃ ia ivs ns x5, placesOf T C w ds' = some ns ∧ H' ia = some (.tup ivs) ∧ AtAll H (kids ds' ns) ivs ∧ Same H H' ∧ σ' = [some (.ref t), some (.ref p), some (.int (9 - ((m + 1 : Nat) : Int))), some (.str w), some (.ref ia), x5, none]) ?_ ?_
  · walk_at "s"
    by_cases g4 : w = "part"
    · subst g4
      walk_at "yes"
      walk_at "s"
      refine if_n (fun c1 => ?_) (fun c1 => ?_)
      · walk_at "s"
        have e : placesOf T C "part" ds' = none := by
          rw [places_part, if_neg]
          rintro ⟨z, _⟩
          simp at c1
          omega
        rw [e] at q
        exact q _ (by walk_at "sm")
      obtain ⟨d1, d2, v1, v2, rfl, rfl, h1, h2⟩ := hus'.ex2 (by simp at c1; omega)
      walk_at "s"
      have eP : placesOf T C "part" [d1, d2] = if isWhole d2 0 100 = true then some [1] else none := by
        rw [places_part]
        simp
      rcases whole_cases d2 with ⟨i, rfl⟩ | ⟨e1, e2⟩
      · cases (show _ = _ from h2)
        walk_at "s"
        refine if_d (fun c3 => ?_) (fun c3 => ?_)
        · walk_at "s"
          rw [eP, if_neg (by simp [isWhole, show ¬ 0 ≤ i by omega])] at q
          exact q _ (by walk_at "sm")
        walk_at "s"
        refine if_d (fun c4 => ?_) (fun c4 => ?_)
        · walk_at "s"
          rw [eP, if_neg (by simp [isWhole, show ¬ i ≤ 100 by omega])] at q
          exact q _ (by walk_at "sm")
        walk_at "s"
        rename_i p5 H5 sm5 e5
        rw [if_pos (by simp [isWhole]; omega)] at eP
        exact ⟨p5, _, [1], _, eP, e5, AtAll.one h1, by walk_at "sm", rfl⟩
      · rw [e1]
        walk_at "s"
        rw [e2] at eP
        rw [eP] at q
        exact q _ (by walk_at "sm")
    walk_at "no"
    walk_at "s"
    rename_i pq hpq
    rw [inV_str, inV_str, inV_nil, Bool.or_false]
    by_cases g5 : w = "table"
    · subst g5
      rw [show (decide (("table" : Str) = "table") || decide (("table" : Str) = "choose")) = true by decide +kernel]
      walk_at "s"
      rw [show (if decide (("table" : Str) = "choose") = true then (1 : Int) else 0) = 0 by decide +kernel]
      refine if_n (fun c1 => ?_) (fun c1 => ?_)
      · walk_at "s"
        have e : placesOf T C "table" ds' = none := by
          rw [places_table, if_neg]
          rintro ⟨z, _⟩
          simp at c1
          omega
        rw [e] at q
        exact q _ (by walk_at "sm")
      obtain ⟨d1, d2, v1, v2, rfl, rfl, h1, h2⟩ := hus'.ex2 (by simp at c1; omega)
      walk_at "s"
      have eP : placesOf T C "table" [d1, d2] = if isWhole d1 0 (T - 1) = true then some [2] else none := by
        rw [places_table]
        simp
      rcases whole_cases d1 with ⟨i, rfl⟩ | ⟨e1, e2⟩
      · cases (show _ = _ from h1)
        walk_at "s"
        refine if_d (fun c3 => ?_) (fun c3 => ?_)
        · walk_at "s"
          refine if_n (fun c4 => ?_) (fun c4 => ?_)
          rotate_left
          · walk_at "s"
            rename_i p5 H5 sm5 e5
            rw [if_pos (by simp [isWhole]; omega)] at eP
            exact ⟨p5, _, [2], _, eP, e5, AtAll.one h2, by walk_at "sm", rfl⟩
          · walk_at "s"
            rw [eP, if_neg (by simp [isWhole]; omega)] at q
            exact q _ (by walk_at "sm")
        · walk_at "s"
          rw [eP, if_neg (by simp [isWhole, c3])] at q
          exact q _ (by walk_at "sm")
      · rw [e1]
        walk_at "s"
        rw [e2] at eP
        rw [eP] at q
        exact q _ (by walk_at "sm")
    by_cases g6 : w = "choose"
    · subst g6
      rw [show (decide (("choose" : Str) = "table") || decide (("choose" : Str) = "choose")) = true by decide +kernel]
      walk_at "s"
      rw [show (if decide (("choose" : Str) = "choose") = true then (1 : Int) else 0) = 1 by decide +kernel]
      refine if_n (fun c1 => ?_) (fun c1 => ?_)
      · walk_at "s"
        have e : placesOf T C "choose" ds' = none := by
          rw [places_choose, if_neg]
          rintro ⟨z, _⟩
          simp at c1
          omega
        rw [e] at q
        exact q _ (by walk_at "sm")
      obtain ⟨d1, d2, d3, v1, v2, v3, rfl, rfl, h1, h2, h3⟩ := hus'.ex3 (by simp at c1; omega)
      walk_at "s"
      have eP : placesOf T C "choose" [d1, d2, d3] = if isWhole d1 0 (C - 1) = true then some [2, 3] else none := by
        rw [places_choose]
        simp
      rcases whole_cases d1 with ⟨i, rfl⟩ | ⟨e1, e2⟩
      · cases (show _ = _ from h1)
        walk_at "s"
        refine if_d (fun c3 => ?_) (fun c3 => ?_)
        · walk_at "s"
          refine if_n (fun c4 => ?_) (fun c4 => ?_)
          rotate_left
          · walk_at "s"
            rename_i p5 H5 sm5 e5
            rw [if_pos (by simp [isWhole]; omega)] at eP
            exact ⟨p5, _, [2, 3], _, eP, e5, ⟨_, _, rfl, h2, AtAll.one h3⟩, by walk_at "sm", rfl⟩
          · walk_at "s"
            rw [eP, if_neg (by simp [isWhole]; omega)] at q
            exact q _ (by walk_at "sm")
        · walk_at "s"
          rw [eP, if_neg (by simp [isWhole, c3])] at q
          exact q _ (by walk_at "sm")
      · rw [e1]
        walk_at "s"
        rw [e2] at eP
        rw [eP] at q
        exact q _ (by walk_at "sm")
    rw [decide_eq_false g5, decide_eq_false g6]
    walk_at "s"
    have e4' : H4 p4 = some (.tup us') := by rw [cut_tail] at e4; exact e4
    by_cases g7 : w = "where"
    · subst g7
      rw [show (if decide (("where" : Str) = "where") = true then (1 : Int) else 0) = 1 by decide +kernel]
      refine if_n (fun c1 => ?_) (fun c1 => ?_)
      · walk_at "s"
        have e : placesOf T C "where" ds' = none := by
          rw [places_where, if_neg]
          intro z
          simp at c1
          omega
        rw [e] at q
        exact q _ (by walk_at "sm")
      obtain ⟨d1, d2, d3, v1, v2, v3, rfl, rfl, h1, h2, h3⟩ := hus'.ex3 (by simp at c1; omega)
      walk_at "s"
      have eP : placesOf T C "where" [d1, d2, d3] = some [1, 2, 3] := by rw [places_where]; rfl
      exact ⟨p4, _, [1, 2, 3], _, eP, by walk_at "hp", ⟨_, _, rfl, h1, _, _, rfl, h2, AtAll.one h3⟩, by walk_at "sm", rfl⟩
    rw [show (if decide (w = "where") = true then (1 : Int) else 0) = 0 by simp [g7]]
    by_cases g8 : (w = "add" ∨ w = "take" ∨ w = "least" ∨ w = "most")
    · refine if_n (fun c1 => ?_) (fun c1 => ?_)
      · walk_at "s"
        have e : placesOf T C w ds' = none := by
          rw [places_four g8, if_neg]
          intro z
          simp at c1
          omega
        rw [e] at q
        exact q _ (by walk_at "sm")
      obtain ⟨d1, d2, v1, v2, rfl, rfl, h1, h2⟩ := hus'.ex2 (by simp at c1; omega)
      walk_at "s"
      have eP : placesOf T C w [d1, d2] = some [1, 2] := by rw [places_four g8]; rfl
      have eI : inV (.str w) [V.str (Str.ofString "add"), V.str (Str.ofString "take"), V.str (Str.ofString "least"), V.str (Str.ofString "most"), V.str (Str.ofString "where")] = true := by
        rw [inV_str, inV_str, inV_str, inV_str, inV_str, inV_nil]
        rcases g8 with z | z | z | z <;> simp [z]
      rw [eI]
      walk_at "s"
      exact ⟨p4, _, [1, 2], _, eP, by walk_at "hp", ⟨_, _, rfl, h1, AtAll.one h2⟩, by walk_at "sm", rfl⟩
    have e : placesOf T C w ds' = none := places_none g8 g4 g5 g7 g6
    rw [e] at q
    refine if_n (fun c1 => ?_) (fun c1 => ?_)
    · walk_at "s"
      exact q _ (by walk_at "sm")
    walk_at "s"
    have eI : inV (.str w) [V.str (Str.ofString "add"), V.str (Str.ofString "take"), V.str (Str.ofString "least"), V.str (Str.ofString "most"), V.str (Str.ofString "where")] = false := by
      rw [inV_str, inV_str, inV_str, inV_str, inV_str, inV_nil]
      simp only [not_or] at g8
      simp [g7, g8]
    rw [eI]
    walk_at "s"
    exact q _ (by walk_at "sm")
  · rintro σ' H' ⟨ia, ivs, ns, x5, eP, hia, hiv, smI, rfl⟩
    rw [eP] at q
    walk_at "s"
    refine for_tpl (fun i σ' H' => ∃ y, σ' = [some (.ref t), some (.ref p), some (.int (9 - ((m + 1 : Nat) : Int))), some (.str w), some (.ref ia), x5, y] ∧ Same H H' ∧ H' ia = some (.tup ivs) ∧ ((kids ds' ns).take i).all (isR L T C m) = true) hia ⟨_, rfl, smI, hia, rfl⟩ (fun i σ' H' _ ⟨_, _, _, e, _⟩ => e) ?_ ?_
    · rintro i x σ' H' ex ⟨y, rfl, smH, hia', hall⟩
      obtain ⟨d1, ed, hd1⟩ := hiv.ix ex
      have okc : okD d1 = true := okAll_mem okd.2 (kids_mem eP (List.mem_of_getElem? ed))
      walk_at "s"
      refine ⟨d1, L, T, C, p, hd1.le (Same.le smH), okc, rfl, smH _ _ hp, by congr 1; omega, by omega, fun H3 sm3 => ?_⟩
      cases hb : isR L T C m d1 with
      | false =>
        walk_at "s"
        have z : (kids ds' ns).all (isR L T C m) = false := by
          apply Bool.eq_false_iff.mpr
          intro z
          have := List.all_eq_true.mp z d1 (List.mem_of_getElem? ed)
          rw [hb] at this
          cases this
        dsimp only at q
        rw [z] at q
        exact q _ (L2.Same.trans smH sm3)
      | true =>
        walk_at "s"
        refine ⟨_, rfl, L2.Same.trans smH sm3, sm3 _ _ hia', ?_⟩
        rw [← take_snoc ed, List.all_append, hall]
        simpa using hb
    · rintro σ' H' ⟨y, rfl, smH, hia', hall⟩
      rw [hiv.length, List.take_length] at hall
      walk_at "s"
      dsimp only at q
      rw [hall] at q
      exact q _ smH
theorem none_law_is {n : Nat} (D : DefAt K mg "_law_is" s__law_is ["_law_thing", "_law_sizes", "_law_deep"]) : Has P w K mg base "_law_is" ["_law_thing", "_law_sizes", "_law_deep"] n (sp3 (sp_law_isP 0)) := Has.none_left D fun vs H Q E h => by
  obtain ⟨_, _, _, _, h⟩ := h
  exact h
theorem ok_law_is (M : Mg mg) (G__law_whole : Has P w K mg base "_law_whole" ["_law_found"] 1 (sp1 sp_whole)) (G__law_is_word : Has P w K mg base "_law_is_word" ["_law_thing"] 1 (sp1 sp_is_word)) (D : DefAt K mg "_law_is" s__law_is ["_law_thing", "_law_sizes", "_law_deep"]) :
    ∀ n : Nat, Has P w K mg base "_law_is" ["_law_thing", "_law_sizes", "_law_deep"] (n + 3) (sp3 (sp_law_is n))
  | 0 => ok_law_is_step M G__law_whole G__law_is_word (none_law_is D) D
  | n + 1 => ok_law_is_step M G__law_whole G__law_is_word (ok_law_is M G__law_whole G__law_is_word D n) D
instance {H : Hp} {Q : VK} {E : XK} {a : V} {p : Addr} : Step (sp_law_is 8 a (.ref p) (.int 1) H Q E) (∃ d, At H d a ∧ okD d = true ∧ ∃ L T C, H p = some (.tup [.int L, .int T, .int C]) ∧ SmQ H fun H' => Q (.bl (isR L T C 8 d)) H') :=
  ⟨fun ⟨d, h1, h2, L, T, C, h3, q⟩ => ⟨d, L, T, C, p, h1, h2, rfl, h3, rfl, Nat.le_refl _, q⟩⟩
end
end Fl

-- after: ext.tpl
namespace Fl
open PySem PySem.Spec PyProof.Rows L2 RZ
/-! ### lists compared -/
section
variable {H : Hp} {Q : VK} {K : PySem.W.Frag} {a b : Addr} {x y : V}
theorem depth_ints : ∀ ns : List Int, PyData.depthAll (ns.map PyData.int) = 0
  | [] => rfl
  | n :: r => by simp [PyData.depthAll, PyData.depth, depth_ints r]
theorem shaped_ints (ns : List Int) : SeqAt.shaped (.list (ns.map PyData.int)) = true := by
  simp [SeqAt.shaped, PyData.canLay0, lay_ints, PyData.depth, depth_ints]
theorem eqvAll_ints : ∀ ns ms : List Int, PyData.eqvAll (ns.map PyData.int) (ms.map PyData.int) = decide (ns = ms)
  | [], [] => rfl
  | [], _ :: _ => rfl
  | _ :: _, [] => rfl
  | n :: r, m :: t => by
    simp only [List.map_cons, PyData.eqvAll, PyData.eqv, eqvAll_ints r t]
    by_cases e : n = m <;> simp [e]
theorem eqv_ints (ns ms : List Int) : PyData.eqv (.list (ns.map PyData.int)) (.list (ms.map PyData.int)) = decide (ns = ms) := by
  rw [PyData.eqv, eqvAll_ints]
theorem dp_ints {ns : List Int} (h : H a = some (.lst (ns.map V.int))) : Dp K H (.ref a) (.list (ns.map PyData.int)) := .lst (.of h) (dpAll_ints ns)
theorem ne_ints {ns ms : List Int} (ha : H a = some (.lst (ns.map V.int))) (hb : H b = some (.lst (ms.map V.int))) (q : Q (.bl (!decide (ns = ms))) H) : uNe K (.ref a) (.ref b) H Q :=
  .inr ⟨_, _, dp_ints ha, dp_ints hb, shaped_ints _, shaped_ints _, by rw [eqv_ints]; exact q⟩
theorem eq_ints {ns ms : List Int} (ha : H a = some (.lst (ns.map V.int))) (hb : H b = some (.lst (ms.map V.int))) (q : Q (.bl (decide (ns = ms))) H) : uEq K (.ref a) (.ref b) H Q :=
  .inr ⟨_, _, dp_ints ha, dp_ints hb, shaped_ints _, shaped_ints _, by rw [eqv_ints]; exact q⟩
theorem ne_same {d : PyData} (h1 : Dp K H x d) (h2 : Dp K H y d) (s : SeqAt.shaped d = true) (q : Q (.bl false) H) : uNe K x y H Q :=
  .inr ⟨_, _, h1, h2, s, s, by rw [SeqAt.eqv_refl d (SeqAt.canLay_of_shaped s)]; exact q⟩
theorem eq_same {d : PyData} (h1 : Dp K H x d) (h2 : Dp K H y d) (s : SeqAt.shaped d = true) (q : Q (.bl true) H) : uEq K x y H Q :=
  .inr ⟨_, _, h1, h2, s, s, by rw [SeqAt.eqv_refl d (SeqAt.canLay_of_shaped s)]; exact q⟩
theorem depth_flat : ∀ ds : List PyData, (∀ d ∈ ds, d.depth = 0) → PyData.depthAll ds = 0
  | [], _ => rfl
  | d :: r, h => by simp [PyData.depthAll, h d (List.mem_cons_self ..), depth_flat r fun x hx => h x (List.mem_cons_of_mem _ hx)]
theorem lay_all : ∀ ds : List PyData, (∀ d ∈ ds, d.canLay0 = true) → PyData.canLayAll0 ds = true
  | [], _ => rfl
  | d :: r, h => by simp [PyData.canLayAll0, h d (List.mem_cons_self ..), lay_all r fun x hx => h x (List.mem_cons_of_mem _ hx)]
theorem shaped_flat {ds : List PyData} (h1 : ∀ d ∈ ds, d.depth = 0) (h2 : ∀ d ∈ ds, d.canLay0 = true) : SeqAt.shaped (.list ds) = true := by
  simp [SeqAt.shaped, PyData.canLay0, lay_all ds h2, PyData.depth, depth_flat ds h1]
end
end Fl

-- after: r14.tpl r8.tpl r4.tpl eq.tpl
namespace Fl
open PySem PySem.Spec PyProof.Rows L2 RZ
mutual
theorem vals_in {p : List Str} {w : Str} : ∀ (n : Nat) (d : PyData), inP p d = true → ∀ v ∈ vals w n d, ∀ s, v = .str s → s ∈ p
  | 0, _, _, v, hv, _, _ => by simp [vals] at hv
  | n + 1, d, h, v, hv, s, e => by
    unfold vals at hv
    split at hv
    · rename_i w' ds
      have h' : inPs p (.str w' :: ds) = true := by simpa only [inP] using h
      have h2 : inPs p ds = true := by
        simp only [inPs, Bool.and_eq_true] at h'
        exact h'.2
      rcases List.mem_append.mp hv with z | z
      · split at z
        · rw [List.mem_singleton.mp z] at e
          cases ds with
          | nil => cases e
          | cons d0 r =>
            rw [List.getD_cons_zero] at e
            have i0 := inPs_mem h2 (List.mem_cons_self ..)
            cases d0 with
            | str x =>
              cases e
              simp only [inP] at i0
              exact of_decide_eq_true i0
            | _ => cases e
        · cases z
      · exact valsAll_in n (ds.filter isTupD) (fun d hd => inPs_mem h2 (List.mem_filter.mp hd).1) v z s e
    · cases hv
theorem valsAll_in {p : List Str} {w : Str} : ∀ (n : Nat) (ds : List PyData), (∀ d ∈ ds, inP p d = true) → ∀ v ∈ ds.flatMap (vals w n), ∀ s, v = .str s → s ∈ p
  | n, [], _, v, hv, _, _ => by simp at hv
  | n, d :: r, h, v, hv, s, e => by
    rw [List.flatMap_cons] at hv
    rcases List.mem_append.mp hv with z | z
    · exact vals_in n d (h d (List.mem_cons_self ..)) v z s e
    · exact valsAll_in n r (fun x hx => h x (List.mem_cons_of_mem _ hx)) v z s e
end
theorem kw_ok : ∀ s ∈ kw ++ oddT, OkT 1000 s := by
  intro s hs
  simp only [kw, oddT, List.cons_append, List.nil_append, List.mem_cons, List.not_mem_nil, or_false] at hs
  rcases hs with rfl | rfl | rfl | rfl | rfl | rfl | rfl | rfl | rfl | rfl | rfl | rfl | rfl | rfl | rfl | rfl | rfl | rfl | rfl | rfl | rfl | rfl | rfl | rfl | rfl | rfl <;> exact ⟨by decide +kernel, by decide +kernel⟩
theorem pool2_ok {g : Sg} (h : ∀ s ∈ g.pool, WdT s) : ∀ s ∈ pool2 g, OkT 1000 s := by
  intro s hs
  unfold pool2 at hs
  rcases List.mem_append.mp hs with z | z
  · rcases List.mem_append.mp z with z | z
    · exact kw_ok s (List.mem_append_left _ z)
    · exact (h s z).ok
  · exact kw_ok s (List.mem_append_right _ z)
theorem pool2_len {g : Sg} (h : g.pool.length ≤ 8) : (pool2 g).length ≤ 60 := by
  unfold pool2
  simp [kw, oddT]
  omega
/-- the list of one kind's values, compared with itself -/
theorem dp_k {K : PySem.W.Frag} {H : Hp} {b : Bool} {ys : List V} (h : ∀ v ∈ ys, okK b v) : ∃ ds, DpAll K H ys ds ∧ (∀ d ∈ ds, d.depth = 0) ∧ ∀ d ∈ ds, d.canLay0 = true ∨ ∃ s, d = .str s ∧ V.str s ∈ ys := by
  induction ys with
  | nil => exact ⟨[], .nil, by simp, by simp⟩
  | cons y r ih =>
    obtain ⟨ds, h1, h2, h3⟩ := ih fun v hv => h v (List.mem_cons_of_mem _ hv)
    have hy := h y (List.mem_cons_self ..)
    cases b with
    | false =>
      obtain ⟨i, rfl⟩ := hy
      exact ⟨.int i :: ds, .cons (.int i) h1, fun d hd => (List.mem_cons.mp hd).elim (fun e => by rw [e]; simp [PyData.depth]) (h2 d), fun d hd => (List.mem_cons.mp hd).elim (fun e => .inl (by rw [e]; simp [PyData.canLay0])) fun e => (h3 d e).imp id fun ⟨s, e1, e2⟩ => ⟨s, e1, List.mem_cons_of_mem _ e2⟩⟩
    | true =>
      obtain ⟨i, rfl⟩ := hy
      exact ⟨.str i :: ds, .cons (.str i) h1, fun d hd => (List.mem_cons.mp hd).elim (fun e => by rw [e]; simp [PyData.depth]) (h2 d), fun d hd => (List.mem_cons.mp hd).elim (fun e => .inr ⟨i, e, List.mem_cons_self ..⟩) fun e => (h3 d e).imp id fun ⟨s, e1, e2⟩ => ⟨s, e1, List.mem_cons_of_mem _ e2⟩⟩
theorem ne_k {K : PySem.W.Frag} {H : Hp} {Q : VK} {b : Bool} {ys : List V} {p q : Addr} (h : ∀ v ∈ ys, okK b v) (ok : ∀ s, V.str s ∈ ys → OkT 1000 s) (hp : H p = some (.lst ys)) (hq : H q = some (.lst ys)) (k : Q (.bl false) H) : uNe K (.ref p) (.ref q) H Q := by
  obtain ⟨ds, h1, h2, h3⟩ := dp_k (K := K) (H := H) h
  refine ne_same (.lst (.of hp) h1) (.lst (.of hq) h1) (shaped_flat h2 fun d hd => ?_) k
  rcases h3 d hd with e | ⟨s, rfl, e⟩
  · exact e
  · exact okD_lay _ ((ok s e).ok (Nat.le_refl _))
local macro_rules | `(tactic| walk_at "ip") => `(tactic| first
  | with_reducible assumption
  | exact Fl.pkE (by decide +kernel)
  | with_reducible exact Fl.inPs_nil
  | with_reducible exact Fl.inP_int
  | with_reducible exact Fl.inP_bool
  | with_reducible exact Fl.inP_none
  | ((with_reducible apply Fl.inP_tup); walk_at "ip")
  | ((with_reducible apply Fl.inP_lst); walk_at "ip")
  | ((with_reducible apply Fl.inPs_cons); · walk_at "ip"
     · walk_at "ip"))
section
variable {P : Program} {w : World} {K : PySem.W.Frag} {mg : Str → Option Value} {base : Heap}
abbrev s_law : Stmt := topS 28
theorem sc_law : FnScope ["_law_script", "_law_state", "_law_cell", "_law_sizes", "_law_words_here", "_law_rule_here", "_law_k", "_law_plain_here", "_law_good", "_law_told", "_law_word", "_law_found"] ["_law_script"] (defScope s_law) := ⟨rfl, rfl, rfl, by decide +kernel, rfl, by decide +kernel, by decide +kernel⟩
def sp_law (K : PySem.W.Frag) : Sp1 := fun a H Q _ => ∃ (sc : Addr) (ns : List Int), a = .ref sc ∧ Scr K H sc ns ∧ ∀ H', Q (.bl true) H'
theorem ok_law (M : Mg mg) (G__law_cell_at : Has P w K mg base "_law_cell_at" ["_law_script", "_law_k"] 1 (sp2 (sp_cell_at K))) (G__law_mixed : Has P w K mg base "_law_mixed" ["_law_cell", "_law_k"] 1 (sp2 sp_mixed)) (G__law_next : Has P w K mg base "_law_next" ["_law_state", "_law_size"] 1 (sp2 sp_next))
    (G__law_words : Has P w K mg base "_law_words" ["_law_state"] 2 (sp1 sp_words)) (G__law_rule : Has P w K mg base "_law_rule" ["_law_state", "_law_deep", "_law_seen", "_law_sizes", "_law_words_here"] 11 (sp5 (sp_rule 8))) (G__law_odd : Has P w K mg base "_law_odd" ["_law_state", "_law_rule_here", "_law_sizes"] 2 (sp3 sp_odd)) (G__law_put_in : Has P w K mg base "_law_put_in" ["_law_state", "_law_rule_here", "_law_thing"] 10 (sp3 (sp_put 8)))
    (G__law_is : Has P w K mg base "_law_is" ["_law_thing", "_law_sizes", "_law_deep"] 11 (sp3 (sp_law_is 8))) (G_is_rule : Has P w K mg base "is_rule" ["thing", "lines", "tables", "choices"] 4 (sp4 sp_is_rule)) (G_named : Has P w K mg base "named" ["rule", "word"] 2 (sp2 (sp_law_named 8))) (G__law_named : Has P w K mg base "_law_named" ["_law_rule_here", "_law_word"] 9 (sp2 (sp_law_named 8)))
    (f : Addr) (cdv : Value) (A : Around) (outer : List Env) (s : Shared) (H : Hp) (a : V) (Q : VK) (E : XK) (hr : RoomOf 11 "law" s_law f cdv A s) (h : sp_law K a H Q E) : Body P w K mg base ["_law_script", "_law_state", "_law_cell", "_law_sizes", "_law_words_here", "_law_rule_here", "_law_k", "_law_plain_here", "_law_good", "_law_told", "_law_word", "_law_found"] "law" s_law f cdv A outer s H [a] Q E := by
  refine ⟨_, (pss_cons (ps_set (i := 1) sc_law.nd rfl (by first | exact Or.inl rfl | exact Or.inr rfl) (pe_lst (pa_cons (pe_own G__law_mixed (hr.mono (by first | decide | omega)) (by rfl) p_body (pa_cons (pe_own G__law_cell_at (hr.mono (by first | decide | omega)) (by rfl) p_body (pa_cons (pv 0) (pa_cons pe_int pa_nil))) (pa_cons pe_int pa_nil))) pa_nil)))
    (pss_cons (ps_set (i := 2) sc_law.nd rfl (by first | exact Or.inl rfl | exact Or.inr rfl) (pe_own G__law_mixed (hr.mono (by first | decide | omega)) (by rfl) p_body (pa_cons (pe_own G__law_cell_at (hr.mono (by first | decide | omega)) (by rfl) p_body (pa_cons (pv 0) (pa_cons pe_int pa_nil))) (pa_cons pe_int pa_nil))))
    (pss_cons (ps_set (i := 3) sc_law.nd rfl (by first | exact Or.inl rfl | exact Or.inr rfl) (pe_tup (pa_cons (pe_op (k_add K rfl) pe_int (pe_op o_mod (pv 2) pe_int)) (pa_cons (pe_op o_mod (pe_op o_div (pv 2) pe_int) pe_int) (pa_cons (pe_op o_mod (pe_op o_div (pv 2) pe_int) pe_int) pa_nil)))))
    (pss_cons (ps_set (i := 4) sc_law.nd rfl (by first | exact Or.inl rfl | exact Or.inr rfl) (pe_own G__law_words (hr.mono (by first | decide | omega)) (by rfl) p_body (pa_cons (pv 1) pa_nil)))
    (pss_cons (ps_set (i := 5) sc_law.nd rfl (by first | exact Or.inl rfl | exact Or.inr rfl) (pe_own G__law_rule (hr.mono (by first | decide | omega)) (by rfl) p_body (pa_cons (pv 1) (pa_cons (pe_op (k_add K rfl) pe_int (pe_op o_mod (pe_op o_div (pv 2) pe_int) pe_int)) (pa_cons (pe_listRg rfl (by rfl) M.list (prg_1 (by rfl) M.range (pe_ix (k_ix K rfl) (pv 3) pe_int (fun _ _ => rfl)))) (pa_cons (pv 3) (pa_cons (pv 4) pa_nil)))))))
    (pss_meet (ps_if (pt_cmpR (k_eq K rfl hr) (pe_op o_mod (pe_op o_div (pv 2) pe_int) pe_int) pe_int (nomark _)) (pss_one (ps_set (i := 5) sc_law.nd rfl (by first | exact Or.inl rfl | exact Or.inr rfl) (pe_own G__law_put_in (hr.mono (by first | decide | omega)) (by rfl) p_body (pa_cons (pv 1) (pa_cons (pv 5) (pa_cons (pe_own G__law_odd (hr.mono (by first | decide | omega)) (by rfl) p_body (pa_cons (pv 1) (pa_cons (pv 5) (pa_cons (pv 3) pa_nil)))) pa_nil)))))) pss_nil)
    (pss_meet (ps_if (pt_cmpR (k_eq K rfl hr) (pe_op o_mod (pe_op o_div (pv 2) pe_int) pe_int) pe_int (nomark _)) (pss_one (ps_for own_p (by rfl) (pi_range1 (by rfl) M.range (pa_cons (pe_ix (k_ix K rfl) (pe_lst (pa_cons (pe_own G__law_next (hr.mono (by first | decide | omega)) (by rfl) p_body (pa_cons (pv 1) (pa_cons pe_int pa_nil))) (pa_cons pe_int pa_nil))) (pe_callTy c_int (by rfl) M.int (by decide +kernel) (pa_cons (pe_cmpR (k_eq K rfl hr) (pe_own G__law_next (hr.mono (by first | decide | omega)) (by rfl) p_body (pa_cons (pv 1) (pa_cons pe_int pa_nil))) pe_int (nomark _)) pa_nil)) (fun _ _ => rfl)) pa_nil)) (pg_name (i := 6) sc_law.nd rfl (by first | exact Or.inl rfl | exact Or.inr rfl)) (pss_cons (ps_set (i := 7) sc_law.nd rfl (by first | exact Or.inl rfl | exact Or.inr rfl) (pe_tup (pa_cons pe_str (pa_cons (pv 6) pa_nil))))
    (pss_one (ps_set (i := 5) sc_law.nd rfl (by first | exact Or.inl rfl | exact Or.inr rfl) (pe_ix (k_ix K rfl) (pe_lst (pa_cons (pe_tup (pa_cons pe_str (pa_cons (pv 5) (pa_cons pe_int pa_nil)))) (pa_cons (pe_tup (pa_cons pe_str (pa_cons (pv 7) (pa_cons (pv 5) pa_nil)))) (pa_cons (pe_tup (pa_cons pe_str (pa_cons (pv 7) (pa_cons (pv 5) (pa_cons (pv 7) pa_nil))))) pa_nil)))) (pe_op o_mod (pv 6) pe_int) (fun _ _ => rfl))))))) pss_nil)
    (pss_cons (ps_set (i := 8) sc_law.nd rfl (by first | exact Or.inl rfl | exact Or.inr rfl) (pe_own G__law_is (hr.mono (by first | decide | omega)) (by rfl) p_body (pa_cons (pv 5) (pa_cons (pv 3) (pa_cons pe_int pa_nil)))))
    (pss_cons (ps_set (i := 9) sc_law.nd rfl (by first | exact Or.inl rfl | exact Or.inr rfl) (pe_own G_is_rule (hr.mono (by first | decide | omega)) (by rfl) p_body (pa_cons (pv 5) (pa_cons (pe_ix (k_ix K rfl) (pv 3) pe_int (fun _ _ => rfl)) (pa_cons (pe_ix (k_ix K rfl) (pv 3) pe_int (fun _ _ => rfl)) (pa_cons (pe_ix (k_ix K rfl) (pv 3) pe_int (fun _ _ => rfl)) pa_nil))))))
    (pss_cons (ps_if (PW.pt (pw_or (pt_not (pt_val (pe_callB (k_isi K rfl) (by rfl) M.isinstance (by decide +kernel) (pa_cons (pv 9) (pa_cons (pe_bltn (v := .ty "bool") (by rfl) M.bool (by decide +kernel) rfl) pa_nil))))) (pw_or1 (pt_cmpR (k_ne K rfl hr) (pv 9) (pv 8) (nomark _))))) (pss_one (ps_ret pe_bl)) pss_nil)
    (pss_cons (ps_if (pt_not (pt_val (pv 8))) (pss_one (ps_ret pe_bl)) pss_nil)
    (pss_cons (ps_for own_p (by rfl) (k_pi K rfl (pe_lst (pa_cons pe_str (pa_cons pe_str (pa_cons pe_str (pa_cons pe_str (pa_cons pe_str pa_nil))))))) (pg_name (i := 10) sc_law.nd rfl (by first | exact Or.inl rfl | exact Or.inr rfl)) (pss_cons (ps_set (i := 11) sc_law.nd rfl (by first | exact Or.inl rfl | exact Or.inr rfl) (pe_own G_named (hr.mono (by first | decide | omega)) (by rfl) p_body (pa_cons (pv 5) (pa_cons (pv 10) pa_nil))))
    (pss_one (ps_if (PW.pt (pw_or (pt_not (pt_val (pe_callB (k_isi K rfl) (by rfl) M.isinstance (by decide +kernel) (pa_cons (pv 11) (pa_cons (pe_bltn (v := .ty "list") (by rfl) M.list (by decide +kernel) rfl) pa_nil))))) (pw_or1 (pt_cmpR (k_ne K rfl hr) (pv 11) (pe_own G__law_named (hr.mono (by first | decide | omega)) (by rfl) p_body (pa_cons (pv 5) (pa_cons (pv 10) pa_nil))) (nomark _))))) (pss_one (ps_ret pe_bl)) pss_nil))))
    (pss_one (ps_ret pe_bl)))))))))))))), ?_⟩
  obtain ⟨sc, ns, rfl, hS, q⟩ := h
  refine Fl.go_start (σ0 := [some _, none, none, none, none, none, none, none, none, none, none, none]) rfl ?_
  walk_at "s"
  rename_i za zb zbl zbh st hst zc cell c0 c1 z hz
  have hzst : z ≠ st := fun w => by rw [w, upd_same] at hz; cases hz
  have hst1 : (upd (upd H st (.lst [.int zb])) z (.tup [.int (1 + cell % 40), .int (cell / 40 % 6), .int (cell / 240 % 9)])) st = some (.lst [.int zb]) := by walk_at "hp"
  refine ⟨st, zb, rfl, hst1, fun p H1 ws gs1 hp hpf l1 l8 ow => ?_⟩
  have hps : p ≠ st := fun w => by rw [w, hst1] at hpf; cases hpf
  have hz1 : H1 z = some (.tup [.int (1 + cell % 40), .int (cell / 40 % 6), .int (cell / 240 % 9)]) := gs1.keep _ _ hzst upd_same
  obtain ⟨x1, hx1⟩ := gs1.st
  have hS1 : Scr K H1 sc ns := by walk_at "scr"
  clear gs1 hpf hst1 hz
  have a0 : 0 ≤ cell % 40 := Int.emod_nonneg _ (by decide)
  have a1 : cell % 40 < 40 := Int.emod_lt_of_pos _ (by decide)
  have b0 : 0 ≤ cell / 2160 % 8 := Int.emod_nonneg _ (by decide)
  have b1 : cell / 2160 % 8 < 8 := Int.emod_lt_of_pos _ (by decide)
  walk_at "s"
  intro sn hsn
  walk_at "s"
  obtain ⟨g, hg⟩ : ∃ g : Sg, g = ⟨1 + cell % 40, cell / 40 % 6, cell / 240 % 9, (List.range (1 + cell % 40 - 0).toNat).map fun (i : Nat) => 0 + (i : Int), ws⟩ := ⟨_, rfl⟩
  have hgen : Gen (upd H1 sn (.lst (rgV 0 (1 + cell % 40)))) st sn z p g := by
    subst hg
    refine ⟨⟨x1, by walk_at "hp"⟩, ?_, ?_, by walk_at "hp", by walk_at "hp", hps, l1, by show ws.length ≤ 1000; omega, ?_, by show 1 ≤ 1 + cell % 40; omega⟩
    · rw [upd_same]
      simp [rgV, Function.comp_def]
    · exact fun w => by rw [w, hx1] at hsn; cases hsn
    · show ((List.range (1 + cell % 40 - 0).toNat).map fun (i : Nat) => 0 + (i : Int)).length ≤ 1000
      rw [List.length_map, List.length_range]
      omega
  have hfine : g.Fine := by
    subst hg
    refine ⟨fun w hw => (ow w hw).word, fun k hk => ?_⟩
    obtain ⟨i, hi, rfl⟩ := List.mem_map.mp hk
    have := List.mem_range.mp hi
    exact ⟨by omega, by show 0 + (i : Int) < 1 + cell % 40; omega⟩
  have gpool : g.pool = ws := by rw [hg]
  have gL : g.L = 1 + cell % 40 := by rw [hg]
  have gT : g.T = cell / 40 % 6 := by rw [hg]
  have gC : g.C = cell / 240 % 9 := by rw [hg]
  have hz2 : (upd H1 sn (.lst (rgV 0 (1 + cell % 40)))) z = some (.tup [.int g.L, .int g.T, .int g.C]) := by rw [gL, gT, gC]; walk_at "hp"
  generalize upd H1 sn (.lst (rgV 0 (1 + cell % 40))) = H2 at *
  refine ⟨g, hgen, ⟨by omega, by omega⟩, fun r v H3 gs3 ⟨ro, ra⟩ => ?_⟩
  have ro8 : r.ok g 8 := Rule.ok_mono (by omega) ro
  have hgen3 := hgen.gs gs3
  obtain ⟨x3, hx3⟩ := gs3.st
  have rsz := Rule.sz_le ro8
  have rin : inP (pool2 g) r.d = true := inP_mono (fun t ht => List.mem_append_left _ ht) _ (Rule.inP ro8)
  clear gs3 hgen hz2 hS1 hx1 hz1 hp hsn ro
  walk_at "s"
  refine meet (fun σ' H' => ∃ d v, σ' = [some (.ref sc), some (.ref st), some (.int cell), some (.ref z), some (.ref p), some v, none, none, none, none, none, none] ∧ At H' d v ∧ inP (pool2 g) d = true ∧ sz d ≤ 41000 ∧ Gs st H3 H') ?_ ?_
  · walk_at "s"
    refine if_d (fun c => ?_) (fun c => ?_)
    · walk_at "s"
      refine ⟨st, sn, z, p, g, r, rfl, ra, rfl, hgen3, ro8, fun d2 v2 H4 gs4 ⟨⟨oi, os⟩, oa⟩ => ?_⟩
      obtain ⟨x4, hx4⟩ := gs4.st
      walk_at "s"
      refine ⟨st, x4, g.L, g.T, g.C, r.d, d2, pool2 g, rfl, hx4, ra.le (gs4.le hx3), Rule.isR hfine ro8, rin, oa, oi, by omega, fun d5 v5 H5 gs5 ⟨⟨i5, s5⟩, a5⟩ => ?_⟩
      walk_at "s"
      exact ⟨d5, v5, rfl, a5, i5, by omega, gs4.trans gs5⟩
    · walk_at "s"
      exact ⟨r.d, v, rfl, ra, rin, by omega, Gs.refl hx3⟩
  rintro σ' H4 ⟨d, v4, rfl, a4, i4, s4, gs4⟩
  obtain ⟨x4, hx4⟩ := gs4.st
  have hgen4 := hgen3.gs gs4
  have hz4 := hgen4.sz
  clear gs4 hgen3 hx3 ra
  walk_at "s"
  refine meet (fun σ' H' => ∃ d v y6 y7, σ' = [some (.ref sc), some (.ref st), some (.int cell), some (.ref z), some (.ref p), some v, y6, y7, none, none, none, none] ∧ At H' d v ∧ inP (pool2 g) d = true ∧ sz d ≤ 44000 ∧ Gs st H4 H') ?_ ?_
  · walk_at "s"
    refine if_d (fun c => ?_) (fun c => ?_)
    · walk_at "s"
      rename_i ya ra ra0 ra1 pl hpl yb rb rb0 rb1
      refine ex_pick (fun v => ∃ n : Int, v = .int n ∧ 0 ≤ n ∧ n ≤ 300) (by split <;> omega) (by split <;> simp) (fun v hv => ?_) ?_
      · simp only [List.mem_cons, List.not_mem_nil, or_false] at hv
        rcases hv with rfl | rfl
        · exact ⟨_, rfl, by omega, by omega⟩
        · exact ⟨_, rfl, by decide, by decide⟩
      rintro _ ⟨n, rfl, n0, n1⟩
      walk_at "s"
      refine for_rng (fun i σ' H' => ∃ d v y6 y7, σ' = [some (.ref sc), some (.ref st), some (.int cell), some (.ref z), some (.ref p), some v, y6, y7, none, none, none, none] ∧ At H' d v ∧ inP (pool2 g) d = true ∧ sz d ≤ 41000 + 8 * i ∧ Gs st H4 H') ⟨d, v4, none, none, rfl, by walk_at "at", i4, by omega, by walk_at "gs"⟩ ?_ ?_
      · rintro i σ' H' hi ⟨d', v', y6, y7, rfl, a', i', s', gs'⟩
        obtain ⟨x', hx'⟩ := gs'.st
        walk_at "s"
        rename_i p1 hp1 p2 hp2 p3 hp3 p4 hp4 p5 hp5
        refine ex_pick (fun v => v = .ref p2 ∨ v = .ref p3 ∨ v = .ref p4) (Int.emod_nonneg _ (by decide)) (Int.emod_lt_of_pos _ (by decide)) (fun v hv => by simpa using hv) ?_
        rintro v (rfl | rfl | rfl)
        · walk_at "s"
          exact ⟨.tuple [.str "part", d', .int 7], _, _, _, rfl, by walk_at "at2", by walk_at "ip", by simp only [sz, szAll]; omega, by walk_at "gs"⟩
        · walk_at "s"
          exact ⟨.tuple [.str "add", .tuple [.str "number", .int (0 + i)], d'], _, _, _, rfl, by walk_at "at2", by walk_at "ip", by simp only [sz, szAll]; omega, by walk_at "gs"⟩
        · walk_at "s"
          exact ⟨.tuple [.str "where", .tuple [.str "number", .int (0 + i)], d', .tuple [.str "number", .int (0 + i)]], _, _, _, rfl, by walk_at "at2", by walk_at "ip", by simp only [sz, szAll]; omega, by walk_at "gs"⟩
      · rintro σ' H' ⟨d', v', y6, y7, rfl, a', i', s', gs'⟩
        exact ⟨d', v', y6, y7, rfl, a', i', by omega, gs'⟩
    · walk_at "s"
      exact ⟨d, v4, none, none, rfl, a4, i4, by omega, Gs.refl hx4⟩
  rintro σ' H5 ⟨d5, v5, y6, y7, rfl, a5, i5, s5, gs5⟩
  have hz5 := (hgen4.gs gs5).sz
  obtain ⟨x5, hx5⟩ := gs5.st
  clear gs5 hgen4 hx4 a4 i4 s4 hz4
  have pok := pool2_ok (g := g) (by rw [gpool]; exact ow)
  have plen := pool2_len (g := g) (by rw [gpool]; exact l8)
  have ok5 := inP_ok pok d5 i5
  walk_at "s"
  refine ⟨_, _, _, hz5, fun H6 sm6 => ?_⟩
  have a6 := a5.le (Same.le sm6)
  have hz6 := sm6 _ _ hz5
  clear a5 hz5 hx5
  walk_at "s"
  refine ⟨d5, g.L, g.T, g.C, a6, ⟨ok5, by omega⟩, rfl, rfl, rfl, fun H7 sm7 => ?_⟩
  have a7 := a6.le (Same.le sm7)
  clear a6 hz6 sm6
  walk_at "s"
  cases hR : isR g.L g.T g.C 8 d5 with
  | false =>
    walk_at "s"
    exact q _
  | true =>
    walk_at "s"
    rename_i wl hwl
    refine for_lst (fun i σ' H' => ∃ y10 y11, σ' = [some (.ref sc), some (.ref st), some (.int cell), some (.ref z), some (.ref p), some v5, y6, y7, some (.bl true), some (.bl true), y10, y11] ∧ Same H7 H' ∧ H' wl = some (.lst [.str "line", .str "earlier", .str "paper", .str "table", .str "choose"]))
      upd_same ⟨none, none, rfl, by walk_at "sm", upd_same⟩ (fun i σ' H' _ ⟨_, _, _, _, e⟩ => e) ?_ ?_
    · rintro i x σ' H' ex ⟨y10, y11, rfl, sm, hw⟩
      have hx : ∃ b w, x = .str w ∧ fiveW b w := by
        have hm := List.mem_of_getElem? ex
        simp only [List.mem_cons, List.not_mem_nil, or_false] at hm
        rcases hm with rfl | rfl | rfl | rfl | rfl
        · exact ⟨false, _, rfl, .inr ⟨rfl, .inl rfl⟩⟩
        · exact ⟨false, _, rfl, .inr ⟨rfl, .inr (.inl rfl)⟩⟩
        · exact ⟨true, _, rfl, .inl ⟨rfl, rfl⟩⟩
        · exact ⟨false, _, rfl, .inr ⟨rfl, .inr (.inr (.inl rfl))⟩⟩
        · exact ⟨false, _, rfl, .inr ⟨rfl, .inr (.inr (.inr rfl))⟩⟩
      obtain ⟨b, w', rfl, hf⟩ := hx
      have vok := vals_ok hf hR
      have hP : Pool b (vals w' 8 d5) := fun hb => by
        subst hb
        refine ⟨(pool2 g).map V.str, by rw [List.length_map]; exact plen, fun v hv => ?_⟩
        obtain ⟨s1, rfl⟩ := vok v hv
        exact List.mem_map.mpr ⟨s1, vals_in 8 d5 i5 _ hv s1 rfl, rfl⟩
      walk_at "s"
      refine ⟨d5, g.L, g.T, g.C, w', b, a7.le (Same.le sm), ok5, by omega, hR, rfl, hf, hP, fun p1 H8 ys sm8 e8 cn => ?_⟩
      walk_at "s"
      refine ⟨d5, g.L, g.T, g.C, w', b, a7.le (Same.le (L2.Same.trans sm sm8)), ok5, by omega, hR, rfl, hf, hP, fun p2 H9 ys2 sm9 e9 cn2 => ?_⟩
      have ey := cn2.eq cn
      subst ey
      walk_at "s"
      refine ne_k cn.ok (fun s1 h1 => pok s1 (vals_in 8 d5 i5 _ ((cn.mem _).mp h1) s1 rfl)) (sm9 _ _ e8) e9 ?_
      walk_at "s"
      exact ⟨_, _, rfl, L2.Same.trans sm (L2.Same.trans sm8 sm9), by walk_at "hp"⟩
    · rintro σ' H' ⟨y10, y11, rfl, sm, hw⟩
      walk_at "s"
      exact q _
end
end Fl

-- after: r15.tpl
namespace Fl
open PySem PySem.Spec PyProof.Rows L2 RZ
/-! ### the end -/
theorem defAt_mk {K : PySem.W.Frag} {h : Heap} {mg : Str → Option Value} {x : Str} {st : Stmt} {ps : List Str} {f : Addr} {oc : Value} {od an : Option Addr} {osl : Array (Option Value)} {kV doc pm cdv ct : Value} (X : K.In h) (G : h.Ns mainGlobals mg)
    (a : PySem.W.nsIn K mainGlobals x = some (some (.ref f))) (l : K.lookup f = some ⟨oc, od, .func (PySem.W.fnOf x x (defArgs st) (defBody st) (defScope st) .none kV doc pm an cdv ct), osl⟩) (c : PySem.W.codeIn K cdv x = true) (k : PySem.W.keepIn K (.ref f) = true)
    (b : ∀ (kV doc pm : Value) (an : Option Addr) (cdv ct : Value) (us : List Value), us.length = ps.length → bindArgs (PySem.W.fnOf x x (defArgs st) (defBody st) (defScope st) .none kV doc pm an cdv ct) ⟨us, []⟩ = pure (ps.zip us)) : DefAt K mg x st ps :=
  ⟨f, _, fun_mk l c k, PySem.W.mg_of X G a, (fun_mk l c k).binds b⟩
theorem law_fn {P : Program} {w : World} {K : PySem.W.Frag} {mg : Str → Option Value} {base : Heap} {x p1 : Str} {st : Stmt} {N : List Str} {fa : Addr} {fd : FuncData} {k : Nat} {g : Sp1} (F : Fun K x x st fa fd) (S : FnScope N [p1] (defScope st))
    (hb : ∀ f cdv A outer s H a Q E, RoomOf k x st f cdv A s → g a H Q E → Body P w K mg base N x st f cdv A outer s H [a] Q E) : FnOk P w K mg base (L2.CX P w) (k + 1) fa fd [p1] (sp1 g) :=
  F.okX S (fun vs H Q E ⟨a, e, _⟩ => by rw [e]; rfl) fun cdv A outer s H vs Q E hr ⟨a, e, h⟩ => by subst e; exact hb _ cdv A outer s H a Q E hr h
theorem all_mk {P : Program} {w : World} {K : PySem.W.Frag} {h : Heap} {mg : Str → Option Value} {fa : Addr} (X : K.In h) (G : h.Ns mainGlobals mg) (hfa : mg "law" = some (.ref fa))
    {t_GREATEST : Tok} (k_GREATEST : PySem.W.nsIn K mainGlobals "GREATEST" = some (some (.int 1000000000 t_GREATEST)))
    {t_DEEPEST : Tok} (k_DEEPEST : PySem.W.nsIn K mainGlobals "DEEPEST" = some (some (.int 8 t_DEEPEST)))
    {t_LONGEST : Tok} (k_LONGEST : PySem.W.nsIn K mainGlobals "LONGEST" = some (some (.int 8 t_LONGEST)))
    {t_LETTERS : Tok} (k_LETTERS : PySem.W.nsIn K mainGlobals "LETTERS" = some (some (.str "abcdefghijklmnopqrstuvwxyz" t_LETTERS)))
    (z_all : PySem.W.nsIn K mainGlobals "all" = some none)
    (z_any : PySem.W.nsIn K mainGlobals "any" = some none)
    (z_bool : PySem.W.nsIn K mainGlobals "bool" = some none)
    (z_dict : PySem.W.nsIn K mainGlobals "dict" = some none)
    (z_int : PySem.W.nsIn K mainGlobals "int" = some none)
    (z_isinstance : PySem.W.nsIn K mainGlobals "isinstance" = some none)
    (z_len : PySem.W.nsIn K mainGlobals "len" = some none)
    (z_list : PySem.W.nsIn K mainGlobals "list" = some none)
    (z_max : PySem.W.nsIn K mainGlobals "max" = some none)
    (z_min : PySem.W.nsIn K mainGlobals "min" = some none)
    (z_range : PySem.W.nsIn K mainGlobals "range" = some none)
    (z_reversed : PySem.W.nsIn K mainGlobals "reversed" = some none)
    (z_sorted : PySem.W.nsIn K mainGlobals "sorted" = some none)
    (z_str : PySem.W.nsIn K mainGlobals "str" = some none)
    (z_sum : PySem.W.nsIn K mainGlobals "sum" = some none)
    (z_tuple : PySem.W.nsIn K mainGlobals "tuple" = some none)
    (z_zip : PySem.W.nsIn K mainGlobals "zip" = some none)
    (D_is_whole : DefAt K mg "is_whole" s_is_whole ["thing", "least", "most"])
    (D_is_number : DefAt K mg "is_number" s_is_number ["thing"])
    (D_is_word : DefAt K mg "is_word" s_is_word ["thing"])
    (D_is_plain : DefAt K mg "is_plain" s_is_plain ["rule", "lines"])
    (D_places_of : DefAt K mg "places_of" s_places_of ["rule", "tables", "choices"])
    (D_is_rule : DefAt K mg "is_rule" s_is_rule ["thing", "lines", "tables", "choices"])
    (D_inner_rules : DefAt K mg "inner_rules" s_inner_rules ["rule"])
    (D_named : DefAt K mg "named" s_named ["rule", "word"])
    (D__law_cell_at : DefAt K mg "_law_cell_at" s__law_cell_at ["_law_script", "_law_k"])
    (D__law_mixed : DefAt K mg "_law_mixed" s__law_mixed ["_law_cell", "_law_k"])
    (D__law_next : DefAt K mg "_law_next" s__law_next ["_law_state", "_law_size"])
    (D__law_number : DefAt K mg "_law_number" s__law_number ["_law_state"])
    (D__law_whole : DefAt K mg "_law_whole" s__law_whole ["_law_found"])
    (D__law_words : DefAt K mg "_law_words" s__law_words ["_law_state"])
    (D__law_plain : DefAt K mg "_law_plain" s__law_plain ["_law_state", "_law_seen", "_law_sizes", "_law_words_here"])
    (D__law_rule : DefAt K mg "_law_rule" s__law_rule ["_law_state", "_law_deep", "_law_seen", "_law_sizes", "_law_words_here"])
    (D__law_is_word : DefAt K mg "_law_is_word" s__law_is_word ["_law_thing"])
    (D__law_is : DefAt K mg "_law_is" s__law_is ["_law_thing", "_law_sizes", "_law_deep"])
    (D__law_odd : DefAt K mg "_law_odd" s__law_odd ["_law_state", "_law_rule_here", "_law_sizes"])
    (D__law_put_in : DefAt K mg "_law_put_in" s__law_put_in ["_law_state", "_law_rule_here", "_law_thing"])
    (D__law_named : DefAt K mg "_law_named" s__law_named ["_law_rule_here", "_law_word"])
    {f0 : Addr} {oc : Value} {od an : Option Addr} {osl : Array (Option Value)} {kV doc pm cdv ct : Value} (a0 : PySem.W.nsIn K mainGlobals "law" = some (some (.ref f0))) (l0 : K.lookup f0 = some ⟨oc, od, .func (PySem.W.fnOf "law" "law" (defArgs s_law) (defBody s_law) (defScope s_law) .none kV doc pm an cdv ct), osl⟩) (c0 : PySem.W.codeIn K cdv "law" = true) (k0 : PySem.W.keepIn K (.ref f0) = true) :
    ∃ fd : FuncData, (∀ (s : Shared) (u : Value), BindsTo s fd ⟨[u], []⟩ [("_law_script", u)]) ∧ ∀ base : Heap, K.In base → base.Ns mainGlobals mg → FnOk P w K mg base (L2.CX P w) 12 fa fd ["_law_script"] (sp1 (sp_law K)) := by
  cases hfa.symm.trans (PySem.W.mg_of X G a0)
  have F := fun_mk (st := s_law) l0 c0 k0
  have M : Mg mg := ⟨PySem.W.mg_none_of X G z_all, PySem.W.mg_none_of X G z_any, PySem.W.mg_none_of X G z_bool, PySem.W.mg_none_of X G z_dict, PySem.W.mg_none_of X G z_int, PySem.W.mg_none_of X G z_isinstance, PySem.W.mg_none_of X G z_len, PySem.W.mg_none_of X G z_list, PySem.W.mg_none_of X G z_max, PySem.W.mg_none_of X G z_min, PySem.W.mg_none_of X G z_range, PySem.W.mg_none_of X G z_reversed, PySem.W.mg_none_of X G z_sorted, PySem.W.mg_none_of X G z_str, PySem.W.mg_none_of X G z_sum, PySem.W.mg_none_of X G z_tuple, PySem.W.mg_none_of X G z_zip⟩
  have c_GREATEST : ∃ t, mg "GREATEST" = some (.int 1000000000 t) := ⟨_, PySem.W.mg_of X G k_GREATEST⟩
  have c_DEEPEST : ∃ t, mg "DEEPEST" = some (.int 8 t) := ⟨_, PySem.W.mg_of X G k_DEEPEST⟩
  have c_LONGEST : ∃ t, mg "LONGEST" = some (.int 8 t) := ⟨_, PySem.W.mg_of X G k_LONGEST⟩
  have c_LETTERS : ∃ t, mg "LETTERS" = some (.str "abcdefghijklmnopqrstuvwxyz" t) := ⟨_, PySem.W.mg_of X G k_LETTERS⟩
  refine ⟨PySem.W.fnOf "law" "law" (defArgs s_law) (defBody s_law) (defScope s_law) .none kV doc pm an cdv ct, fun s v => .of_eq rfl, fun base _ _ => ?_⟩
  have g_is_whole := ok_is_whole (P := P) (w := w) (base := base) M D_is_whole
  have g_is_number := ok_is_number (P := P) (w := w) (base := base) M c_GREATEST g_is_whole D_is_number
  have g_is_word := ok_is_word (P := P) (w := w) (base := base) M c_LONGEST c_LETTERS D_is_word
  have g_is_plain := ok_is_plain (P := P) (w := w) (base := base) M g_is_whole g_is_number g_is_word D_is_plain
  have g_places_of := ok_places_of (P := P) (w := w) (base := base) M g_is_whole D_places_of
  have g_is_rule := ok_is_rule (P := P) (w := w) (base := base) M c_DEEPEST g_places_of g_is_plain D_is_rule
  have g_inner_rules := ok_inner_rules (P := P) (w := w) (base := base) M D_inner_rules
  have g_named := ok_named (P := P) (w := w) (base := base) M g_inner_rules D_named
  have g__law_cell_at := ok_cell_at (P := P) (w := w) (base := base) M D__law_cell_at
  have g__law_mixed := ok_mixed (P := P) (w := w) (base := base) M D__law_mixed
  have g__law_next := ok_next (P := P) (w := w) (base := base) M D__law_next
  have g__law_number := ok_number (P := P) (w := w) (base := base) M g__law_next D__law_number
  have g__law_whole := ok_whole (P := P) (w := w) (base := base) M D__law_whole
  have g__law_words := ok_words (P := P) (w := w) (base := base) M g__law_next D__law_words
  have g__law_plain := ok_plain (P := P) (w := w) (base := base) M g__law_next g__law_number D__law_plain
  have g__law_rule := ok_rule (P := P) (w := w) (base := base) M g__law_next g__law_plain D__law_rule 8
  have g__law_is_word := ok_law_is_word (P := P) (w := w) (base := base) M D__law_is_word
  have g__law_is := ok_law_is (P := P) (w := w) (base := base) M g__law_whole g__law_is_word D__law_is 8
  have g__law_odd := ok_odd (P := P) (w := w) (base := base) M g__law_next D__law_odd
  have g__law_put_in := ok_put (P := P) (w := w) (base := base) M g__law_next D__law_put_in 8
  have g__law_named := ok_law_named (P := P) (w := w) (base := base) M D__law_named 8
  exact law_fn F sc_law (ok_law M g__law_cell_at g__law_mixed g__law_next g__law_words g__law_rule g__law_odd g__law_put_in g__law_is g_is_rule g_named g__law_named)
end Fl
open PySem PySem.W PyProof.Rows
set_option maxRecDepth 100000 in
set_option maxHeartbeats 0 in
theorem PySem.Challenge.cw_formlines_k02_rules_holds : PySem.Challenge.rw_formlines_k02_rules.Holds := by
  w_on; o_law; k_head; (case hw => w_witness2)
  k_fill
  refine L2.walk_of (l := PySem.Challenge.rw_formlines_k02_rules) (n := 63) (k := 12) (x := "_law_script") (CX := fun w => L2.CX PySem.Challenge.rw_formlines_k02_rules.prog w) (sp := fun w => Fl.sp1 (Fl.sp_law _)) rfl (by decide) rfl ⟨rfl, by decide, by decide⟩ (fun w h Y => PySem.W.kIn_of Y) ?F (fun w H a ns hl ho hS => ⟨_, rfl, a, ns, rfl, Fl.Scr.of ho hS, fun _ => rfl⟩) (fun _ _ _ _ _ ⟨_, _, _, _, _, _, _, _, _, _, _, _, z⟩ => z)
  case F =>
    intro w mg fa h KX G hmg
    refine' Fl.all_mk KX G hmg ?k_GREATEST
      ?k_DEEPEST
      ?k_LONGEST
      ?k_LETTERS
      ?z_all
      ?z_any
      ?z_bool
      ?z_dict
      ?z_int
      ?z_isinstance
      ?z_len
      ?z_list
      ?z_max
      ?z_min
      ?z_range
      ?z_reversed
      ?z_sorted
      ?z_str
      ?z_sum
      ?z_tuple
      ?z_zip
      (Fl.defAt_mk KX G ?a_is_whole ?l_is_whole ?c_is_whole ?k_is_whole (fun _ _ _ _ _ _ us hl => match us, hl with | [_, _, _], _ => rfl))
      (Fl.defAt_mk KX G ?a_is_number ?l_is_number ?c_is_number ?k_is_number (fun _ _ _ _ _ _ us hl => match us, hl with | [_], _ => rfl))
      (Fl.defAt_mk KX G ?a_is_word ?l_is_word ?c_is_word ?k_is_word (fun _ _ _ _ _ _ us hl => match us, hl with | [_], _ => rfl))
      (Fl.defAt_mk KX G ?a_is_plain ?l_is_plain ?c_is_plain ?k_is_plain (fun _ _ _ _ _ _ us hl => match us, hl with | [_, _], _ => rfl))
      (Fl.defAt_mk KX G ?a_places_of ?l_places_of ?c_places_of ?k_places_of (fun _ _ _ _ _ _ us hl => match us, hl with | [_, _, _], _ => rfl))
      (Fl.defAt_mk KX G ?a_is_rule ?l_is_rule ?c_is_rule ?k_is_rule (fun _ _ _ _ _ _ us hl => match us, hl with | [_, _, _, _], _ => rfl))
      (Fl.defAt_mk KX G ?a_inner_rules ?l_inner_rules ?c_inner_rules ?k_inner_rules (fun _ _ _ _ _ _ us hl => match us, hl with | [_], _ => rfl))
      (Fl.defAt_mk KX G ?a_named ?l_named ?c_named ?k_named (fun _ _ _ _ _ _ us hl => match us, hl with | [_, _], _ => rfl))
      (Fl.defAt_mk KX G ?a__law_cell_at ?l__law_cell_at ?c__law_cell_at ?k__law_cell_at (fun _ _ _ _ _ _ us hl => match us, hl with | [_, _], _ => rfl))
      (Fl.defAt_mk KX G ?a__law_mixed ?l__law_mixed ?c__law_mixed ?k__law_mixed (fun _ _ _ _ _ _ us hl => match us, hl with | [_, _], _ => rfl))
      (Fl.defAt_mk KX G ?a__law_next ?l__law_next ?c__law_next ?k__law_next (fun _ _ _ _ _ _ us hl => match us, hl with | [_, _], _ => rfl))
      (Fl.defAt_mk KX G ?a__law_number ?l__law_number ?c__law_number ?k__law_number (fun _ _ _ _ _ _ us hl => match us, hl with | [_], _ => rfl))
      (Fl.defAt_mk KX G ?a__law_whole ?l__law_whole ?c__law_whole ?k__law_whole (fun _ _ _ _ _ _ us hl => match us, hl with | [_], _ => rfl))
      (Fl.defAt_mk KX G ?a__law_words ?l__law_words ?c__law_words ?k__law_words (fun _ _ _ _ _ _ us hl => match us, hl with | [_], _ => rfl))
      (Fl.defAt_mk KX G ?a__law_plain ?l__law_plain ?c__law_plain ?k__law_plain (fun _ _ _ _ _ _ us hl => match us, hl with | [_, _, _, _], _ => rfl))
      (Fl.defAt_mk KX G ?a__law_rule ?l__law_rule ?c__law_rule ?k__law_rule (fun _ _ _ _ _ _ us hl => match us, hl with | [_, _, _, _, _], _ => rfl))
      (Fl.defAt_mk KX G ?a__law_is_word ?l__law_is_word ?c__law_is_word ?k__law_is_word (fun _ _ _ _ _ _ us hl => match us, hl with | [_], _ => rfl))
      (Fl.defAt_mk KX G ?a__law_is ?l__law_is ?c__law_is ?k__law_is (fun _ _ _ _ _ _ us hl => match us, hl with | [_, _, _], _ => rfl))
      (Fl.defAt_mk KX G ?a__law_odd ?l__law_odd ?c__law_odd ?k__law_odd (fun _ _ _ _ _ _ us hl => match us, hl with | [_, _, _], _ => rfl))
      (Fl.defAt_mk KX G ?a__law_put_in ?l__law_put_in ?c__law_put_in ?k__law_put_in (fun _ _ _ _ _ _ us hl => match us, hl with | [_, _, _], _ => rfl))
      (Fl.defAt_mk KX G ?a__law_named ?l__law_named ?c__law_named ?k__law_named (fun _ _ _ _ _ _ us hl => match us, hl with | [_, _], _ => rfl))
      ?a0
      ?l0
      ?c0
      ?k0
    (case k_GREATEST => k_is)
    (case k_DEEPEST => k_is)
    (case k_LONGEST => k_is)
    (case k_LETTERS => k_is)
    (case z_all => k_is)
    (case z_any => k_is)
    (case z_bool => k_is)
    (case z_dict => k_is)
    (case z_int => k_is)
    (case z_isinstance => k_is)
    (case z_len => k_is)
    (case z_list => k_is)
    (case z_max => k_is)
    (case z_min => k_is)
    (case z_range => k_is)
    (case z_reversed => k_is)
    (case z_sorted => k_is)
    (case z_str => k_is)
    (case z_sum => k_is)
    (case z_tuple => k_is)
    (case z_zip => k_is)
    (case a_is_whole => k_is)
    (case l_is_whole => k_is)
    (case c_is_whole => k_is)
    (case k_is_whole => k_is)
    (case a_is_number => k_is)
    (case l_is_number => k_is)
    (case c_is_number => k_is)
    (case k_is_number => k_is)
    (case a_is_word => k_is)
    (case l_is_word => k_is)
    (case c_is_word => k_is)
    (case k_is_word => k_is)
    (case a_is_plain => k_is)
    (case l_is_plain => k_is)
    (case c_is_plain => k_is)
    (case k_is_plain => k_is)
    (case a_places_of => k_is)
    (case l_places_of => k_is)
    (case c_places_of => k_is)
    (case k_places_of => k_is)
    (case a_is_rule => k_is)
    (case l_is_rule => k_is)
    (case c_is_rule => k_is)
    (case k_is_rule => k_is)
    (case a_inner_rules => k_is)
    (case l_inner_rules => k_is)
    (case c_inner_rules => k_is)
    (case k_inner_rules => k_is)
    (case a_named => k_is)
    (case l_named => k_is)
    (case c_named => k_is)
    (case k_named => k_is)
    (case a__law_cell_at => k_is)
    (case l__law_cell_at => k_is)
    (case c__law_cell_at => k_is)
    (case k__law_cell_at => k_is)
    (case a__law_mixed => k_is)
    (case l__law_mixed => k_is)
    (case c__law_mixed => k_is)
    (case k__law_mixed => k_is)
    (case a__law_next => k_is)
    (case l__law_next => k_is)
    (case c__law_next => k_is)
    (case k__law_next => k_is)
    (case a__law_number => k_is)
    (case l__law_number => k_is)
    (case c__law_number => k_is)
    (case k__law_number => k_is)
    (case a__law_whole => k_is)
    (case l__law_whole => k_is)
    (case c__law_whole => k_is)
    (case k__law_whole => k_is)
    (case a__law_words => k_is)
    (case l__law_words => k_is)
    (case c__law_words => k_is)
    (case k__law_words => k_is)
    (case a__law_plain => k_is)
    (case l__law_plain => k_is)
    (case c__law_plain => k_is)
    (case k__law_plain => k_is)
    (case a__law_rule => k_is)
    (case l__law_rule => k_is)
    (case c__law_rule => k_is)
    (case k__law_rule => k_is)
    (case a__law_is_word => k_is)
    (case l__law_is_word => k_is)
    (case c__law_is_word => k_is)
    (case k__law_is_word => k_is)
    (case a__law_is => k_is)
    (case l__law_is => k_is)
    (case c__law_is => k_is)
    (case k__law_is => k_is)
    (case a__law_odd => k_is)
    (case l__law_odd => k_is)
    (case c__law_odd => k_is)
    (case k__law_odd => k_is)
    (case a__law_put_in => k_is)
    (case l__law_put_in => k_is)
    (case c__law_put_in => k_is)
    (case k__law_put_in => k_is)
    (case a__law_named => k_is)
    (case l__law_named => k_is)
    (case c__law_named => k_is)
    (case k__law_named => k_is)
    (case a0 => k_is)
    (case l0 => k_is)
    (case c0 => k_is)
    (case k0 => k_is)

