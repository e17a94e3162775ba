import PyProof.Rows.All
import Wide.All
import OpenK.AllK
import Wide.FinOn
import PyProof.EqAt
import PyProof.EqKinds
import PyProof.TupleCall
import HandS.ForMost
import HandS.ForExc
import HandS.IsInst
import HandS.TupAny
import HandS.Zip
import HandS.SortInts
import HandS.SortRule
import HandS.Deep
import HandS.Conv
import HandS.Flow
import HandS.More
import HandS.SetFor
import PySem.Challenge.RW_formlines_k01_tables
set_option Elab.async false
set_option linter.all false
set_option maxRecDepth 100000
set_option maxHeartbeats 1000000
set_option Elab.async false
set_option linter.all false
set_option maxRecDepth 100000
set_option maxHeartbeats 4000000
/-! a small layer over HandS: one rule for each operator whatever the kinds, steps through readings, heaps that grow -/
namespace Fl
open PySem PySem.Spec PyProof.Rows L2
abbrev Ctx0 := L2.Cx

/-! ### what stands at the module's top -/
/-- the built-in names that no text here binds -/
structure Mg (mg : Str → Option Value) : Prop where
  all : mg "all" = none
  any : mg "any" = none
  bool : mg "bool" = none
  dict : mg "dict" = none
  int : mg "int" = none
  isinstance : mg "isinstance" = none
  len : mg "len" = none
  list : mg "list" = none
  max : mg "max" = none
  min : mg "min" = none
  range : mg "range" = none
  reversed : mg "reversed" = none
  sorted : mg "sorted" = none
  str : mg "str" = none
  sum : mg "sum" = none
  tuple : mg "tuple" = none
  zip : mg "zip" = none
/-- a def of the text at its place -/
structure DefAt (K : PySem.W.Frag) (mg : Str → Option Value) (x : Str) (st : Stmt) (ps : List Str) : Prop where
  ex : ∃ (f : Addr) (fd : FuncData), Fun K x x st f fd ∧ mg x = some (.ref f) ∧ Binds K fd ps []
/-- a def that may be called, by its promise -/
structure Has (P : Program) (w : World) (K : PySem.W.Frag) (mg : Str → Option Value) (base : Heap) (x : Str) (ps : List Str) (k : Nat) (sp : Sp) : Prop where
  ex : ∃ (f : Addr) (fd : FuncData), FnOk P w K mg base (L2.CX P w) k f fd ps sp ∧ mg x = some (.ref f) ∧ PySem.W.keepIn K (.ref f) = true ∧ Binds K fd ps []
section
variable {P : Program} {w : World} {K : PySem.W.Frag} {mg : Str → Option Value} {base : Heap} {x : Str} {st : Stmt} {N ps : List Str} {k j : Nat} {sp sp' : Sp}
theorem Has.mono (h : Has P w K mg base x ps j sp) (l : j ≤ k) : Has P w K mg base x ps k sp := by
  obtain ⟨f, fd, F, a, b, c⟩ := h.ex
  exact ⟨f, fd, F.mono l, a, b, c⟩
theorem Has.imp (h : Has P w K mg base x ps k sp) (i : ∀ vs H Q E, sp' vs H Q E → sp vs H Q E) : Has P w K mg base x ps k sp' := by
  obtain ⟨f, fd, F, a, b, c⟩ := h.ex
  exact ⟨f, fd, F.imp i, a, b, c⟩
/-- the body's context -/
abbrev cx (P : Program) (w : World) (K : PySem.W.Frag) (mg : Str → Option Value) (base : Heap) (N : List Str) (x : Str) (st : Stmt) (f : Addr) (cdv : Value) (A : Around) (outer : List Env) (s : Shared) (H : Hp) (E : XK) : L2.Cx :=
  cxOf (L2.CX P w) P w K mg base N x (defScope st) f cdv A outer s H E
theorem Has.mk' (D : DefAt K mg x st ps) (S : FnScope N ps (defScope st)) (len : ∀ vs H Q E, sp vs H Q E → vs.length = ps.length)
    (hbody : ∀ (f : Addr) (cdv : Value) (A : Around) (outer : List Env) (s : Shared) (H : Hp) (vs : List V) (Q : VK) (E : XK), Room k (A.deeper (envOfC x (defScope st) s.heap.objs.size f cdv)) → sp vs H Q E →
      ∃ t, PSs (cx P w K mg base N x st f cdv A outer s H E) (defBody st) t ∧ t { nx := fun _ H' => Q .non H', rt := Q } (start N vs) H) : Has P w K mg base x ps (k + 1) sp := by
  obtain ⟨f, fd, F, hm, hb⟩ := D.ex
  exact ⟨f, fd, F.okX S len (fun cdv A outer s H vs Q E hr h => hbody f cdv A outer s H vs Q E hr h), hm, F.kp, hb⟩
/-- promises by arity -/
abbrev Sp1 := V → Hp → VK → XK → Prop
abbrev Sp2 := V → V → Hp → VK → XK → Prop
abbrev Sp3 := V → V → V → Hp → VK → XK → Prop
abbrev Sp4 := V → V → V → V → Hp → VK → XK → Prop
abbrev Sp5 := V → V → V → V → V → Hp → VK → XK → Prop
abbrev Sp7 := V → V → V → V → V → V → V → Hp → VK → XK → Prop
def sp1 (g : Sp1) : Sp := fun vs H Q E => ∃ a, vs = [a] ∧ g a H Q E
def sp2 (g : Sp2) : Sp := fun vs H Q E => ∃ a b, vs = [a, b] ∧ g a b H Q E
def sp3 (g : Sp3) : Sp := fun vs H Q E => ∃ a b c, vs = [a, b, c] ∧ g a b c H Q E
def sp4 (g : Sp4) : Sp := fun vs H Q E => ∃ a b c d, vs = [a, b, c, d] ∧ g a b c d H Q E
def sp5 (g : Sp5) : Sp := fun vs H Q E => ∃ a b c d e, vs = [a, b, c, d, e] ∧ g a b c d e H Q E
def sp7 (g : Sp7) : Sp := fun vs H Q E => ∃ a b c d e f i, vs = [a, b, c, d, e, f, i] ∧ g a b c d e f i H Q E
/-- the room that a body of level k has -/
abbrev RoomOf (k : Nat) (x : Str) (st : Stmt) (f : Addr) (cdv : Value) (A : Around) (s : Shared) : Prop := Room k (A.deeper (envOfC x (defScope st) s.heap.objs.size f cdv))
abbrev Body (P : Program) (w : World) (K : PySem.W.Frag) (mg : Str → Option Value) (base : Heap) (N : List Str) (x : Str) (st : Stmt) (f : Addr) (cdv : Value) (A : Around) (outer : List Env) (s : Shared) (H : Hp) (vs : List V) (Q : VK) (E : XK) : Prop :=
  ∃ t, PSs (cx P w K mg base N x st f cdv A outer s H E) (defBody st) t ∧ t { nx := fun _ H' => Q .non H', rt := Q } (start N vs) H
theorem Has.mk1 {g : Sp1} {p1 : Str} (D : DefAt K mg x st [p1]) (S : FnScope N [p1] (defScope st))
    (hb : ∀ f cdv A outer s H a Q E, RoomOf k x st f cdv A s → g a H Q E → Body P w K mg base N x st f cdv A outer s H [a] Q E) : Has P w K mg base x [p1] (k + 1) (sp1 g) :=
  .mk' D S (fun vs H Q E ⟨a, e, _⟩ => by rw [e]; rfl) fun f cdv A outer s H vs Q E hr ⟨a, e, h⟩ => by subst e; exact hb f cdv A outer s H a Q E hr h
theorem Has.mk2 {g : Sp2} {p1 p2 : Str} (D : DefAt K mg x st [p1, p2]) (S : FnScope N [p1, p2] (defScope st))
    (hb : ∀ f cdv A outer s H a b Q E, RoomOf k x st f cdv A s → g a b H Q E → Body P w K mg base N x st f cdv A outer s H [a, b] Q E) : Has P w K mg base x [p1, p2] (k + 1) (sp2 g) :=
  .mk' D S (fun vs H Q E ⟨a, b, e, _⟩ => by rw [e]; rfl) fun f cdv A outer s H vs Q E hr ⟨a, b, e, h⟩ => by subst e; exact hb f cdv A outer s H a b Q E hr h
theorem Has.mk3 {g : Sp3} {p1 p2 p3 : Str} (D : DefAt K mg x st [p1, p2, p3]) (S : FnScope N [p1, p2, p3] (defScope st))
    (hb : ∀ f cdv A outer s H a b c Q E, RoomOf k x st f cdv A s → g a b c H Q E → Body P w K mg base N x st f cdv A outer s H [a, b, c] Q E) : Has P w K mg base x [p1, p2, p3] (k + 1) (sp3 g) :=
  .mk' D S (fun vs H Q E ⟨a, b, c, e, _⟩ => by rw [e]; rfl) fun f cdv A outer s H vs Q E hr ⟨a, b, c, e, h⟩ => by subst e; exact hb f cdv A outer s H a b c Q E hr h
theorem Has.mk4 {g : Sp4} {p1 p2 p3 p4 : Str} (D : DefAt K mg x st [p1, p2, p3, p4]) (S : FnScope N [p1, p2, p3, p4] (defScope st))
    (hb : ∀ f cdv A outer s H a b c d Q E, RoomOf k x st f cdv A s → g a b c d H Q E → Body P w K mg base N x st f cdv A outer s H [a, b, c, d] Q E) : Has P w K mg base x [p1, p2, p3, p4] (k + 1) (sp4 g) :=
  .mk' D S (fun vs H Q E ⟨a, b, c, d, e, _⟩ => by rw [e]; rfl) fun f cdv A outer s H vs Q E hr ⟨a, b, c, d, e, h⟩ => by subst e; exact hb f cdv A outer s H a b c d Q E hr h
theorem Has.mk5 {g : Sp5} {p1 p2 p3 p4 p5 : Str} (D : DefAt K mg x st [p1, p2, p3, p4, p5]) (S : FnScope N [p1, p2, p3, p4, p5] (defScope st))
    (hb : ∀ f cdv A outer s H a b c d e Q E, RoomOf k x st f cdv A s → g a b c d e H Q E → Body P w K mg base N x st f cdv A outer s H [a, b, c, d, e] Q E) : Has P w K mg base x [p1, p2, p3, p4, p5] (k + 1) (sp5 g) :=
  .mk' D S (fun vs H Q E ⟨a, b, c, d, e, z, _⟩ => by rw [z]; rfl) fun f cdv A outer s H vs Q E hr ⟨a, b, c, d, e, z, h⟩ => by subst z; exact hb f cdv A outer s H a b c d e Q E hr h
theorem Has.mk7 {g : Sp7} {p1 p2 p3 p4 p5 p6 p7 : Str} (D : DefAt K mg x st [p1, p2, p3, p4, p5, p6, p7]) (S : FnScope N [p1, p2, p3, p4, p5, p6, p7] (defScope st))
    (hb : ∀ f cdv A outer s H a b c d e i j Q E, RoomOf k x st f cdv A s → g a b c d e i j H Q E → Body P w K mg base N x st f cdv A outer s H [a, b, c, d, e, i, j] Q E) : Has P w K mg base x [p1, p2, p3, p4, p5, p6, p7] (k + 1) (sp7 g) :=
  .mk' D S (fun vs H Q E ⟨a, b, c, d, e, i, j, z, _⟩ => by rw [z]; rfl) fun f cdv A outer s H vs Q E hr ⟨a, b, c, d, e, i, j, z, h⟩ => by subst z; exact hb f cdv A outer s H a b c d e i j Q E hr h
/-- nothing is asked where no call is left -/
theorem Has.none_left {sp : Sp} (D : DefAt K mg x st ps) (no : ∀ vs H Q E, ¬ sp vs H Q E) : Has P w K mg base x ps k sp := by
  obtain ⟨f, fd, F, hm, hb⟩ := D.ex
  exact ⟨f, fd, ⟨fun vs H Q E h => absurd h (no vs H Q E), fun A outer s H args us vs Q E _ _ _ _ h => absurd h (no vs H Q E)⟩, hm, F.kp, hb⟩
end

/-! ### calls of own defs -/
section
variable {X : L2.Cx} {x : Str} {ps : List Str} {k : Nat} {sp : Sp} {E : XK} {p pos : Pos} {e : Expr} {es : List Expr} {t : TA}
def tCallO (sp : Sp) (E : XK) (t : TA) : TE := fun σ H Q => t σ H fun vs H1 => sp vs H1 Q E
theorem pe_own (h : Has X.prog X.w X.K X.mg X.base x ps k sp) (hr : Room k X.A) (hg : Gl X x) (hx : Passes (L2.CX X.prog X.w) X E)
    (ha : PA X (e :: es) t) (hdb : (x == ("__debug__" : Str)) = false := by decide) (he : starEach (e :: es) X.env = (false, eval e X.env) :: starEach es X.env := by rfl) (hpl : (backTo pos (starEach es X.env)).any (·.1) = false := by rfl) :
    PE X (.Call (.Name x p) (e :: es) [] pos) (tCallO sp E t) := by
  obtain ⟨f, fd, F, hm, hk, hb⟩ := h.ex
  have q := pe_call (sp := sp) (p := p) (pos := pos) F hr hg hm hk hb .nil hx ha hdb he hpl
  refine ⟨fun pins s σ H Q I w => q.run pins s σ H Q I ?_⟩
  have e2 : (fun (vs : List V) (H1 : Hp) => sp (vs ++ []) H1 Q E) = fun vs H1 => sp vs H1 Q E := by
    funext vs H1
    rw [List.append_nil]
  show t σ H (fun vs H1 => sp (vs ++ []) H1 Q E)
  rw [e2]
  exact w
/-- a whole number, a text of the module -/
theorem pe_gi {c : Int} (hg : Gl X x) (h : ∃ t, X.mg x = some (.int c t)) (hd : (x == ("__debug__" : Str)) = false := by decide) : PE X (.Name x pos) (tC (.int c)) := by
  obtain ⟨t, h⟩ := h
  exact pe_glob hg h ⟨t, rfl⟩ hd
theorem pe_gs {c : Str} (hg : Gl X x) (h : ∃ t, X.mg x = some (.str c t)) (hd : (x == ("__debug__" : Str)) = false := by decide) : PE X (.Name x pos) (tC (.str c)) := by
  obtain ⟨t, h⟩ := h
  exact pe_glob hg h ⟨t, rfl⟩ hd
end

/-! ### ways that meet behind a statement -/
def tCutF (t u : TS) : TS := fun D σ H => ∃ M : L2.St → Hp → Prop, t ⟨M, D.rt, D.bk, D.ct⟩ σ H ∧ ∀ σ' H', M σ' H' → u D σ' H'
theorem pss_meet {X : L2.Cx} {st : Stmt} {rest : List Stmt} {t u : TS} (h1 : PS X st t) (h2 : PSs X rest u) : PSs X (st :: rest) (tCutF t u) := by
  refine ⟨fun pins s σ H D I ⟨M, a, b⟩ => wpAny_execs_cons (thn (h1.run pins s σ H ⟨M, D.rt, D.bk, D.ct⟩ I a) fun f s1 q => ?_)⟩
  cases f with
  | next =>
    obtain ⟨σ', H', I', q⟩ := q
    exact h2.run pins s1 σ' H' D I' (b σ' H' q)
  | ret v => exact q
  | brk => exact q
  | cont => exact q

/-! ### one rule for an operator -/
section
variable {X : L2.Cx}
def uAdd (K : PySem.W.Frag) : R2 := fun x y H Q => match x, y with
  | .int i, .int j => Q (.int (i + j)) H
  | .str i, .str j => i.length + j.length ≤ sizeLine ∧ Q (.str (i ++ j)) H
  | .ref a, .ref b => rCat (.ref a) (.ref b) H Q ∨ rCatA K (.ref a) (.ref b) H Q
  | _, _ => False
theorem o_add : OpR X (binaryOp .Add) (uAdd X.K) := by
  intro pins s σ H x y v u Q I rx ry h
  cases x <;> cases y <;> first | exact h.elim | skip
  · exact op_add pins s σ H _ _ v u Q I rx ry ⟨_, _, rfl, rfl, h⟩
  · exact op_add_str pins s σ H _ _ v u Q I rx ry ⟨_, _, rfl, rfl, h⟩
  · rcases h with h | h
    · exact op_cat pins s σ H _ _ v u Q I rx ry h
    · exact op_catA pins s σ H _ _ v u Q I rx ry h
def uSub : R2 := fun x y H Q => match x, y with
  | .int i, .int j => Q (.int (i - j)) H
  | _, _ => False
theorem o_sub : OpR X (binaryOp .Sub) uSub := by
  intro pins s σ H x y v u Q I rx ry h
  cases x <;> cases y <;> first | exact h.elim | skip
  exact op_sub pins s σ H _ _ v u Q I rx ry ⟨_, _, rfl, rfl, h⟩
def uMul : R2 := fun x y H Q => match x, y with
  | .int i, .int j => CMul i j ∧ Q (.int (i * j)) H
  | .ref a, .int k => rRep (.ref a) (.int k) H Q
  | _, _ => False
theorem o_mul : OpR X (binaryOp .Mult) uMul := by
  intro pins s σ H x y v u Q I rx ry h
  cases x <;> cases y <;> first | exact h.elim | skip
  · exact op_mul pins s σ H _ _ v u Q I rx ry ⟨_, _, rfl, rfl, h.1, h.2⟩
  · exact op_rep pins s σ H _ _ v u Q I rx ry h
def uDiv : R2 := fun x y H Q => match x, y with
  | .int i, .int j => CDiv i j ∧ Q (.int (i / j)) H
  | _, _ => False
theorem o_div : OpR X (binaryOp .FloorDiv) uDiv := by
  intro pins s σ H x y v u Q I rx ry h
  cases x <;> cases y <;> first | exact h.elim | skip
  exact op_fdiv pins s σ H _ _ v u Q I rx ry ⟨_, _, rfl, rfl, h.1, h.2⟩
def uMod : R2 := fun x y H Q => match x, y with
  | .int i, .int j => 0 < j ∧ Q (.int (i % j)) H
  | _, _ => False
theorem o_mod : OpR X (binaryOp .Mod) uMod := by
  intro pins s σ H x y v u Q I rx ry h
  cases x <;> cases y <;> first | exact h.elim | skip
  exact op_mod pins s σ H _ _ v u Q I rx ry ⟨_, _, rfl, rfl, h.1, h.2⟩
def uPow : R2 := fun x y H Q => match x, y with
  | .int i, .int j => CPow i j ∧ Q (.int (i ^ j.toNat)) H
  | _, _ => False
theorem o_pow : OpR X (binaryOp .Pow) uPow := by
  intro pins s σ H x y v u Q I rx ry h
  cases x <;> cases y <;> first | exact h.elim | skip
  exact op_pow pins s σ H _ _ v u Q I rx ry ⟨_, _, rfl, rfl, h.1, h.2⟩
def uNeg : V → Hp → VK → Prop := fun x H Q => match x with
  | .int i => Q (.int (-i)) H
  | _ => False
theorem o_neg : UnR X (unaryOp .USub) uNeg := by
  intro pins s σ H x v Q I rx h
  cases x <;> first | exact h.elim | skip
  exact un_neg pins s σ H _ v Q I rx ⟨_, rfl, h⟩
def uCmp (p : Int → Int → Bool) : R2 := fun x y H Q => match x, y with
  | .int i, .int j => Q (.bl (p i j)) H
  | _, _ => False
abbrev uLt : R2 := uCmp fun i j => decide (i < j)
abbrev uLe : R2 := uCmp fun i j => decide (i ≤ j)
abbrev uGt : R2 := uCmp fun i j => decide (j < i)
abbrev uGe : R2 := uCmp fun i j => decide (j ≤ i)
theorem o_lt : OpR X (compareOp .Lt) uLt := by
  intro pins s σ H x y v u Q I rx ry h
  cases x <;> cases y <;> first | exact h.elim | skip
  exact op_lt pins s σ H _ _ v u Q I rx ry ⟨_, _, rfl, rfl, h⟩
theorem o_le : OpR X (compareOp .LtE) uLe := by
  intro pins s σ H x y v u Q I rx ry h
  cases x <;> cases y <;> first | exact h.elim | skip
  exact op_le pins s σ H _ _ v u Q I rx ry ⟨_, _, rfl, rfl, h⟩
theorem o_gt : OpR X (compareOp .Gt) uGt := by
  intro pins s σ H x y v u Q I rx ry h
  cases x <;> cases y <;> first | exact h.elim | skip
  exact op_gt pins s σ H _ _ v u Q I rx ry ⟨_, _, rfl, rfl, h⟩
theorem o_ge : OpR X (compareOp .GtE) uGe := by
  intro pins s σ H x y v u Q I rx ry h
  cases x <;> cases y <;> first | exact h.elim | skip
  exact op_ge pins s σ H _ _ v u Q I rx ry ⟨_, _, rfl, rfl, h⟩
/-- ==, != : plain values by themselves, else data at any depth -/
def uEq (K : PySem.W.Frag) : R2 := fun x y H Q => rEq x y H Q ∨ rEqD K x y H Q
def uNe (K : PySem.W.Frag) : R2 := fun x y H Q => rNe x y H Q ∨ rNeD K x y H Q
theorem o_eq {k : Nat} (hr : Room k X.A) : OpR X (compareOp .Eq) (uEq X.K) := op_eq.or (op_eqD hr.units)
theorem o_ne {k : Nat} (hr : Room k X.A) : OpR X (compareOp .NotEq) (uNe X.K) := op_ne.or (op_neD hr.units)
def uIn (K : PySem.W.Frag) : R2 := fun x y H Q => match y with
  | .str j => ∃ i, x = .str i ∧ Q (.bl (!(Builtin.Str.occurrences j i 0 j.length 1).isEmpty)) H
  | _ => rIn K false x y H Q ∨ rInD K x y H Q
def uNotIn (K : PySem.W.Frag) : R2 := fun x y H Q => match y with
  | .str j => ∃ i, x = .str i ∧ Q (.bl (!(!(Builtin.Str.occurrences j i 0 j.length 1).isEmpty))) H
  | _ => rIn K true x y H Q ∨ rNotInD K x y H Q
theorem Room.units65 {k : Nat} {A : Around} (r : Room k A) : A.units + 65 < cLine := by have := r.un; omega
theorem o_in {k : Nat} (hr : Room k X.A) : OpR X (compareOp .In) (uIn X.K) := by
  intro pins s σ H x y v u Q I rx ry h
  have go : rIn X.K false x y H Q ∨ rInD X.K x y H Q → wpAny (model X.prog X.w) X.A (compareOp .In v u) (EP X pins σ Q) X.xe s := fun h => by
    rcases h with h | h
    · exact op_in_seq pins s σ H _ _ v u Q I rx ry h
    · exact op_inD (Room.units65 hr) pins s σ H _ _ v u Q I rx ry h
  cases y with
  | str j =>
    obtain ⟨i, e, q⟩ := h
    exact op_in_str pins s σ H _ _ v u Q I rx ry ⟨_, _, e, rfl, q⟩
  | _ => exact go h
theorem o_notin {k : Nat} (hr : Room k X.A) : OpR X (compareOp .NotIn) (uNotIn X.K) := by
  intro pins s σ H x y v u Q I rx ry h
  have go : rIn X.K true x y H Q ∨ rNotInD X.K x y H Q → wpAny (model X.prog X.w) X.A (compareOp .NotIn v u) (EP X pins σ Q) X.xe s := fun h => by
    rcases h with h | h
    · exact op_notIn_seq pins s σ H _ _ v u Q I rx ry h
    · exact op_notInD (Room.units65 hr) pins s σ H _ _ v u Q I rx ry h
  cases y with
  | str j =>
    obtain ⟨i, e, q⟩ := h
    exact op_notin_str pins s σ H _ _ v u Q I rx ry ⟨_, _, e, rfl, q⟩
  | _ => exact go h
/-- len -/
def uLen (K : PySem.W.Frag) : List V → Hp → VK → Prop := fun xs H Q => ∃ x n, xs = [x] ∧ LenV K x H n ∧ Q (.int n) H
theorem c_len : CallR X (.builtin "len") (uLen X.K) := call_len
/-- slices -/
def uSl (K : PySem.W.Frag) : V → Option Int → Option Int → Hp → VK → Prop := fun x lo hi H Q => rSlL K x lo hi H Q ∨ rSlA K x lo hi H Q ∨ ∃ z, x = .str z ∧ z.length ≤ sizeLine ∧ Q (.str (cutS z lo hi)) H
theorem sl_any : SlR X (uSl X.K) := sl_list.or (sl_tupA.or sl_str)
/-- a list, a tuple that is walked -/
def uIter (K : PySem.W.Frag) (tl : TE) : TI := fun σ H R => tl σ H fun x H1 => ∃ a, x = .ref a ∧ (((∃ xs, SqL K H1 a xs) ∧ R (Itl K a) H1) ∨ ((∃ xs, SqT K H1 a xs) ∧ R (Itt K a) H1))
theorem pi_any {tg l : Expr} {tl : TE} (hl : PE X l tl) : PI X tg l (uIter X.K tl) := by
  refine ⟨fun pins s σ H R I h => ?_⟩
  refine thn (hl.run pins s σ H _ I h) fun v s1 ⟨x, H1, I1, r1, q1⟩ => ?_
  obtain ⟨a, e, q1⟩ := q1
  subst e
  cases r1
  rcases q1 with ⟨⟨xs, hq⟩, q⟩ | ⟨⟨xs, hq⟩, q⟩
  · obtain ⟨its, rv, p, hz⟩ := I1.list hq
    refine wpAny_pyIter_list p.isList ?_
    refine ⟨s1.heap.objs.size, [s1.heap.objs.size], _, _, H1, rfl, I1.kept (t' := s1.toks) fun b o e => Heap.get?_push_of_some _ e, turn_list a _, ⟨_, Heap.get?_push_size _ rfl, rfl, rfl⟩, fun b hb => ?_, q⟩
    have e : b = s1.heap.objs.size := by simpa using hb
    subst e
    exact I1.fpOk (Nat.le_refl _) (I1.hok.fresh (Nat.le_refl _))
  · obtain ⟨its, rv, p, hz⟩ := I1.tuple hq
    refine wpAny_pyIter_tuple (show s1.heap.IsTuple a its.toArray from p) ?_
    refine ⟨s1.heap.objs.size, [s1.heap.objs.size], _, _, H1, rfl, I1.kept (t' := s1.toks) fun b o e => Heap.get?_push_of_some _ e, turn_tuple a _, ⟨_, Heap.get?_push_size _ rfl, rfl, rfl⟩, fun b hb => ?_, q⟩
    have e : b = s1.heap.objs.size := by simpa using hb
    subst e
    exact I1.fpOk (Nat.le_refl _) (I1.hok.fresh (Nat.le_refl _))
/-- int(x), of a number or a truth -/
def uInt : List V → Hp → VK → Prop := fun xs H Q => match xs with
  | [.int i] => Q (.int i) H
  | [.bl k] => Q (.int (if k then 1 else 0)) H
  | _ => False
theorem c_int : CallR X (.type "int") uInt := by
  intro pins s σ H xs us Q I r h
  unfold uInt at h
  split at h
  · exact call_int1 pins s σ H _ us Q I r (.inl ⟨_, rfl, h⟩)
  · exact call_int1 pins s σ H _ us Q I r (.inr ⟨_, rfl, h⟩)
  · exact h.elim
end

/-! the same with the written part told -/
section
variable (K : PySem.W.Frag) {X : L2.Cx} (h : X.K = K)
include h
theorem k_add : OpR X (binaryOp .Add) (uAdd K) := by subst h; exact o_add
theorem k_eq {k : Nat} (hr : Room k X.A) : OpR X (compareOp .Eq) (uEq K) := by subst h; exact o_eq hr
theorem k_ne {k : Nat} (hr : Room k X.A) : OpR X (compareOp .NotEq) (uNe K) := by subst h; exact o_ne hr
theorem k_in {k : Nat} (hr : Room k X.A) : OpR X (compareOp .In) (uIn K) := by subst h; exact o_in hr
theorem k_notin {k : Nat} (hr : Room k X.A) : OpR X (compareOp .NotIn) (uNotIn K) := by subst h; exact o_notin hr
theorem k_ix : IxR X (rIx K) := by subst h; exact ix_seq
theorem k_len : CallR X (.builtin "len") (uLen K) := by subst h; exact c_len
theorem k_sl : SlR X (uSl K) := by subst h; exact sl_any
theorem k_isi : CallR X (.builtin "isinstance") (rIsi K) := by subst h; exact call_isi
theorem k_all (hc : X.calm = true) : CallR X (.builtin "all") (rAll K) := by subst h; exact cr_all hc
theorem k_any (hc : X.calm = true) : CallR X (.builtin "any") (rAny K) := by subst h; exact cr_any hc
theorem k_sum (hc : X.calm = true) : CallR X (.builtin "sum") (rSum K) := by subst h; exact cr_sum hc
theorem k_max (hc : X.calm = true) : CallR X (.builtin "max") (rMax K) := by subst h; exact cr_max hc
theorem k_min (hc : X.calm = true) : CallR X (.builtin "min") (rMin K) := by subst h; exact cr_min hc
theorem k_sortI : CallR X (.builtin "sorted") (rSortedI K) := by subst h; exact cr_sortedI
theorem k_sortS : CallR X (.builtin "sorted") (rSortedS K) := by subst h; exact cr_sortedS
theorem k_sortPO : CallR X (.builtin "sorted") (rSortedPO K) := by subst h; exact cr_sortedPO
/-- tuple(x), list(x) -/
def uTup (K : PySem.W.Frag) : List V → Hp → VK → Prop := fun xs H Q => ∃ p ys, xs = [.ref p] ∧ ((SqL K H p ys ∧ ∀ l, H l = none → Q (.ref l) (upd H l (.tup ys))) ∨ (SqT K H p ys ∧ Q (.ref p) H))
def uLst (K : PySem.W.Frag) : List V → Hp → VK → Prop := fun xs H Q => ∃ p ys, xs = [.ref p] ∧ (SqL K H p ys ∨ SqT K H p ys) ∧ ∀ l, H l = none → Q (.ref l) (upd H l (.lst ys))
theorem k_tuple : CallR X (.type "tuple") (uTup K) := by subst h; exact call_tuple_of
theorem k_list : CallR X (.type "list") (uLst K) := by subst h; exact call_list_of
theorem k_pi {tg l : Expr} {tl : TE} (hl : PE X l tl) : PI X tg l (uIter K tl) := by subst h; exact pi_any hl
theorem k_zip {e e2 : Expr} {ta : TA} {p pos tpos : Pos} {elts : List Expr} {kk : Nat} (hg : Gl X "zip") (hm : X.mg "zip" = none) (ha : PA X [e, e2] ta)
    (hs : starEach [e, e2] X.env = (false, eval e X.env) :: starEach [e2] X.env := by rfl) (hpl : (backTo pos (starEach [e2] X.env)).any (·.1) = false := by rfl) :
    PI X (.Tuple elts kk tpos) (.Call (.Name "zip" p) [e, e2] [] pos) (RZ.iZipA K ta) := by subst h; exact RZ.pi_zipA hg hm ha hs hpl
theorem k_fld {e : Expr} {f : Str} {ta : TE} {pos : Pos} (he : PE X e ta) (hb : attributeBase e f X.env (eval e X.env) = eval e X.env) : PE X (.Attribute e f pos) (tFld K ta f) := by subst h; exact pe_fld he hb
theorem k_bm0 {o : Expr} {to : TE} {name : Str} {apos cpos : Pos} {T id : String} {r : V → List V → Hp → VK → Prop} (pa : PlainAttrs T) (slot : Slot T name id) (hty : typeOf (.builtin id) = pure (.type "method_descriptor")) (hm : MtR X id r) (ho : PE X o to)
    (hbase : attributeBase o name X.env (eval o X.env) = eval o X.env := by rfl) (hline : (apos.endLine == cpos.line) = true := by rfl) : PE X (.Call (.Attribute o name apos) [] [] cpos) (tBM0 K T r to) := by subst h; exact pe_bm0 pa slot hty hm ho hbase hline
theorem k_bm {o e : Expr} {es : List Expr} {to : TE} {t : TA} {name : Str} {apos cpos : Pos} {T id : String} {r : V → List V → Hp → VK → Prop} (pa : PlainAttrs T) (slot : Slot T name id) (hty : typeOf (.builtin id) = pure (.type "method_descriptor")) (hm : MtR X id r) (ho : PE X o to) (ha : PA X (e :: es) t)
    (hbase : attributeBase o name X.env (eval o X.env) = eval o X.env := by rfl)
    (hfew : ((backTo cpos (starEach (e :: es) X.env)).all (fun x => !x.1) && (backToKw cpos (keywordEach [] X.env)).all (fun x => x.1.isSome)
      && decide ((e :: es).length + ([] : List Keyword).length + (if ([] : List Keyword).isEmpty then 0 else 1) < 30)) = true := by rfl)
    (hline : (apos.endLine == cpos.line) = true := by rfl) (hs : starEach (e :: es) X.env = (false, eval e X.env) :: starEach es X.env := by rfl) (hplain : (backTo cpos (starEach es X.env)).any (·.1) = false := by rfl) :
    PE X (.Call (.Attribute o name apos) (e :: es) [] cpos) (tBM K T r to t) := by subst h; exact pe_bm pa slot hty hm ho ha hbase hfew hline hs hplain
end
end Fl

set_option Elab.async false
set_option linter.all false
set_option maxRecDepth 100000
set_option maxHeartbeats 4000000
/-! steps through readings; heaps; data -/
namespace Fl
open PySem PySem.Spec PyProof.Rows L2

/-! ### steps: each reading is what it says -/
section
variable {σ : L2.St} {H : Hp} {D : Ends} {i : Nat} {v x y : V} {Q : VK} {te ta tb tl th : TE} {t u : TS} {c : TT} {g : TG} {K : PySem.W.Frag} {r : R2}
theorem r_seq (h : t { D with nx := u D } σ H) : tSeq t u D σ H := h
theorem r_set (h : te σ H fun x H1 => D.nx (σ.set i (some x)) H1) : tAsg te (gName i) D σ H := h
theorem r_asg (h : te σ H fun x H1 => g x σ H1 D.nx) : tAsg te g D σ H := h
theorem r_if (h : c σ H fun b H1 => if b = true then t D σ H1 else u D σ H1) : tIfS c t u D σ H := h
theorem r_ret (h : te σ H D.rt) : tRet te D σ H := h
theorem r_retN (h : D.rt .non H) : tRetN D σ H := h
theorem r_next (h : D.nx σ H) : tNext D σ H := h
theorem r_brk (h : D.bk σ H) : tBreak D σ H := h
theorem r_cont (h : D.ct σ H) : tCont D σ H := h
theorem r_drop (h : te σ H fun _ H1 => D.nx σ H1) : tDrop te D σ H := h
theorem r_var (e : σ[i]? = some (some v)) (h : Q v H) : tVar i σ H Q := ⟨v, e, h⟩
theorem r_c (h : Q v H) : tC v σ H Q := h
theorem r_op (h : ta σ H fun x H1 => tb σ H1 fun y H2 => r x y H2 Q) : tOp r ta tb σ H Q := h
theorem r_un {r : V → Hp → VK → Prop} (h : ta σ H fun x H1 => r x H1 Q) : tUn r ta σ H Q := h
theorem r_chain {r r' : R2} {tc : TE} (h : ta σ H fun x H1 => tb σ H1 fun y H2 => r x y H2 fun z H3 => ∃ k, z = .bl k ∧ if k = true then tc σ H3 fun w H4 => r' y w H4 Q else Q (.bl false) H3) : tChain r r' ta tb tc σ H Q := h
theorem r_test {Q : Bool → Hp → Prop} (h : te σ H fun x H' => ∃ k, x = .bl k ∧ Q k H') : tTest te σ H Q := h
theorem r_tB {Q : Bool → Hp → Prop} (h : te σ H fun x H1 => ∃ c, x = .bl c ∧ Q c H1) : tB te σ H Q := h
theorem r_and {t u : TT} {Q : Bool → Hp → Prop} (h : t σ H fun c H1 => if c = true then u σ H1 Q else Q false H1) : tAnd t u σ H Q := h
theorem r_or {t u : TT} {Q : Bool → Hp → Prop} (h : t σ H fun c H1 => if c = true then Q true H1 else u σ H1 Q) : tOr t u σ H Q := h
theorem r_not {t : TT} {Q : Bool → Hp → Prop} (h : t σ H fun c H1 => Q (!c) H1) : tNot t σ H Q := h
theorem r_andV (h : ta σ H fun x H1 => ∃ c, x = .bl c ∧ if c = true then tb σ H1 Q else Q (.bl false) H1) : tAndV ta tb σ H Q := h
theorem r_orV (h : ta σ H fun x H1 => ∃ c, x = .bl c ∧ if c = true then Q (.bl true) H1 else tb σ H1 Q) : tOrV ta tb σ H Q := h
theorem r_notV (h : ta σ H fun x H1 => ∃ c, x = .bl c ∧ Q (.bl (!c)) H1) : tNotV ta σ H Q := h
theorem r_ifE {t : TT} (h : t σ H fun c H1 => if c = true then ta σ H1 Q else tb σ H1 Q) : tIf t ta tb σ H Q := h
theorem r_nil {Q : List V → Hp → Prop} (h : Q [] H) : tNil σ H Q := h
theorem r_cons {tr : TA} {Q : List V → Hp → Prop} (h : te σ H fun x H1 => tr σ H1 fun xs H2 => Q (x :: xs) H2) : tCons te tr σ H Q := h
theorem r_cb {r : List V → Hp → VK → Prop} {a : TA} (h : a σ H fun vs H1 => r vs H1 Q) : tCB r a σ H Q := h
theorem r_own {sp : Sp} {E : XK} {a : TA} (h : a σ H fun vs H1 => sp vs H1 Q E) : tCallO sp E a σ H Q := h
theorem r_tup {a : TA} (h : a σ H fun xs H1 => xs.length ≤ sizeLine ∧ ∀ p, H1 p = none → Q (.ref p) (upd H1 p (.tup xs))) : tTup a σ H Q := h
theorem r_lst {a : TA} (h : a σ H fun xs H1 => xs.length ≤ sizeLine ∧ ∀ p, H1 p = none → Q (.ref p) (upd H1 p (.lst xs))) : tLst a σ H Q := h
theorem r_sl {r : V → Option Int → Option Int → Hp → VK → Prop} {a b : TO} (h : te σ H fun x H1 => a σ H1 fun l H2 => b σ H2 fun u H3 => r x l u H3 Q) : tSl r te a b σ H Q := h
theorem r_noPart {Q : Option Int → Hp → Prop} (h : Q none H) : tNoPart σ H Q := h
theorem r_part {Q : Option Int → Hp → Prop} (h : te σ H fun x H1 => ∃ i, x = .int i ∧ Q (some i) H1) : tPart te σ H Q := h
theorem r_bm {T : String} {r : V → List V → Hp → VK → Prop} {a : TA} (h : ta σ H fun x H1 => tyV K T x H1 ∧ a σ H1 fun xs H2 => r x xs H2 Q) : tBM K T r ta a σ H Q := h
theorem r_bm0 {T : String} {r : V → List V → Hp → VK → Prop} (h : ta σ H fun x H1 => tyV K T x H1 ∧ r x [] H1 Q) : tBM0 K T r ta σ H Q := h
-- the operators
theorem q_addI {i j : Int} (h : Q (.int (i + j)) H) : uAdd K (.int i) (.int j) H Q := h
theorem q_addS {i j : Str} (l : i.length + j.length ≤ sizeLine) (h : Q (.str (i ++ j)) H) : uAdd K (.str i) (.str j) H Q := ⟨l, h⟩
theorem q_addL {a b : Addr} {xs zs : List V} (ha : H a = some (.lst xs)) (hb : H b = some (.lst zs)) (l : xs.length + zs.length ≤ sizeLine) (h : ∀ p, H p = none → Q (.ref p) (upd H p (.lst (xs ++ zs)))) : uAdd K (.ref a) (.ref b) H Q :=
  .inl ⟨a, b, xs, zs, rfl, rfl, ha, hb, l, h⟩
theorem q_addT {a b : Addr} {xs zs : List V} (ha : H a = some (.tup xs)) (hb : H b = some (.tup zs)) (l : xs.length + zs.length ≤ sizeLine) (h0 : xs = [] → Q (.ref b) H) (h1 : xs ≠ [] → zs = [] → Q (.ref a) H)
    (h : xs ≠ [] → zs ≠ [] → ∀ p, H p = none → Q (.ref p) (upd H p (.tup (xs ++ zs)))) : uAdd K (.ref a) (.ref b) H Q :=
  .inr ⟨a, b, xs, zs, rfl, rfl, .of ha, .of hb, l, h0, h1, h⟩
theorem q_sub {i j : Int} (h : Q (.int (i - j)) H) : uSub (.int i) (.int j) H Q := h
theorem q_mul {i j : Int} (l : CMul i j) (h : Q (.int (i * j)) H) : uMul (.int i) (.int j) H Q := ⟨l, h⟩
theorem q_div {i j : Int} (l : CDiv i j) (h : Q (.int (i / j)) H) : uDiv (.int i) (.int j) H Q := ⟨l, h⟩
theorem q_mod {i j : Int} (l : 0 < j) (h : Q (.int (i % j)) H) : uMod (.int i) (.int j) H Q := ⟨l, h⟩
theorem q_pow {i j : Int} (l : CPow i j) (h : Q (.int (i ^ j.toNat)) H) : uPow (.int i) (.int j) H Q := ⟨l, h⟩
theorem q_neg {i : Int} (h : Q (.int (-i)) H) : uNeg (.int i) H Q := h
theorem q_cmp {p : Int → Int → Bool} {i j : Int} (h : Q (.bl (p i j)) H) : uCmp p (.int i) (.int j) H Q := h
theorem q_eq (l : scal x y = true) (h : Q (.bl (decide (x = y))) H) : uEq K x y H Q := .inl ⟨l, h⟩
theorem q_ne (l : scal x y = true) (h : Q (.bl (!decide (x = y))) H) : uNe K x y H Q := .inl ⟨l, h⟩
theorem q_ixL {a : Addr} {xs : List V} {i : Int} (ha : H a = some (.lst xs)) (e : atI xs i = some v) (h : Q v H) : rIx K (.ref a) (.int i) H Q := .inl ⟨a, xs, i, v, rfl, rfl, .of ha, e, h⟩
theorem q_ixT {a : Addr} {xs : List V} {i : Int} (ha : H a = some (.tup xs)) (e : atI xs i = some v) (h : Q v H) : rIx K (.ref a) (.int i) H Q := .inr (.inl ⟨a, xs, i, v, rfl, rfl, .of ha, e, h⟩)
theorem q_ixS {z : Str} {i : Int} {c : Nat} (l : z.length ≤ sizeLine) (e : atI z.cps.toList i = some c) (h : Q (.str ⟨#[c]⟩) H) : rIx K (.str z) (.int i) H Q := .inr (.inr ⟨z, i, c, rfl, rfl, l, e, h⟩)
theorem q_lenL {a : Addr} {xs : List V} (ha : H a = some (.lst xs)) (h : Q (.int xs.length) H) : uLen K [.ref a] H Q := ⟨_, _, rfl, .inl ⟨_, .of ha, rfl⟩, h⟩
theorem q_lenT {a : Addr} {xs : List V} (ha : H a = some (.tup xs)) (h : Q (.int xs.length) H) : uLen K [.ref a] H Q := ⟨_, _, rfl, .inr ⟨_, .of ha, rfl⟩, h⟩
theorem q_lenS {z : Str} (l : z.length ≤ sizeLine) (h : Q (.int z.length) H) : uLen K [.str z] H Q := ⟨_, _, rfl, ⟨l, rfl⟩, h⟩
theorem q_intI {i : Int} (h : Q (.int i) H) : uInt [.int i] H Q := h
theorem q_intB {k : Bool} (h : Q (.int (if k then 1 else 0)) H) : uInt [.bl k] H Q := h
theorem q_isi {T T' : String} {b : Bool} (t : TyX K H x (.type T)) (e : kitB T T' = some b) (h : Q (.bl b) H) : rIsi K [x, .ty T'] H Q := ⟨x, .ty T', .type T, .type T', b, rfl, .ty _, t, kit_ty e, h⟩
-- ifs whose answer is known
theorem if_t {b : Bool} {A B : Prop} (e : b = true) (h : A) : if b = true then A else B := by rw [if_pos e]; exact h
theorem if_f {b : Bool} {A B : Prop} (e : b = false) (h : B) : if b = true then A else B := by rw [e]; exact iteF h
theorem if_dt {p : Prop} [Decidable p] {A B : Prop} (e : p) (h : A) : if decide p = true then A else B := by rw [decide_eq_true e]; exact iteT h
theorem if_df {p : Prop} [Decidable p] {A B : Prop} (e : ¬ p) (h : B) : if decide p = true then A else B := by rw [decide_eq_false e]; exact iteF h
theorem if_nt {p : Prop} [Decidable p] {A B : Prop} (e : ¬ p) (h : A) : if (!decide p) = true then A else B := by rw [decide_eq_false e]; exact iteT h
theorem if_nf {p : Prop} [Decidable p] {A B : Prop} (e : p) (h : B) : if (!decide p) = true then A else B := by rw [decide_eq_true e]; exact iteF h
/-- both ways of a test -/
theorem if_d {p : Prop} [Decidable p] {A B : Prop} (h1 : p → A) (h2 : ¬ p → B) : if decide p = true then A else B := by
  by_cases e : p
  · exact if_dt e (h1 e)
  · exact if_df e (h2 e)
theorem if_n {p : Prop} [Decidable p] {A B : Prop} (h1 : ¬ p → A) (h2 : p → B) : if (!decide p) = true then A else B := by
  by_cases e : p
  · exact if_nf e (h2 e)
  · exact if_nt e (h1 e)
theorem if_b {b : Bool} {A B : Prop} (h1 : b = true → A) (h2 : b = false → B) : if b = true then A else B := by
  cases b with
  | true => exact iteT (h1 rfl)
  | false => exact iteF (h2 rfl)
end
/-- the slots at the entry, written out -/
theorem go_start {t : TS} {D : Ends} {σ σ0 : L2.St} {H : Hp} (e : σ = σ0) (h : t D σ0 H) : t D σ H := by rw [e]; exact h
theorem small_of {n : Nat} (h : n ≤ 100000) : n ≤ sizeLine := Nat.le_trans h (by decide)
theorem small_lt {n : Nat} (h : n < 100000) : n < sizeLine := Nat.lt_of_lt_of_le h (by decide)

/-! ### heaps that grow -/
theorem Same.new {H H1 : Hp} {p : Addr} {o : HO} (e : Same H H1) (h : H1 p = none) : Same H (upd H1 p o) := fun b u q => by
  have q' := e b u q
  rw [upd_ne (ne_of_none q' h)]
  exact q'
theorem Same.mut {H H1 : Hp} {p : Addr} {o : HO} (e : Same H H1) (h : H p = none) : Same H (upd H1 p o) := fun b u q => by
  rw [upd_ne (ne_of_none q h)]
  exact e b u q
/-- all but the list at s stands; there stands a list of one number -/
structure Gs (s : Addr) (H H' : Hp) : Prop where
  keep : ∀ b o, b ≠ s → H b = some o → H' b = some o
  st : ∃ y : Int, H' s = some (.lst [.int y])
theorem Gs.trans {s : Addr} {H H1 H2 : Hp} (a : Gs s H H1) (b : Gs s H1 H2) : Gs s H H2 := ⟨fun c o n h => b.keep c o n (a.keep c o n h), b.st⟩
theorem Gs.refl {s : Addr} {H : Hp} {y : Int} (h : H s = some (.lst [.int y])) : Gs s H H := ⟨fun _ _ _ q => q, y, h⟩
theorem Gs.put {s : Addr} {H : Hp} {y : Int} : Gs s H (upd H s (.lst [.int y])) := ⟨fun b o n q => by rw [upd_ne n]; exact q, y, upd_same⟩
theorem Gs.same {s : Addr} {H H1 : Hp} {y : Int} (h : H s = some (.lst [.int y])) (e : Same H H1) : Gs s H H1 := ⟨fun b o _ q => e b o q, y, e _ _ h⟩
theorem Gs.new {s : Addr} {H H1 : Hp} {p : Addr} {o : HO} (e : Gs s H H1) (h : H1 p = none) : Gs s H (upd H1 p o) := ⟨fun b u n q => by
  have q' := e.keep b u n q
  rw [upd_ne (ne_of_none q' h)]
  exact q', by
  obtain ⟨y, q⟩ := e.st
  exact ⟨y, by rw [upd_ne (ne_of_none q h)]; exact q⟩⟩
theorem Gs.then {s : Addr} {H H1 H2 : Hp} (a : Gs s H H1) (b : Same H1 H2) : Gs s H H2 := by
  obtain ⟨y, q⟩ := a.st
  exact a.trans (.same q b)
theorem Gs.mut {s : Addr} {H H1 : Hp} {p : Addr} {o : HO} (e : Gs s H H1) (h : H p = none) (n : s ≠ p) : Gs s H (upd H1 p o) := ⟨fun b u nb q => by
  rw [upd_ne (ne_of_none q h)]
  exact e.keep b u nb q, by
  obtain ⟨y, q⟩ := e.st
  exact ⟨y, by rw [upd_ne n]; exact q⟩⟩
theorem Gs.free {s : Addr} {H H' : Hp} {l : Addr} (e : Gs s H H') (n : l ≠ s) (h : H' l = none) : H l = none := by
  cases q : H l with
  | none => rfl
  | some o =>
    rw [e.keep l o n q] at h
    cases h

/-! ### data -/
mutual
/-- the value v bears the data d (tuples and lists that are tracked; no list of it is of one number) -/
def At (H : Hp) : PyData → V → Prop
  | .none, v => v = .non
  | .bool b, v => v = .bl b
  | .int i, v => v = .int i
  | .str s, v => v = .str s
  | .list ds, v => ∃ a vs, v = .ref a ∧ H a = some (.lst vs) ∧ (∀ x, vs ≠ [.int x]) ∧ AtAll H ds vs
  | .tuple ds, v => ∃ a vs, v = .ref a ∧ H a = some (.tup vs) ∧ AtAll H ds vs
  | .dict _, _ => False
def AtAll (H : Hp) : List PyData → List V → Prop
  | [], vs => vs = []
  | d :: ds, vs => ∃ v r, vs = v :: r ∧ At H d v ∧ AtAll H ds r
end
/-- what data leans on stays -/
def Le (H H' : Hp) : Prop := ∀ b o, H b = some o → (∀ x, o ≠ .lst [.int x]) → H' b = some o
theorem Le.refl (H : Hp) : Le H H := fun _ _ q _ => q
theorem Le.trans {H H1 H2 : Hp} (a : Le H H1) (b : Le H1 H2) : Le H H2 := fun c o h n => b c o (a c o h n) n
theorem Same.le {H H' : Hp} (e : Same H H') : Le H H' := fun b o q _ => e b o q
theorem Gs.le {s : Addr} {H H' : Hp} {x : Int} (h : H s = some (.lst [.int x])) (e : Gs s H H') : Le H H' := fun b o q n => e.keep b o (fun z => by
  subst z
  rw [h] at q
  exact n x (Option.some.inj q).symm) q
theorem Le.new {H H1 : Hp} {p : Addr} {o : HO} (e : Le H H1) (h : H1 p = none) : Le H (upd H1 p o) := fun b u q n => by
  have q' := e b u q n
  rw [upd_ne (ne_of_none q' h)]
  exact q'
theorem Le.mut {H H1 : Hp} {p : Addr} {o : HO} (e : Le H H1) (h : H p = none) : Le H (upd H1 p o) := fun b u q n => by
  rw [upd_ne (ne_of_none q h)]
  exact e b u q n
theorem Le.put {H H1 : Hp} {p : Addr} {o : HO} {x : Int} (e : Le H H1) (h : H1 p = some (.lst [.int x])) : Le H (upd H1 p o) := fun b u q n => by
  have q' := e b u q n
  have ne : b ≠ p := fun z => by
    subst z
    rw [h] at q'
    exact n x (Option.some.inj q').symm
  rw [upd_ne ne]
  exact q'
mutual
theorem At.le {H H' : Hp} (e : Le H H') : ∀ {d : PyData} {v : V}, At H d v → At H' d v
  | .none, _, h => h
  | .bool _, _, h => h
  | .int _, _, h => h
  | .str _, _, h => h
  | .list _, _, ⟨a, vs, q, h, n, r⟩ => ⟨a, vs, q, e _ _ h (fun x z => n x (by injection z)), n, AtAll.le e r⟩
  | .tuple _, _, ⟨a, vs, q, h, r⟩ => ⟨a, vs, q, e _ _ h (fun x z => by cases z), AtAll.le e r⟩
  | .dict _, _, h => h
theorem AtAll.le {H H' : Hp} (e : Le H H') : ∀ {ds : List PyData} {vs : List V}, AtAll H ds vs → AtAll H' ds vs
  | [], _, h => h
  | _ :: _, _, ⟨v, r, q, h, t⟩ => ⟨v, r, q, At.le e h, AtAll.le e t⟩
end
mutual
theorem At.dp {K : PySem.W.Frag} {H : Hp} : ∀ {d : PyData} {v : V}, At H d v → Dp K H v d
  | .none, _, h => by cases (show _ = _ from h); exact .non
  | .bool _, _, h => by cases (show _ = _ from h); exact .bl _
  | .int _, _, h => by cases (show _ = _ from h); exact .int _
  | .str _, _, h => by cases (show _ = _ from h); exact .str _
  | .list _, _, ⟨a, vs, q, h, n, r⟩ => by subst q; exact .lst (.of h) (AtAll.dp r)
  | .tuple _, _, ⟨a, vs, q, h, r⟩ => by subst q; exact .tup (.of h) (AtAll.dp r)
  | .dict _, _, h => h.elim
theorem AtAll.dp {K : PySem.W.Frag} {H : Hp} : ∀ {ds : List PyData} {vs : List V}, AtAll H ds vs → DpAll K H vs ds
  | [], _, h => by cases (show _ = _ from h); exact .nil
  | _ :: _, _, ⟨v, r, q, h, t⟩ => by subst q; exact .cons (At.dp h) (AtAll.dp t)
end
theorem AtAll.length {H : Hp} : ∀ {ds : List PyData} {vs : List V}, AtAll H ds vs → vs.length = ds.length
  | [], _, h => by rw [show _ = _ from h]; rfl
  | _ :: _, _, ⟨v, r, q, _, t⟩ => by rw [q, List.length_cons, List.length_cons, AtAll.length t]
theorem AtAll.get {H : Hp} : ∀ {ds : List PyData} {vs : List V} {i : Nat} {d : PyData}, AtAll H ds vs → ds[i]? = some d → ∃ v, vs[i]? = some v ∧ At H d v
  | [], _, _, _, _, e => by simp at e
  | _ :: _, _, 0, _, ⟨v, r, q, h, t⟩, e => by
    have e := Option.some.inj e
    subst e q
    exact ⟨v, rfl, h⟩
  | _ :: _, _, i + 1, _, ⟨v, r, q, h, t⟩, e => by
    subst q
    obtain ⟨w, h1, h2⟩ := AtAll.get (i := i) t (by simpa using e)
    exact ⟨w, by simpa using h1, h2⟩
theorem AtAll.ix {H : Hp} : ∀ {ds : List PyData} {vs : List V} {i : Nat} {v : V}, AtAll H ds vs → vs[i]? = some v → ∃ d, ds[i]? = some d ∧ At H d v
  | [], _, _, _, h, e => by rw [show _ = _ from h] at e; simp at e
  | d :: _, _, 0, _, ⟨v, r, q, h, t⟩, e => by
    subst q
    have e := Option.some.inj e
    subst e
    exact ⟨d, rfl, h⟩
  | _ :: _, _, i + 1, _, ⟨v, r, q, h, t⟩, e => by
    subst q
    obtain ⟨w, h1, h2⟩ := AtAll.ix (i := i) t (by simpa using e)
    exact ⟨w, by simpa using h1, h2⟩
theorem AtAll.append {H : Hp} : ∀ {ds es : List PyData} {vs ws : List V}, AtAll H ds vs → AtAll H es ws → AtAll H (ds ++ es) (vs ++ ws)
  | [], _, _, _, h, k => by rw [show _ = _ from h]; exact k
  | _ :: _, _, _, _, ⟨v, r, q, h, t⟩, k => by subst q; exact ⟨v, _, rfl, h, AtAll.append t k⟩
theorem AtAll.one {H : Hp} {d : PyData} {v : V} (h : At H d v) : AtAll H [d] [v] := ⟨v, [], rfl, h, rfl⟩
theorem AtAll.take {H : Hp} : ∀ {ds : List PyData} {vs : List V} (n : Nat), AtAll H ds vs → AtAll H (ds.take n) (vs.take n)
  | [], _, n, h => by rw [show _ = _ from h]; simp; exact rfl
  | _ :: _, _, 0, _ => rfl
  | _ :: _, _, n + 1, ⟨v, r, q, h, t⟩ => by subst q; exact ⟨v, _, rfl, h, AtAll.take n t⟩
theorem AtAll.drop {H : Hp} : ∀ {ds : List PyData} {vs : List V} (n : Nat), AtAll H ds vs → AtAll H (ds.drop n) (vs.drop n)
  | _, _, 0, h => h
  | [], _, n + 1, h => by rw [show _ = _ from h]; simp; exact rfl
  | _ :: _, _, n + 1, ⟨v, r, q, h, t⟩ => by subst q; exact AtAll.drop n t

theorem AtAll.ex1 {H : Hp} {ds : List PyData} {vs : List V} (h : AtAll H ds vs) (l : vs.length = 1) : ∃ d0 v0, ds = [d0] ∧ vs = [v0] ∧ At H d0 v0 := by
  match ds, h with
  | [], h => rw [show _ = _ from h] at l; cases l
  | [d0], ⟨v0, r, q, h0, h1⟩ => rw [show _ = _ from h1] at q; exact ⟨d0, v0, rfl, q, h0⟩
  | _ :: _ :: _, ⟨v0, r, q, h0, ⟨v1, r1, q1, _, _⟩⟩ => subst q1 q; simp at l
theorem AtAll.ex2 {H : Hp} {ds : List PyData} {vs : List V} (h : AtAll H ds vs) (l : vs.length = 2) : ∃ d0 d1 v0 v1, ds = [d0, d1] ∧ vs = [v0, v1] ∧ At H d0 v0 ∧ At H d1 v1 := by
  match ds, h with
  | [], h => rw [show _ = _ from h] at l; cases l
  | d0 :: r, ⟨v0, r', q, h0, h1⟩ =>
    subst q
    obtain ⟨d1, v1, e1, e2, h2⟩ := AtAll.ex1 h1 (by simpa using l)
    subst e1 e2
    exact ⟨d0, d1, v0, v1, rfl, rfl, h0, h2⟩
theorem AtAll.ex3 {H : Hp} {ds : List PyData} {vs : List V} (h : AtAll H ds vs) (l : vs.length = 3) : ∃ d0 d1 d2 v0 v1 v2, ds = [d0, d1, d2] ∧ vs = [v0, v1, v2] ∧ At H d0 v0 ∧ At H d1 v1 ∧ At H d2 v2 := by
  match ds, h with
  | [], h => rw [show _ = _ from h] at l; cases l
  | d0 :: r, ⟨v0, r', q, h0, h1⟩ =>
    subst q
    obtain ⟨d1, d2, v1, v2, e1, e2, h2, h3⟩ := AtAll.ex2 h1 (by simpa using l)
    subst e1 e2
    exact ⟨d0, d1, d2, v0, v1, v2, rfl, rfl, h0, h2, h3⟩
theorem AtAll.ex4 {H : Hp} {ds : List PyData} {vs : List V} (h : AtAll H ds vs) (l : vs.length = 4) : ∃ d0 d1 d2 d3 v0 v1 v2 v3, ds = [d0, d1, d2, d3] ∧ vs = [v0, v1, v2, v3] ∧ At H d0 v0 ∧ At H d1 v1 ∧ At H d2 v2 ∧ At H d3 v3 := by
  match ds, h with
  | [], h => rw [show _ = _ from h] at l; cases l
  | d0 :: r, ⟨v0, r', q, h0, h1⟩ =>
    subst q
    obtain ⟨d1, d2, d3, v1, v2, v3, e1, e2, h2, h3, h4⟩ := AtAll.ex3 h1 (by simpa using l)
    subst e1 e2
    exact ⟨d0, d1, d2, d3, v0, v1, v2, v3, rfl, rfl, h0, h2, h3, h4⟩
theorem decInt {i j : Int} : decide (V.int i = V.int j) = decide (i = j) := by
  by_cases e : i = j
  · subst e; simp
  · rw [decide_eq_false e, decide_eq_false (fun z => e (V.int.inj z))]
/-- plain values by themselves -/
theorem q_eqI {K : PySem.W.Frag} {H : Hp} {i j : Int} {Q : VK} (h : Q (.bl (decide (i = j))) H) : uEq K (.int i) (.int j) H Q := q_eq rfl (by rw [decInt]; exact h)
theorem q_neI {K : PySem.W.Frag} {H : Hp} {i j : Int} {Q : VK} (h : Q (.bl (!decide (i = j))) H) : uNe K (.int i) (.int j) H Q := q_ne rfl (by rw [decInt]; exact h)

theorem at1 {H : Hp} {a : Addr} {d0 : PyData} {v0 : V} (h : H a = some (.tup [v0])) (h0 : At H d0 v0) : At H (.tuple [d0]) (.ref a) := ⟨a, _, rfl, h, _, _, rfl, h0, rfl⟩
theorem at2 {H : Hp} {a : Addr} {d0 d1 : PyData} {v0 v1 : V} (h : H a = some (.tup [v0, v1])) (h0 : At H d0 v0) (h1 : At H d1 v1) : At H (.tuple [d0, d1]) (.ref a) := ⟨a, _, rfl, h, _, _, rfl, h0, _, _, rfl, h1, rfl⟩
theorem at3 {H : Hp} {a : Addr} {d0 d1 d2 : PyData} {v0 v1 v2 : V} (h : H a = some (.tup [v0, v1, v2])) (h0 : At H d0 v0) (h1 : At H d1 v1) (h2 : At H d2 v2) : At H (.tuple [d0, d1, d2]) (.ref a) := ⟨a, _, rfl, h, _, _, rfl, h0, _, _, rfl, h1, _, _, rfl, h2, rfl⟩
theorem at4 {H : Hp} {a : Addr} {d0 d1 d2 d3 : PyData} {v0 v1 v2 v3 : V} (h : H a = some (.tup [v0, v1, v2, v3])) (h0 : At H d0 v0) (h1 : At H d1 v1) (h2 : At H d2 v2) (h3 : At H d3 v3) : At H (.tuple [d0, d1, d2, d3]) (.ref a) := ⟨a, _, rfl, h, _, _, rfl, h0, _, _, rfl, h1, _, _, rfl, h2, _, _, rfl, h3, rfl⟩
/-! data of tuples alone -/
mutual
def tupOnly : PyData → Bool
  | .list _ => false
  | .tuple ds => tupsOnly ds
  | _ => true
def tupsOnly : List PyData → Bool
  | [] => true
  | d :: ds => tupOnly d && tupsOnly ds
end
def LeT (H H' : Hp) : Prop := ∀ b xs, H b = some (.tup xs) → H' b = some (.tup xs)
theorem LeT.refl (H : Hp) : LeT H H := fun _ _ q => q
theorem LeT.trans {H H1 H2 : Hp} (a : LeT H H1) (b : LeT H1 H2) : LeT H H2 := fun c o h => b c o (a c o h)
theorem Le.let {H H' : Hp} (e : Le H H') : LeT H H' := fun b xs q => e b _ q (fun x z => by cases z)
mutual
theorem At.leT {H H' : Hp} (e : LeT H H') : ∀ {d : PyData} {v : V}, tupOnly d = true → At H d v → At H' d v
  | .none, _, _, h => h
  | .bool _, _, _, h => h
  | .int _, _, _, h => h
  | .str _, _, _, h => h
  | .list _, _, t, _ => by simp [tupOnly] at t
  | .tuple ds, _, t, ⟨a, vs, q, h, r⟩ => ⟨a, vs, q, e _ _ h, AtAll.leT e (by simpa [tupOnly] using t) r⟩
  | .dict _, _, _, h => h
theorem AtAll.leT {H H' : Hp} (e : LeT H H') : ∀ {ds : List PyData} {vs : List V}, tupsOnly ds = true → AtAll H ds vs → AtAll H' ds vs
  | [], _, _, h => h
  | d :: ds, _, t, ⟨v, r, q, h, k⟩ => by
    have t' : tupOnly d = true ∧ tupsOnly ds = true := by simpa [tupsOnly] using t
    exact ⟨v, r, q, At.leT e t'.1 h, AtAll.leT e t'.2 k⟩
end
theorem tupsOnly_all : ∀ {ds : List PyData}, (∀ d ∈ ds, tupOnly d = true) → tupsOnly ds = true
  | [], _ => rfl
  | d :: ds, h => by
    show (tupOnly d && tupsOnly ds) = true
    rw [h d (by simp), tupsOnly_all fun x hx => h x (by simp [hx])]
    rfl
theorem LeT.new1 {H H1 : Hp} {p : Addr} {o : HO} (h : H1 p = none) (e : LeT H H1) : LeT H (upd H1 p o) := fun b xs q => by
  have q' := e b xs q
  rw [upd_ne (ne_of_none q' h)]
  exact q'
theorem LeT.same1 {H H1 H2 : Hp} (b : Same H1 H2) (a : LeT H H1) : LeT H H2 := a.trans (Same.le b).let
theorem LeT.gs1 {s : Addr} {x : Int} {H H1 H2 : Hp} (b : Gs s H1 H2) (h : H1 s = some (.lst [.int x])) (a : LeT H H1) : LeT H H2 := a.trans (b.le h).let
theorem LeT.put1 {H H1 : Hp} {p : Addr} {o : HO} {xs : List V} (h : H1 p = some (.lst xs)) (e : LeT H H1) : LeT H (upd H1 p o) := fun b ys q => by
  have q' := e b ys q
  rw [upd_ne (ne_of q' h (fun z => by cases z))]
  exact q'
/-! the same with what is sought first ahead -/
theorem hp_ne {H : Hp} {a b : Addr} {o u : HO} (n : b ≠ a) (h : H b = some u) : upd H a o b = some u := (upd_ne n).trans h
theorem hp_new {H : Hp} {a b : Addr} {o u : HO} (n : H a = none) (h : H b = some u) : upd H a o b = some u := (upd_ne (ne_of_none h n)).trans h
theorem hp_put {H : Hp} {a b : Addr} {o u : HO} (_ : H a = none ∨ True) (n : b ≠ a) (h : H b = some u) : upd H a o b = some u := (upd_ne n).trans h
theorem hp_same {H H' : Hp} {b : Addr} {u : HO} (e : Same H H') (h : H b = some u) : H' b = some u := e _ _ h
theorem hp_gs {s : Addr} {H H' : Hp} {b : Addr} {u : HO} (e : Gs s H H') (n : b ≠ s) (h : H b = some u) : H' b = some u := e.keep _ _ n h
theorem at_int {H : Hp} {i : Int} : At H (.int i) (.int i) := rfl
theorem at_bl {H : Hp} {i : Bool} : At H (.bool i) (.bl i) := rfl
theorem at_str {H : Hp} {i : Str} : At H (.str i) (.str i) := rfl
theorem at_non {H : Hp} : At H .none .non := rfl
theorem ne1 {H : Hp} {a b : Addr} {o : HO} (h' : H b = none) (h : H a = some o) : a ≠ b := ne_of_none h h'
theorem ne2 {H : Hp} {a b : Addr} {o : HO} (h' : H b = none) (h : H a = some o) : b ≠ a := (ne_of_none h h').symm
theorem At.le1 {H H' : Hp} {d : PyData} {v : V} (h : At H d v) (e : Le H H') : At H' d v := h.le e
theorem AtAll.le1 {H H' : Hp} {d : List PyData} {v : List V} (h : AtAll H d v) (e : Le H H') : AtAll H' d v := h.le e
theorem Same.free1 {H H' : Hp} {l : Addr} (h : H' l = none) (e : Same H H') : H l = none := L2.Same.free e h
theorem Same.new1 {H H1 : Hp} {p : Addr} {o : HO} (h : H1 p = none) (e : Same H H1) : Same H (upd H1 p o) := Same.new e h
theorem Same.trans1 {H H1 H2 : Hp} (b : Same H1 H2) (a : Same H H1) : Same H H2 := L2.Same.trans a b
theorem Gs.new1 {s : Addr} {H H1 : Hp} {p : Addr} {o : HO} (h : H1 p = none) (e : Gs s H H1) : Gs s H (upd H1 p o) := e.new h
theorem Gs.free1 {s : Addr} {H H' : Hp} {l : Addr} (h : H' l = none) (e : Gs s H H') (n : l ≠ s) : H l = none := e.free n h
theorem Gs.mut1 {s : Addr} {H H1 : Hp} {p : Addr} {o : HO} (h : H p = none) (n : s ≠ p) (e : Gs s H H1) : Gs s H (upd H1 p o) := e.mut h n
theorem Gs.trans1 {s : Addr} {H H1 H2 : Hp} (b : Gs s H1 H2) (a : Gs s H H1) : Gs s H H2 := a.trans b
theorem Gs.then1 {s : Addr} {H H1 H2 : Hp} (b : Same H1 H2) (a : Gs s H H1) : Gs s H H2 := a.then b
theorem Gs.put1 {s : Addr} {H H1 : Hp} {y : Int} (a : Gs s H H1) : Gs s H (upd H1 s (.lst [.int y])) := a.trans .put
theorem Le.new1 {H H1 : Hp} {p : Addr} {o : HO} (h : H1 p = none) (e : Le H H1) : Le H (upd H1 p o) := e.new h
theorem Le.same1 {H H1 H2 : Hp} (b : Same H1 H2) (a : Le H H1) : Le H H2 := a.trans (Same.le b)
theorem Le.gs1 {s : Addr} {x : Int} {H H1 H2 : Hp} (b : Gs s H1 H2) (h : H1 s = some (.lst [.int x])) (a : Le H H1) : Le H H2 := a.trans (b.le h)
theorem Le.put1 {H H1 : Hp} {p : Addr} {o : HO} {x : Int} (h : H1 p = some (.lst [.int x])) (e : Le H H1) : Le H (upd H1 p o) := e.put h

/-- the type of data -/
def tyOf : PyData → String
  | .none => "NoneType"
  | .bool _ => "bool"
  | .int _ => "int"
  | .str _ => "str"
  | .list _ => "list"
  | .tuple _ => "tuple"
  | .dict _ => "dict"
theorem At.ty {K : PySem.W.Frag} {H : Hp} {d : PyData} {v : V} (h : At H d v) : TyX K H v (.type (tyOf d)) := by
  cases d with
  | none => cases (show _ = _ from h); exact .base .non
  | bool b => cases (show _ = _ from h); exact .base (.bl _)
  | int i => cases (show _ = _ from h); exact .base (.int _)
  | str s => cases (show _ = _ from h); exact .base (.str _)
  | list ds => obtain ⟨a, vs, q, h, n, r⟩ := h; subst q; exact .base (.lst h)
  | tuple ds => obtain ⟨a, vs, q, h, r⟩ := h; subst q; exact .base (.tup h)
  | dict _ => exact h.elim

/-! ### isinstance of data -/
def isIntD : PyData → Bool
  | .int _ => true
  | .bool _ => true
  | _ => false
def isBoolD : PyData → Bool
  | .bool _ => true
  | _ => false
def isTupD : PyData → Bool
  | .tuple _ => true
  | _ => false
def isStrD : PyData → Bool
  | .str _ => true
  | _ => false
def isLstD : PyData → Bool
  | .list _ => true
  | _ => false
theorem kb_int : ∀ d : PyData, (∀ k, d ≠ .dict k) → kitB (tyOf d) "int" = some (isIntD d)
  | .none, _ => (by decide +kernel : kitB "NoneType" "int" = some false)
  | .bool _, _ => (by decide +kernel : kitB "bool" "int" = some true)
  | .int _, _ => (by decide +kernel : kitB "int" "int" = some true)
  | .str _, _ => (by decide +kernel : kitB "str" "int" = some false)
  | .list _, _ => (by decide +kernel : kitB "list" "int" = some false)
  | .tuple _, _ => (by decide +kernel : kitB "tuple" "int" = some false)
  | .dict k, h => absurd rfl (h k)
theorem kb_bool : ∀ d : PyData, (∀ k, d ≠ .dict k) → kitB (tyOf d) "bool" = some (isBoolD d)
  | .none, _ => (by decide +kernel : kitB "NoneType" "bool" = some false)
  | .bool _, _ => (by decide +kernel : kitB "bool" "bool" = some true)
  | .int _, _ => (by decide +kernel : kitB "int" "bool" = some false)
  | .str _, _ => (by decide +kernel : kitB "str" "bool" = some false)
  | .list _, _ => (by decide +kernel : kitB "list" "bool" = some false)
  | .tuple _, _ => (by decide +kernel : kitB "tuple" "bool" = some false)
  | .dict k, h => absurd rfl (h k)
theorem kb_tuple : ∀ d : PyData, (∀ k, d ≠ .dict k) → kitB (tyOf d) "tuple" = some (isTupD d)
  | .none, _ => (by decide +kernel : kitB "NoneType" "tuple" = some false)
  | .bool _, _ => (by decide +kernel : kitB "bool" "tuple" = some false)
  | .int _, _ => (by decide +kernel : kitB "int" "tuple" = some false)
  | .str _, _ => (by decide +kernel : kitB "str" "tuple" = some false)
  | .list _, _ => (by decide +kernel : kitB "list" "tuple" = some false)
  | .tuple _, _ => (by decide +kernel : kitB "tuple" "tuple" = some true)
  | .dict k, h => absurd rfl (h k)
theorem kb_str : ∀ d : PyData, (∀ k, d ≠ .dict k) → kitB (tyOf d) "str" = some (isStrD d)
  | .none, _ => (by decide +kernel : kitB "NoneType" "str" = some false)
  | .bool _, _ => (by decide +kernel : kitB "bool" "str" = some false)
  | .int _, _ => (by decide +kernel : kitB "int" "str" = some false)
  | .str _, _ => (by decide +kernel : kitB "str" "str" = some true)
  | .list _, _ => (by decide +kernel : kitB "list" "str" = some false)
  | .tuple _, _ => (by decide +kernel : kitB "tuple" "str" = some false)
  | .dict k, h => absurd rfl (h k)
theorem kb_list : ∀ d : PyData, (∀ k, d ≠ .dict k) → kitB (tyOf d) "list" = some (isLstD d)
  | .none, _ => (by decide +kernel : kitB "NoneType" "list" = some false)
  | .bool _, _ => (by decide +kernel : kitB "bool" "list" = some false)
  | .int _, _ => (by decide +kernel : kitB "int" "list" = some false)
  | .str _, _ => (by decide +kernel : kitB "str" "list" = some false)
  | .list _, _ => (by decide +kernel : kitB "list" "list" = some true)
  | .tuple _, _ => (by decide +kernel : kitB "tuple" "list" = some false)
  | .dict k, h => absurd rfl (h k)
/-! ### steps that are found by their head -/
class Step (g : Prop) (n : outParam Prop) : Prop where
  h : n → g
section
variable {σ : L2.St} {H : Hp} {nx bk ct : L2.St → Hp → Prop} {rt : VK} {i : Nat} {v x y : V} {Q : VK} {te ta tb tl th : TE} {t u : TS} {c : TT} {g : TG} {K : PySem.W.Frag} {r : R2}
instance : Step (tSeq t u ⟨nx, rt, bk, ct⟩ σ H) (t ⟨u ⟨nx, rt, bk, ct⟩, rt, bk, ct⟩ σ H) := ⟨fun h => h⟩
instance : Step (tAsg te (gName i) ⟨nx, rt, bk, ct⟩ σ H) (te σ H fun x H1 => nx (σ.set i (some x)) H1) := ⟨fun h => h⟩
instance (priority := low) : Step (tAsg te g ⟨nx, rt, bk, ct⟩ σ H) (te σ H fun x H1 => g x σ H1 nx) := ⟨fun h => h⟩
instance {P : L2.St → Hp → Prop} : Step (gName i v σ H P) (P (σ.set i (some v)) H) := ⟨fun h => h⟩
instance {P : L2.St → Hp → Prop} {to ti : TE} {s : TSet} : Step (gSub to ti s v σ H P) (to σ H fun o H1 => ti σ H1 fun i H2 => s o i v H2 fun H3 => P σ H3) := ⟨fun h => h⟩
instance : Step (tIfS c t u ⟨nx, rt, bk, ct⟩ σ H) (c σ H fun b H1 => if b = true then t ⟨nx, rt, bk, ct⟩ σ H1 else u ⟨nx, rt, bk, ct⟩ σ H1) := ⟨fun h => h⟩
instance : Step (tRet te ⟨nx, rt, bk, ct⟩ σ H) (te σ H rt) := ⟨fun h => h⟩
instance : Step (tRetN ⟨nx, rt, bk, ct⟩ σ H) (rt .non H) := ⟨fun h => h⟩
instance : Step (tNext ⟨nx, rt, bk, ct⟩ σ H) (nx σ H) := ⟨fun h => h⟩
instance : Step (tBreak ⟨nx, rt, bk, ct⟩ σ H) (bk σ H) := ⟨fun h => h⟩
instance : Step (tCont ⟨nx, rt, bk, ct⟩ σ H) (ct σ H) := ⟨fun h => h⟩
instance : Step (tDrop te ⟨nx, rt, bk, ct⟩ σ H) (te σ H fun _ H1 => nx σ H1) := ⟨fun h => h⟩
instance {i j : Nat} {ta : TA} : Step (tPar i j ta ⟨nx, rt, bk, ct⟩ σ H) (ta σ H fun vs H1 => ∃ v w, vs = [v, w] ∧ nx ((σ.set i (some v)).set j (some w)) H1) := ⟨fun h => h⟩
instance : Step (tC v σ H Q) (Q v H) := ⟨fun h => h⟩
instance : Step (tOp r ta tb σ H Q) (ta σ H fun x H1 => tb σ H1 fun y H2 => r x y H2 Q) := ⟨fun h => h⟩
instance {r : V → Hp → VK → Prop} : Step (tUn r ta σ H Q) (ta σ H fun x H1 => r x H1 Q) := ⟨fun h => h⟩
instance {r r' : R2} {tc : TE} : Step (tChain r r' ta tb tc σ H Q) (ta σ H fun x H1 => tb σ H1 fun y H2 => r x y H2 fun z H3 => ∃ k, z = .bl k ∧ if k = true then tc σ H3 fun w H4 => r' y w H4 Q else Q (.bl false) H3) := ⟨fun h => h⟩
instance {Q : Bool → Hp → Prop} : Step (tTest te σ H Q) (te σ H fun x H' => ∃ k, x = .bl k ∧ Q k H') := ⟨fun h => h⟩
instance {Q : Bool → Hp → Prop} : Step (tB te σ H Q) (te σ H fun x H1 => ∃ c, x = .bl c ∧ Q c H1) := ⟨fun h => h⟩
instance {t u : TT} {Q : Bool → Hp → Prop} : Step (tAnd t u σ H Q) (t σ H fun c H1 => if c = true then u σ H1 Q else Q false H1) := ⟨fun h => h⟩
instance {t u : TT} {Q : Bool → Hp → Prop} : Step (tOr t u σ H Q) (t σ H fun c H1 => if c = true then Q true H1 else u σ H1 Q) := ⟨fun h => h⟩
instance {t : TT} {Q : Bool → Hp → Prop} : Step (tNot t σ H Q) (t σ H fun c H1 => Q (!c) H1) := ⟨fun h => h⟩
instance {Q : Bool → Hp → Prop} : Step (tYes σ H Q) (Q true H) := ⟨fun h => h⟩
instance : Step (tAndV ta tb σ H Q) (ta σ H fun x H1 => ∃ c, x = .bl c ∧ if c = true then tb σ H1 Q else Q (.bl false) H1) := ⟨fun h => h⟩
instance : Step (tOrV ta tb σ H Q) (ta σ H fun x H1 => ∃ c, x = .bl c ∧ if c = true then Q (.bl true) H1 else tb σ H1 Q) := ⟨fun h => h⟩
instance : Step (tNotV ta σ H Q) (ta σ H fun x H1 => ∃ c, x = .bl c ∧ Q (.bl (!c)) H1) := ⟨fun h => h⟩
instance {t : TT} : Step (tIf t ta tb σ H Q) (t σ H fun c H1 => if c = true then ta σ H1 Q else tb σ H1 Q) := ⟨fun h => h⟩
instance {Q : List V → Hp → Prop} : Step (tNil σ H Q) (Q [] H) := ⟨fun h => h⟩
instance {tr : TA} {Q : List V → Hp → Prop} : Step (tCons te tr σ H Q) (te σ H fun x H1 => tr σ H1 fun xs H2 => Q (x :: xs) H2) := ⟨fun h => h⟩
instance {r : List V → Hp → VK → Prop} {a : TA} : Step (tCB r a σ H Q) (a σ H fun vs H1 => r vs H1 Q) := ⟨fun h => h⟩
instance {sp : Sp} {E : XK} {a : TA} : Step (tCallO sp E a σ H Q) (a σ H fun vs H1 => sp vs H1 Q E) := ⟨fun h => h⟩
instance {a : TA} : Step (tTup a σ H Q) (a σ H fun xs H1 => xs.length ≤ sizeLine ∧ ∀ p, H1 p = none → Q (.ref p) (upd H1 p (.tup xs))) := ⟨fun h => h⟩
instance {a : TA} : Step (tLst a σ H Q) (a σ H fun xs H1 => xs.length ≤ sizeLine ∧ ∀ p, H1 p = none → Q (.ref p) (upd H1 p (.lst xs))) := ⟨fun h => h⟩
instance {r : V → Option Int → Option Int → Hp → VK → Prop} {a b : TO} : Step (tSl r te a b σ H Q) (te σ H fun x H1 => a σ H1 fun l H2 => b σ H2 fun u H3 => r x l u H3 Q) := ⟨fun h => h⟩
instance {Q : Option Int → Hp → Prop} : Step (tNoPart σ H Q) (Q none H) := ⟨fun h => h⟩
instance {Q : Option Int → Hp → Prop} : Step (tPart te σ H Q) (te σ H fun x H1 => ∃ i, x = .int i ∧ Q (some i) H1) := ⟨fun h => h⟩
instance {T : String} {r : V → List V → Hp → VK → Prop} {a : TA} : Step (tBM K T r ta a σ H Q) (ta σ H fun x H1 => tyV K T x H1 ∧ a σ H1 fun xs H2 => r x xs H2 Q) := ⟨fun h => h⟩
instance {T : String} {r : V → List V → Hp → VK → Prop} : Step (tBM0 K T r ta σ H Q) (ta σ H fun x H1 => tyV K T x H1 ∧ r x [] H1 Q) := ⟨fun h => h⟩
-- the operators
instance {i j : Int} : Step (uAdd K (.int i) (.int j) H Q) (Q (.int (i + j)) H) := ⟨fun h => h⟩
instance {i j : Str} : Step (uAdd K (.str i) (.str j) H Q) (i.length + j.length ≤ sizeLine ∧ Q (.str (i ++ j)) H) := ⟨fun h => h⟩
instance {i j : Int} : Step (uSub (.int i) (.int j) H Q) (Q (.int (i - j)) H) := ⟨fun h => h⟩
instance {i j : Int} : Step (uMul (.int i) (.int j) H Q) (CMul i j ∧ Q (.int (i * j)) H) := ⟨fun h => h⟩
instance {i j : Int} : Step (uDiv (.int i) (.int j) H Q) (CDiv i j ∧ Q (.int (i / j)) H) := ⟨fun h => h⟩
instance {i j : Int} : Step (uMod (.int i) (.int j) H Q) (0 < j ∧ Q (.int (i % j)) H) := ⟨fun h => h⟩
instance {i j : Int} : Step (uPow (.int i) (.int j) H Q) (CPow i j ∧ Q (.int (i ^ j.toNat)) H) := ⟨fun h => h⟩
instance {i : Int} : Step (uNeg (.int i) H Q) (Q (.int (-i)) H) := ⟨fun h => h⟩
instance {p : Int → Int → Bool} {i j : Int} : Step (uCmp p (.int i) (.int j) H Q) (Q (.bl (p i j)) H) := ⟨fun h => h⟩
instance {i j : Int} : Step (uEq K (.int i) (.int j) H Q) (Q (.bl (decide (i = j))) H) := ⟨q_eqI⟩
instance {i j : Int} : Step (uNe K (.int i) (.int j) H Q) (Q (.bl (!decide (i = j))) H) := ⟨q_neI⟩
instance {i j : Str} : Step (uEq K (.str i) (.str j) H Q) (Q (.bl (decide (i = j))) H) := ⟨fun h => q_eq rfl (by
  have e : decide (V.str i = V.str j) = decide (i = j) := by simp
  rw [e]; exact h)⟩
instance {i j : Str} : Step (uNe K (.str i) (.str j) H Q) (Q (.bl (!decide (i = j))) H) := ⟨fun h => q_ne rfl (by
  have e : decide (V.str i = V.str j) = decide (i = j) := by simp
  rw [e]; exact h)⟩
instance {i j : Bool} : Step (uEq K (.bl i) (.bl j) H Q) (Q (.bl (decide (i = j))) H) := ⟨fun h => q_eq rfl (by
  have e : decide (V.bl i = V.bl j) = decide (i = j) := by simp
  rw [e]; exact h)⟩
instance {i j : Bool} : Step (uNe K (.bl i) (.bl j) H Q) (Q (.bl (!decide (i = j))) H) := ⟨fun h => q_ne rfl (by
  have e : decide (V.bl i = V.bl j) = decide (i = j) := by simp
  rw [e]; exact h)⟩
/-- a list or a tuple that is read -/
def IsSq (K : PySem.W.Frag) (H : Hp) (a : Addr) (xs : List V) : Prop := SqL K H a xs ∨ SqT K H a xs
def HoIt : HO → List V → Prop
  | .lst xs, ys => xs = ys
  | .tup xs, ys => xs = ys
  | _, _ => False
theorem sq_o {a : Addr} {o : HO} {xs : List V} (h : H a = some o) (e : HoIt o xs) : IsSq K H a xs := by
  cases o <;> first | exact e.elim | (cases (show _ = _ from e); first | exact .inl (.of h) | exact .inr (.of h))
theorem sq_l {a : Addr} {xs : List V} (h : H a = some (.lst xs)) : IsSq K H a xs := .inl (.of h)
theorem sq_t {a : Addr} {xs : List V} (h : H a = some (.tup xs)) : IsSq K H a xs := .inr (.of h)
instance {a : Addr} {i : Int} : Step (rIx K (.ref a) (.int i) H Q) (∃ xs, IsSq K H a xs ∧ ∃ v, atI xs i = some v ∧ Q v H) := ⟨fun ⟨xs, h, v, e, q⟩ => by
  rcases h with h | h
  · exact .inl ⟨a, xs, i, v, rfl, rfl, h, e, q⟩
  · exact .inr (.inl ⟨a, xs, i, v, rfl, rfl, h, e, q⟩)⟩
instance {z : Str} {i : Int} : Step (rIx K (.str z) (.int i) H Q) (∃ c, (z.length ≤ sizeLine ∧ atI z.cps.toList i = some c) ∧ Q (.str ⟨#[c]⟩) H) := ⟨fun ⟨c, h, q⟩ => q_ixS h.1 h.2 q⟩
instance {a : Addr} : Step (uLen K [.ref a] H Q) (∃ xs, IsSq K H a xs ∧ Q (.int xs.length) H) := ⟨fun ⟨xs, h, q⟩ => by
  rcases h with h | h
  · exact ⟨_, _, rfl, .inl ⟨xs, h, rfl⟩, q⟩
  · exact ⟨_, _, rfl, .inr ⟨xs, h, rfl⟩, q⟩⟩
instance {z : Str} : Step (uLen K [.str z] H Q) (z.length ≤ sizeLine ∧ Q (.int z.length) H) := ⟨fun h => q_lenS h.1 h.2⟩
instance {i : Int} : Step (uInt [.int i] H Q) (Q (.int i) H) := ⟨fun h => h⟩
instance {k : Bool} : Step (uInt [.bl k] H Q) (Q (.int (if k then 1 else 0)) H) := ⟨fun h => h⟩
/-- the value's type is that of the data -/
def Typ (H : Hp) (x : V) (d : PyData) : Prop := At H d x ∨ (∃ a vs, x = .ref a ∧ H a = some (.lst vs) ∧ d = .list []) ∨ ∃ a vs, x = .ref a ∧ H a = some (.tup vs) ∧ d = .tuple []
theorem typ_at {x : V} {d : PyData} (h : At H d x) : Typ H x d := .inl h
theorem typ_l {a : Addr} {vs : List V} (h : H a = some (.lst vs)) : Typ H (.ref a) (.list []) := .inr (.inl ⟨a, vs, rfl, h, rfl⟩)
theorem typ_t {a : Addr} {vs : List V} (h : H a = some (.tup vs)) : Typ H (.ref a) (.tuple []) := .inr (.inr ⟨a, vs, rfl, h, rfl⟩)
def HoTy : HO → PyData → Prop
  | .lst _, d => d = .list []
  | .tup _, d => d = .tuple []
  | _, _ => False
theorem typ_o {a : Addr} {o : HO} {d : PyData} (h : H a = some o) (e : HoTy o d) : Typ H (.ref a) d := by
  cases o <;> first | exact e.elim | (cases (show _ = _ from e); first | exact typ_l h | exact typ_t h)
theorem Typ.ty {x : V} {d : PyData} (h : Typ H x d) : TyX K H x (.type (tyOf d)) := by
  rcases h with h | ⟨a, vs, rfl, h, rfl⟩ | ⟨a, vs, rfl, h, rfl⟩
  · exact h.ty
  · exact .base (.lst h)
  · exact .base (.tup h)
theorem Typ.nodict {x : V} {d : PyData} (h : Typ H x d) : ∀ k, d ≠ .dict k := fun k e => by
  subst e
  rcases h with h | ⟨_, _, _, _, h⟩ | ⟨_, _, _, _, h⟩ <;> first | exact h.elim | cases h
instance : Step (rIsi K [x, .ty "int"] H Q) (∃ d, Typ H x d ∧ Q (.bl (isIntD d)) H) := ⟨fun ⟨d, h, q⟩ => q_isi h.ty (kb_int d h.nodict) q⟩
instance : Step (rIsi K [x, .ty "bool"] H Q) (∃ d, Typ H x d ∧ Q (.bl (isBoolD d)) H) := ⟨fun ⟨d, h, q⟩ => q_isi h.ty (kb_bool d h.nodict) q⟩
instance : Step (rIsi K [x, .ty "tuple"] H Q) (∃ d, Typ H x d ∧ Q (.bl (isTupD d)) H) := ⟨fun ⟨d, h, q⟩ => q_isi h.ty (kb_tuple d h.nodict) q⟩
instance : Step (rIsi K [x, .ty "str"] H Q) (∃ d, Typ H x d ∧ Q (.bl (isStrD d)) H) := ⟨fun ⟨d, h, q⟩ => q_isi h.ty (kb_str d h.nodict) q⟩
instance : Step (rIsi K [x, .ty "list"] H Q) (∃ d, Typ H x d ∧ Q (.bl (isLstD d)) H) := ⟨fun ⟨d, h, q⟩ => q_isi h.ty (kb_list d h.nodict) q⟩
-- answers that are there
instance {b : Bool} {R : Bool → Prop} : Step (∃ k, V.bl b = V.bl k ∧ R k) (R b) := ⟨fun h => ⟨b, rfl, h⟩⟩
instance {j : Int} {R : Int → Prop} : Step (∃ i, V.int j = V.int i ∧ R i) (R j) := ⟨fun h => ⟨j, rfl, h⟩⟩
instance {a : Addr} {R : Addr → Prop} : Step (∃ b, V.ref a = V.ref b ∧ R b) (R a) := ⟨fun h => ⟨a, rfl, h⟩⟩
instance {a b : V} {R : V → V → Prop} : Step (∃ v w, [a, b] = [v, w] ∧ R v w) (R a b) := ⟨fun h => ⟨a, b, rfl, h⟩⟩
instance {a : V} {R : V → Prop} : Step (∃ v, [a] = [v] ∧ R v) (R a) := ⟨fun h => ⟨a, rfl, h⟩⟩
instance {A B : Prop} : Step (if true = true then A else B) A := ⟨iteT⟩
instance {A B : Prop} : Step (if false = true then A else B) B := ⟨iteF⟩
instance {A B : Prop} : Step (if (!true) = true then A else B) B := ⟨iteF⟩
instance {A B : Prop} : Step (if (!false) = true then A else B) A := ⟨iteT⟩
-- own defs
instance {g : Sp1} {E : XK} {a : V} : Step (sp1 g [a] H Q E) (g a H Q E) := ⟨fun h => ⟨_, rfl, h⟩⟩
instance {g : Sp2} {E : XK} {a b : V} : Step (sp2 g [a, b] H Q E) (g a b H Q E) := ⟨fun h => ⟨_, _, rfl, h⟩⟩
instance {g : Sp3} {E : XK} {a b c : V} : Step (sp3 g [a, b, c] H Q E) (g a b c H Q E) := ⟨fun h => ⟨_, _, _, rfl, h⟩⟩
instance {g : Sp4} {E : XK} {a b c d : V} : Step (sp4 g [a, b, c, d] H Q E) (g a b c d H Q E) := ⟨fun h => ⟨_, _, _, _, rfl, h⟩⟩
instance {g : Sp5} {E : XK} {a b c d e : V} : Step (sp5 g [a, b, c, d, e] H Q E) (g a b c d e H Q E) := ⟨fun h => ⟨_, _, _, _, _, rfl, h⟩⟩
instance {g : Sp7} {E : XK} {a b c d e i j : V} : Step (sp7 g [a, b, c, d, e, i, j] H Q E) (g a b c d e i j H Q E) := ⟨fun h => ⟨_, _, _, _, _, _, _, rfl, h⟩⟩
end
theorem step {g n : Prop} [s : Step g n] (h : n) : g := s.h h
theorem ex_sq {K : PySem.W.Frag} {H : Hp} {a : Addr} {xs : List V} {S : List V → Prop} (h : IsSq K H a xs) (s : S xs) : ∃ xs, IsSq K H a xs ∧ S xs := ⟨xs, h, s⟩
theorem ex_v {o : Option V} {v : V} {S : V → Prop} (h : o = some v) (s : S v) : ∃ v, o = some v ∧ S v := ⟨v, h, s⟩
theorem ex_typ {H : Hp} {x : V} {d : PyData} {S : PyData → Prop} (h : Typ H x d) (s : S d) : ∃ d, Typ H x d ∧ S d := ⟨d, h, s⟩
theorem ex_at {H : Hp} {x : V} {d : PyData} {S : PyData → Prop} (h : At H d x) (s : S d) : ∃ d, At H d x ∧ S d := ⟨d, h, s⟩
theorem and_new {n : Nat} {H : Hp} {R : Addr → Prop} (l : n ≤ sizeLine) (h : ∀ p, H p = none → R p) : n ≤ sizeLine ∧ ∀ p, H p = none → R p := ⟨l, h⟩

/-! ### the body's context -/
section
variable {P : Program} {w : World} {K : PySem.W.Frag} {mg : Str → Option Value} {base : Heap} {N : List Str} {x : Str} {st : Stmt} {f : Addr} {cdv : Value} {A : Around} {outer : List Env} {s : Shared} {H : Hp} {E : XK}
theorem t_body : Takes (cx P w K mg base N x st f cdv A outer s H E) (fun cls d _ H => E cls d H) := takes_of rfl rfl rfl rfl
theorem p_body : Passes (L2.CX P w) (cx P w K mg base N x st f cdv A outer s H E) E := passes_call (W := fun cls d _ H => E cls d H) t_body fun _ _ _ _ h => h
theorem own_p : PassesOwn (model P w) (cx P w K mg base N x st f cdv A outer s H E).A (cx P w K mg base N x st f cdv A outer s H E).env (cx P w K mg base N x st f cdv A outer s H E).xe := passes_of rfl
end
instance {i j : Int} : Decidable (CPow i j) := by unfold CPow; infer_instance
end Fl

set_option Elab.async false
set_option linter.all false
set_option maxRecDepth 100000
set_option maxHeartbeats 4000000
/-! loops and comprehensions -/
namespace Fl
open PySem PySem.Spec PyProof.Rows L2 RZ
section
variable {σ : L2.St} {H : Hp} {nx bk ct : L2.St → Hp → Prop} {rt : VK} {Q : VK} {te tl : TE} {tb : TS} {g : TG} {tt : TT} {K : PySem.W.Frag} {wi : TI} {vs : List Nat}
/-- what a for asks of its iterator -/
def forG (g : TG) (tb : TS) (D : Ends) (σ : L2.St) : It → Hp → Prop := fun J H1 => ∃ W : Nat → Nat → L2.St → Hp → Prop, (∃ m, W 0 m σ H1) ∧ ∀ i m σ H, W i m σ H →
  (J.stop i H ∧ D.nx σ H) ∨ (J.go i H ∧ ∃ N : L2.St → Hp → Prop, (∀ σ' H', N σ' H' → ∃ m', m' < m ∧ W (i + 1) m' σ' H') ∧ ∀ x H', J.yld i H x H' → g x σ H' fun σ2 H2 => tb { D with nx := N, ct := N, bk := D.nx } σ2 H2)
instance {D : Ends} : Step (tFor wi g tb D σ H) (wi σ H (forG g tb D σ)) := ⟨fun h => h⟩
/-- what a comprehension asks of its iterator -/
def lcG (g : TG) (tt : TT) (te : TE) (vs : List Nat) (σ : L2.St) (Q : VK) : It → Hp → Prop := fun J H1 => ∀ D, H1 D = none → ∃ W : Nat → Nat → Hp → Prop, (∃ m, W 0 m (upd H1 D (.lst []))) ∧ ∀ i m H, W i m H →
  (J.stop i H ∧ Q (.ref D) H) ∨ (J.go i H ∧ ∃ Nx : Hp → Prop, (∀ H', Nx H' → ∃ m', m' < m ∧ W (i + 1) m' H') ∧ ∀ x H', J.yld i H x H' → g x (wipe σ vs) H' fun σ2 H2 => wipe σ2 vs = wipe σ vs ∧ tt σ2 H2 fun b H3 =>
    if b = true then te σ2 H3 fun y H4 => ∃ acc, H4 D = some (.lst acc) ∧ acc.length < sizeLine ∧ Nx (upd H4 D (.lst (acc ++ [y]))) else Nx H3)
instance : Step (tLc wi g tt te vs σ H Q) (wi σ H (lcG g tt te vs σ Q)) := ⟨fun h => h⟩
/-- the iterator of a list, a tuple -/
def ItOf (K : PySem.W.Frag) (x : V) (H : Hp) (R : It → Hp → Prop) : Prop := ∃ a, x = .ref a ∧ (((∃ xs, SqL K H a xs) ∧ R (Itl K a) H) ∨ ((∃ xs, SqT K H a xs) ∧ R (Itt K a) H))
instance {R : It → Hp → Prop} : Step (uIter K tl σ H R) (tl σ H fun x H1 => ItOf K x H1 R) := ⟨fun h => h⟩
instance {ta : TA} {R : It → Hp → Prop} : Step (iRng1 ta σ H R) (ta σ H fun vs H1 => ∃ v, vs = [v] ∧ ∃ j, v = .int j ∧ (-(2 ^ 62) ≤ j ∧ j < 2 ^ 62) ∧ R (Itr 0 j.toNat) H1) := ⟨fun h => by
  have e : (fun (vs : List V) (H1 : Hp) => ∃ v, vs = [v] ∧ ∃ j, v = .int j ∧ (-(2 ^ 62) ≤ j ∧ j < 2 ^ 62) ∧ R (Itr 0 j.toNat) H1) = (fun vs H1 => ∃ j : Int, vs = [.int j] ∧ -(2 ^ 62) ≤ j ∧ j < 2 ^ 62 ∧ R (Itr 0 j.toNat) H1) := by
    funext vs H1
    exact propext ⟨fun ⟨v, e, j, e2, ⟨a, b⟩, r⟩ => ⟨j, by rw [e, e2], a, b, r⟩, fun ⟨j, e, a, b, r⟩ => ⟨_, e, j, rfl, ⟨a, b⟩, r⟩⟩
  show ta σ H _
  rw [← e]
  exact h⟩
instance {ta : TA} {R : It → Hp → Prop} : Step (iRng2 ta σ H R) (ta σ H fun vs H1 => ∃ v w, vs = [v, w] ∧ ∃ i, v = .int i ∧ ∃ j, w = .int j ∧ (-(2 ^ 62) ≤ i ∧ i < 2 ^ 62 ∧ -(2 ^ 62) ≤ j ∧ j < 2 ^ 62) ∧ R (Itr i (j - i).toNat) H1) := ⟨fun h => by
  have e : (fun (vs : List V) (H1 : Hp) => ∃ v w, vs = [v, w] ∧ ∃ i, v = .int i ∧ ∃ j, w = .int j ∧ (-(2 ^ 62) ≤ i ∧ i < 2 ^ 62 ∧ -(2 ^ 62) ≤ j ∧ j < 2 ^ 62) ∧ R (Itr i (j - i).toNat) H1) =
      (fun vs H1 => ∃ i j : Int, vs = [.int i, .int j] ∧ (-(2 ^ 62) ≤ i ∧ i < 2 ^ 62 ∧ -(2 ^ 62) ≤ j ∧ j < 2 ^ 62) ∧ R (Itr i (j - i).toNat) H1) := by
    funext vs H1
    exact propext ⟨fun ⟨v, w, e, i, e2, j, e3, b, r⟩ => ⟨i, j, by rw [e, e2, e3], b, r⟩, fun ⟨i, j, e, b, r⟩ => ⟨_, _, e, i, rfl, j, rfl, b, r⟩⟩
  show ta σ H _
  rw [← e]
  exact h⟩
/-- zip -/
def ZipOf (K : PySem.W.Frag) (x y : V) (H : Hp) (R : It → Hp → Prop) : Prop := ∃ a b xs ys, x = .ref a ∧ y = .ref b ∧ ((SqL K H a xs ∧ SqL K H b ys ∧ R (Itz K a b) H) ∨ (SqT K H a xs ∧ SqT K H b ys ∧ R (ItzT K a b) H))
instance {ta : TA} {R : It → Hp → Prop} : Step (iZipA K ta σ H R) (ta σ H fun vs H1 => ∃ v w, vs = [v, w] ∧ ZipOf K v w H1 R) := ⟨fun h => by
  have e : (fun (vs : List V) (H1 : Hp) => ∃ v w, vs = [v, w] ∧ ZipOf K v w H1 R) = (fun vs H1 => ∃ a b xs ys, vs = [.ref a, .ref b] ∧ ((SqL K H1 a xs ∧ SqL K H1 b ys ∧ R (Itz K a b) H1) ∨ (SqT K H1 a xs ∧ SqT K H1 b ys ∧ R (ItzT K a b) H1))) := by
    funext vs H1
    exact propext ⟨fun ⟨v, w, e, a, b, xs, ys, e1, e2, r⟩ => ⟨a, b, xs, ys, by rw [e, e1, e2], r⟩, fun ⟨a, b, xs, ys, e, r⟩ => ⟨_, _, e, a, b, xs, ys, rfl, rfl, r⟩⟩
  show ta σ H _
  rw [← e]
  exact h⟩
/-- a for over a list that stays -/
theorem for_lst {a : Addr} {xs : List V} (Pv : Nat → L2.St → Hp → Prop) (ha : H a = some (.lst xs)) (h0 : Pv 0 σ H) (hl : ∀ i σ H, i ≤ xs.length → Pv i σ H → H a = some (.lst xs))
    (hs : ∀ i x σ H, xs[i]? = some x → Pv i σ H → g x σ H fun σ2 H2 => tb ⟨Pv (i + 1), rt, nx, Pv (i + 1)⟩ σ2 H2) (hd : ∀ σ H, Pv xs.length σ H → nx σ H) : ItOf K (.ref a) H (forG g tb ⟨nx, rt, bk, ct⟩ σ) :=
  ⟨a, rfl, .inl ⟨⟨xs, .of ha⟩, for_list Pv h0 (fun i σ H hi p => .of (hl i σ H hi p)) hs hd⟩⟩
theorem for_tpl {a : Addr} {xs : List V} (Pv : Nat → L2.St → Hp → Prop) (ha : H a = some (.tup xs)) (h0 : Pv 0 σ H) (hl : ∀ i σ H, i ≤ xs.length → Pv i σ H → H a = some (.tup xs))
    (hs : ∀ i x σ H, xs[i]? = some x → Pv i σ H → g x σ H fun σ2 H2 => tb ⟨Pv (i + 1), rt, nx, Pv (i + 1)⟩ σ2 H2) (hd : ∀ σ H, Pv xs.length σ H → nx σ H) : ItOf K (.ref a) H (forG g tb ⟨nx, rt, bk, ct⟩ σ) :=
  ⟨a, rfl, .inr ⟨⟨xs, .of ha⟩, for_tup Pv h0 (fun i σ H hi p => .of (hl i σ H hi p)) hs hd⟩⟩
theorem for_rng {lo : Int} {n : Nat} (Pv : Nat → L2.St → Hp → Prop) (h0 : Pv 0 σ H)
    (hs : ∀ (i : Nat) σ H, i < n → Pv i σ H → g (.int (lo + i)) σ H fun σ2 H2 => tb ⟨Pv (i + 1), rt, nx, Pv (i + 1)⟩ σ2 H2) (hd : ∀ σ H, Pv n σ H → nx σ H) : forG g tb ⟨nx, rt, bk, ct⟩ σ (Itr lo n) H :=
  for_range Pv h0 hs hd
/-- a comprehension over a list, a tuple, a range; te may change the heap; D is the list that is made -/
theorem lc_lst {a : Addr} {xs : List V} (Pv : Addr → Nat → Hp → Prop) (ha : H a = some (.lst xs)) (h0 : ∀ D, H D = none → Pv D 0 (upd H D (.lst []))) (hl : ∀ D i H', H D = none → i ≤ xs.length → Pv D i H' → H' a = some (.lst xs))
    (hs : ∀ D i x H', H D = none → xs[i]? = some x → Pv D i H' → g x (wipe σ vs) H' fun σ2 H2 => wipe σ2 vs = wipe σ vs ∧ tt σ2 H2 fun b H3 =>
      if b = true then te σ2 H3 fun y H4 => ∃ acc, H4 D = some (.lst acc) ∧ acc.length < sizeLine ∧ Pv D (i + 1) (upd H4 D (.lst (acc ++ [y]))) else Pv D (i + 1) H3)
    (hd : ∀ D H', H D = none → Pv D xs.length H' → Q (.ref D) H') : ItOf K (.ref a) H (lcG g tt te vs σ Q) :=
  ⟨a, rfl, .inl ⟨⟨xs, .of ha⟩, fun D hD => lc_list (Pv D) (h0 D hD) (fun i H' hi p => .of (hl D i H' hD hi p)) (fun i x H' e p => hs D i x H' hD e p) fun H' p => hd D H' hD p⟩⟩
theorem lc_tpl {a : Addr} {xs : List V} (Pv : Addr → Nat → Hp → Prop) (ha : H a = some (.tup xs)) (h0 : ∀ D, H D = none → Pv D 0 (upd H D (.lst []))) (hl : ∀ D i H', H D = none → i ≤ xs.length → Pv D i H' → H' a = some (.tup xs))
    (hs : ∀ D i x H', H D = none → xs[i]? = some x → Pv D i H' → g x (wipe σ vs) H' fun σ2 H2 => wipe σ2 vs = wipe σ vs ∧ tt σ2 H2 fun b H3 =>
      if b = true then te σ2 H3 fun y H4 => ∃ acc, H4 D = some (.lst acc) ∧ acc.length < sizeLine ∧ Pv D (i + 1) (upd H4 D (.lst (acc ++ [y]))) else Pv D (i + 1) H3)
    (hd : ∀ D H', H D = none → Pv D xs.length H' → Q (.ref D) H') : ItOf K (.ref a) H (lcG g tt te vs σ Q) :=
  ⟨a, rfl, .inr ⟨⟨xs, .of ha⟩, fun D hD => lc_tup (Pv D) (h0 D hD) (fun i H' hi p => .of (hl D i H' hD hi p)) (fun i x H' e p => hs D i x H' hD e p) fun H' p => hd D H' hD p⟩⟩
theorem lc_rng {lo : Int} {n : Nat} (Pv : Addr → Nat → Hp → Prop) (h0 : ∀ D, H D = none → Pv D 0 (upd H D (.lst [])))
    (hs : ∀ D (i : Nat) H', H D = none → i < n → Pv D i H' → g (.int (lo + i)) (wipe σ vs) H' fun σ2 H2 => wipe σ2 vs = wipe σ vs ∧ tt σ2 H2 fun b H3 =>
      if b = true then te σ2 H3 fun y H4 => ∃ acc, H4 D = some (.lst acc) ∧ acc.length < sizeLine ∧ Pv D (i + 1) (upd H4 D (.lst (acc ++ [y]))) else Pv D (i + 1) H3)
    (hd : ∀ D H', H D = none → Pv D n H' → Q (.ref D) H') : lcG g tt te vs σ Q (Itr lo n) H :=
  fun D hD => lc_range (Pv D) (h0 D hD) (fun i H' hi p => hs D i H' hD hi p) fun H' p => hd D H' hD p
/-- .. each item by a function of its place, nothing changed: ys is what comes -/
def Pure (te : TE) (σ : L2.St) (H : Hp) (y : V) : Prop := ∀ Q : VK, (∀ H2, Same H H2 → Q y H2) → te σ H Q
theorem take_snoc {α : Type} {ys : List α} {i : Nat} {y : α} (h : ys[i]? = some y) : ys.take i ++ [y] = ys.take (i + 1) := by
  rw [List.take_add_one, h]
  rfl
section
variable {j : Nat} {xs ys : List V} {a : Addr}
theorem pure_step (hl : ys.length < 100000) (hw : ∀ x, wipe ((wipe σ vs).set j (some x)) vs = wipe σ vs) {D : Addr} {i : Nat} {x y : V} {H' : Hp} (hD : H D = none) (hy : ys[i]? = some y) (p : H' D = some (.lst (ys.take i)) ∧ Same H H')
    (hp : Pure te ((wipe σ vs).set j (some x)) H' y) : gName j x (wipe σ vs) H' fun σ2 H2 => wipe σ2 vs = wipe σ vs ∧ tYes σ2 H2 fun b H3 =>
      if b = true then te σ2 H3 fun y H4 => ∃ acc, H4 D = some (.lst acc) ∧ acc.length < sizeLine ∧ (upd H4 D (.lst (acc ++ [y]))) D = some (.lst (ys.take (i + 1))) ∧ Same H (upd H4 D (.lst (acc ++ [y]))) else H3 D = some (.lst (ys.take (i + 1))) ∧ Same H H3 := by
  refine ⟨hw x, ?_⟩
  refine Step.h (n := if true = true then _ else _) ?_
  rw [if_pos rfl]
  refine hp _ fun H2 e => ⟨_, e _ _ p.1, ?_, ?_, ?_⟩
  · refine small_lt (Nat.lt_of_le_of_lt ?_ hl)
    rw [List.length_take]
    exact Nat.min_le_right _ _
  · rw [upd_same, take_snoc hy]
  · exact Same.mut (L2.Same.trans p.2 e) hD
theorem lc_seqL (ys : List V) (ha : H a = some (.lst xs)) (hy : ys.length = xs.length) (hl : ys.length < 100000) (hw : ∀ x, wipe ((wipe σ vs).set j (some x)) vs = wipe σ vs)
    (hs : ∀ (i : Nat) x y H', xs[i]? = some x → ys[i]? = some y → Same H H' → Pure te ((wipe σ vs).set j (some x)) H' y) (hd : ∀ D H', H D = none → Same H H' → H' D = some (.lst ys) → Q (.ref D) H') : ItOf K (.ref a) H (lcG (gName j) tYes te vs σ Q) := by
  refine lc_lst (fun D i H' => H' D = some (.lst (ys.take i)) ∧ Same H H') ha (fun D hD => ⟨upd_same, Same.new (.refl _) hD⟩) (fun D i H' _ _ p => p.2 _ _ ha) (fun D i x H' hD e p => ?_) fun D H' hD p => ?_
  · have hi : i < ys.length := by
      rw [hy]
      exact (List.getElem?_eq_some_iff.mp e).1
    exact pure_step hl hw hD (List.getElem?_eq_getElem hi) p (hs i x _ H' e (List.getElem?_eq_getElem hi) p.2)
  · refine hd D H' hD p.2 ?_
    rw [← hy, List.take_length] at p
    exact p.1
theorem lc_seqT (ys : List V) (ha : H a = some (.tup xs)) (hy : ys.length = xs.length) (hl : ys.length < 100000) (hw : ∀ x, wipe ((wipe σ vs).set j (some x)) vs = wipe σ vs)
    (hs : ∀ (i : Nat) x y H', xs[i]? = some x → ys[i]? = some y → Same H H' → Pure te ((wipe σ vs).set j (some x)) H' y) (hd : ∀ D H', H D = none → Same H H' → H' D = some (.lst ys) → Q (.ref D) H') : ItOf K (.ref a) H (lcG (gName j) tYes te vs σ Q) := by
  refine lc_tpl (fun D i H' => H' D = some (.lst (ys.take i)) ∧ Same H H') ha (fun D hD => ⟨upd_same, Same.new (.refl _) hD⟩) (fun D i H' _ _ p => p.2 _ _ ha) (fun D i x H' hD e p => ?_) fun D H' hD p => ?_
  · have hi : i < ys.length := by
      rw [hy]
      exact (List.getElem?_eq_some_iff.mp e).1
    exact pure_step hl hw hD (List.getElem?_eq_getElem hi) p (hs i x _ H' e (List.getElem?_eq_getElem hi) p.2)
  · refine hd D H' hD p.2 ?_
    rw [← hy, List.take_length] at p
    exact p.1
theorem lc_seqR {lo : Int} {n : Nat} (ys : List V) (hy : ys.length = n) (hl : ys.length < 100000) (hw : ∀ x, wipe ((wipe σ vs).set j (some x)) vs = wipe σ vs)
    (hs : ∀ (i : Nat) y H', i < n → ys[i]? = some y → Same H H' → Pure te ((wipe σ vs).set j (some (.int (lo + i)))) H' y) (hd : ∀ D H', H D = none → Same H H' → H' D = some (.lst ys) → Q (.ref D) H') : lcG (gName j) tYes te vs σ Q (Itr lo n) H := by
  refine lc_rng (fun D i H' => H' D = some (.lst (ys.take i)) ∧ Same H H') (fun D hD => ⟨upd_same, Same.new (.refl _) hD⟩) (fun D i H' hD hi p => ?_) fun D H' hD p => ?_
  · have hi' : i < ys.length := by rw [hy]; exact hi
    exact pure_step hl hw hD (List.getElem?_eq_getElem hi') p (hs i _ H' hi (List.getElem?_eq_getElem hi') p.2)
  · refine hd D H' hD p.2 ?_
    rw [← hy, List.take_length] at p
    exact p.1
end
/-- .. with a test: which items stay, and what comes of each -/
def PureT (tt : TT) (σ : L2.St) (H : Hp) (b : Bool) : Prop := ∀ Q : Bool → Hp → Prop, (∀ H2, Same H H2 → Q b H2) → tt σ H Q
theorem filterMap_snoc {α β : Type} {xs : List α} {f : α → Option β} {i : Nat} {x : α} (h : xs[i]? = some x) : (xs.take (i + 1)).filterMap f = (xs.take i).filterMap f ++ (f x).toList := by
  rw [← take_snoc h, List.filterMap_append]
  cases e : f x <;> simp [List.filterMap, e]
theorem filt_step {f : V → Option V} {j : Nat} {xs : List V} (hl : xs.length < 100000) (hw : ∀ x, wipe ((wipe σ vs).set j (some x)) vs = wipe σ vs) {D : Addr} {i : Nat} {x : V} {H' : Hp} (hD : H D = none) (e : xs[i]? = some x)
    (p : H' D = some (.lst ((xs.take i).filterMap f)) ∧ Same H H') (ht : PureT tt ((wipe σ vs).set j (some x)) H' (f x).isSome) (hp : ∀ y H2, f x = some y → Same H' H2 → Pure te ((wipe σ vs).set j (some x)) H2 y) :
    gName j x (wipe σ vs) H' fun σ2 H2 => wipe σ2 vs = wipe σ vs ∧ tt σ2 H2 fun b H3 =>
      if b = true then te σ2 H3 fun y H4 => ∃ acc, H4 D = some (.lst acc) ∧ acc.length < sizeLine ∧ (upd H4 D (.lst (acc ++ [y]))) D = some (.lst ((xs.take (i + 1)).filterMap f)) ∧ Same H (upd H4 D (.lst (acc ++ [y])))
      else H3 D = some (.lst ((xs.take (i + 1)).filterMap f)) ∧ Same H H3 := by
  refine ⟨hw x, ht _ fun H2 e2 => ?_⟩
  cases ex : f x with
  | none =>
    refine iteF ⟨?_, L2.Same.trans p.2 e2⟩
    rw [filterMap_snoc e, ex]
    rw [show ((xs.take i).filterMap f ++ (none : Option V).toList) = (xs.take i).filterMap f by simp]
    exact e2 _ _ p.1
  | some y =>
    refine iteT (hp y H2 ex e2 _ fun H3 e3 => ⟨_, e3 _ _ (e2 _ _ p.1), ?_, ?_, ?_⟩)
    · refine small_lt (Nat.lt_of_le_of_lt (Nat.le_trans (List.length_filterMap_le _ _) ?_) hl)
      rw [List.length_take]
      exact Nat.min_le_right _ _
    · rw [upd_same, filterMap_snoc e, ex]
      rfl
    · exact Same.mut (L2.Same.trans p.2 (L2.Same.trans e2 e3)) hD
theorem lc_filtL {j : Nat} {xs : List V} {a : Addr} (f : V → Option V) (ha : H a = some (.lst xs)) (hl : xs.length < 100000) (hw : ∀ x, wipe ((wipe σ vs).set j (some x)) vs = wipe σ vs)
    (ht : ∀ x H', x ∈ xs → Same H H' → PureT tt ((wipe σ vs).set j (some x)) H' (f x).isSome) (hp : ∀ x y H', x ∈ xs → f x = some y → Same H H' → Pure te ((wipe σ vs).set j (some x)) H' y)
    (hd : ∀ D H', H D = none → Same H H' → H' D = some (.lst (xs.filterMap f)) → Q (.ref D) H') : ItOf K (.ref a) H (lcG (gName j) tt te vs σ Q) := by
  refine lc_lst (fun D i H' => H' D = some (.lst ((xs.take i).filterMap f)) ∧ Same H H') ha (fun D hD => ⟨by rw [upd_same]; rfl, Same.new (.refl _) hD⟩) (fun D i H' _ _ p => p.2 _ _ ha) (fun D i x H' hD e p => ?_) fun D H' hD p => ?_
  · have hm := List.mem_of_getElem? e
    exact filt_step hl hw hD e p (ht x H' hm p.2) fun y H2 ey e2 => hp x y H2 hm ey (L2.Same.trans p.2 e2)
  · rw [List.take_length] at p
    exact hd D H' hD p.2 p.1
theorem lc_filtR {j : Nat} {n : Nat} {lo : Int} (f : V → Option V) (hl : n < 100000) (hw : ∀ x, wipe ((wipe σ vs).set j (some x)) vs = wipe σ vs)
    (ht : ∀ (i : Nat) H', i < n → Same H H' → PureT tt ((wipe σ vs).set j (some (.int (lo + i)))) H' (f (.int (lo + i))).isSome) (hp : ∀ (i : Nat) y H', i < n → f (.int (lo + i)) = some y → Same H H' → Pure te ((wipe σ vs).set j (some (.int (lo + i)))) H' y)
    (hd : ∀ D H', H D = none → Same H H' → H' D = some (.lst (((List.range n).map fun (i : Nat) => V.int (lo + i)).filterMap f)) → Q (.ref D) H') : lcG (gName j) tt te vs σ Q (Itr lo n) H := by
  have hlen : ((List.range n).map fun (i : Nat) => V.int (lo + i)).length = n := by simp
  refine lc_rng (fun D i H' => H' D = some (.lst (((((List.range n).map fun (i : Nat) => V.int (lo + i))).take i).filterMap f)) ∧ Same H H') (fun D hD => ⟨by rw [upd_same]; rfl, Same.new (.refl _) hD⟩) (fun D i H' hD hi p => ?_) fun D H' hD p => ?_
  · have e : ((List.range n).map fun (i : Nat) => V.int (lo + i))[i]? = some (.int (lo + i)) := by simp [hi]
    exact filt_step (by rw [hlen]; exact hl) hw hD e p (ht i H' hi p.2) fun y H2 ey e2 => hp i y H2 hi ey (L2.Same.trans p.2 e2)
  · refine hd D H' hD p.2 ?_
    rw [List.take_of_length_le (by rw [hlen]; exact Nat.le_refl _)] at p
    exact p.1
/-- .. each item new data -/
def PureD (te : TE) (σ : L2.St) (H : Hp) (d : PyData) : Prop := ∀ R : VK, (∀ y H2, Same H H2 → At H2 d y → R y H2) → te σ H R
theorem tupsOnly_take : ∀ {ds : List PyData} (n : Nat), tupsOnly ds = true → tupsOnly (ds.take n) = true
  | [], n, _ => by simp [tupsOnly]
  | _ :: _, 0, _ => rfl
  | d :: ds, n + 1, h => by
    have t' : tupOnly d = true ∧ tupsOnly ds = true := by simpa [tupsOnly] using h
    show (tupOnly d && tupsOnly (ds.take n)) = true
    rw [t'.1, tupsOnly_take n t'.2]
    rfl
theorem dat_step {j : Nat} {ds : List PyData} (hl : ds.length < 100000) (tup : tupsOnly ds = true) (hw : ∀ x, wipe ((wipe σ vs).set j (some x)) vs = wipe σ vs) {D : Addr} {i : Nat} {x : V} {d : PyData} {H' : Hp} (hD : H D = none) (hy : ds[i]? = some d)
    (p : ∃ ys, H' D = some (.lst ys) ∧ AtAll H' (ds.take i) ys ∧ Same H H') (hp : PureD te ((wipe σ vs).set j (some x)) H' d) : gName j x (wipe σ vs) H' fun σ2 H2 => wipe σ2 vs = wipe σ vs ∧ tYes σ2 H2 fun b H3 =>
      if b = true then te σ2 H3 fun y H4 => ∃ acc, H4 D = some (.lst acc) ∧ acc.length < sizeLine ∧ ∃ ys, (upd H4 D (.lst (acc ++ [y]))) D = some (.lst ys) ∧ AtAll (upd H4 D (.lst (acc ++ [y]))) (ds.take (i + 1)) ys ∧ Same H (upd H4 D (.lst (acc ++ [y])))
      else ∃ ys, H3 D = some (.lst ys) ∧ AtAll H3 (ds.take (i + 1)) ys ∧ Same H H3 := by
  obtain ⟨ys, p1, p2, p3⟩ := p
  refine ⟨hw x, ?_⟩
  refine Step.h (n := if true = true then _ else _) ?_
  rw [if_pos rfl]
  refine hp _ fun y H2 e at2 => ⟨_, e _ _ p1, ?_, _, upd_same, ?_, ?_⟩
  · have l := p2.length
    rw [List.length_take] at l
    exact small_lt (by omega)
  · have lt : LeT H2 (upd H2 D (.lst (ys ++ [y]))) := LeT.put1 (e _ _ p1) (.refl _)
    rw [← take_snoc hy]
    refine AtAll.append (AtAll.leT ((Same.le e).let.trans lt) (tupsOnly_take i tup) p2) (AtAll.one (At.leT lt ?_ at2))
    have q := List.mem_of_getElem? hy
    have all : ∀ {es : List PyData} {z : PyData}, tupsOnly es = true → z ∈ es → tupOnly z = true := by
      intro es
      induction es with
      | nil => intro z _ h; cases h
      | cons a r ih =>
        intro z h hz
        have t' : tupOnly a = true ∧ tupsOnly r = true := by simpa [tupsOnly] using h
        rcases List.mem_cons.mp hz with h1 | h1
        · rw [h1]; exact t'.1
        · exact ih t'.2 h1
    exact all tup q
  · exact Same.mut (L2.Same.trans p3 e) hD
theorem lc_datR {lo : Int} {n j : Nat} (ds : List PyData) (hy : ds.length = n) (hl : ds.length < 100000) (tup : tupsOnly ds = true) (hw : ∀ x, wipe ((wipe σ vs).set j (some x)) vs = wipe σ vs)
    (hs : ∀ (i : Nat) d H', i < n → ds[i]? = some d → Same H H' → PureD te ((wipe σ vs).set j (some (.int (lo + i)))) H' d) (hd : ∀ D H' ys, H D = none → Same H H' → H' D = some (.lst ys) → AtAll H' ds ys → Q (.ref D) H') : lcG (gName j) tYes te vs σ Q (Itr lo n) H := by
  refine lc_rng (fun D i H' => ∃ ys, H' D = some (.lst ys) ∧ AtAll H' (ds.take i) ys ∧ Same H H') (fun D hD => ⟨[], upd_same, by rw [List.take_zero]; rfl, Same.new (.refl _) hD⟩) (fun D i H' hD hi p => ?_) fun D H' hD p => ?_
  · have hi' : i < ds.length := by rw [hy]; exact hi
    obtain ⟨ys, p1, p2, p3⟩ := p
    exact dat_step hl tup hw hD (List.getElem?_eq_getElem hi') ⟨ys, p1, p2, p3⟩ (hs i _ H' hi (List.getElem?_eq_getElem hi') p3)
  · obtain ⟨ys, p1, p2, p3⟩ := p
    rw [← hy, List.take_length] at p2
    exact hd D H' ys hD p3 p1 p2
/-- a comprehension over zip of two tuples, two lists; the pair is a new tuple each time -/
theorem lc_zipR {It0 : It} {xs zs : List V} (Sq : Hp → Prop) (hgo : ∀ (i : Nat) H' x z, Sq H' → xs[i]? = some x → zs[i]? = some z → It0.go i H') (hyld : ∀ (i : Nat) H' x z v H2, Sq H' → xs[i]? = some x → zs[i]? = some z → It0.yld i H' v H2 → ∃ T, v = .ref T ∧ H' T = none ∧ H2 = upd H' T (.tup [x, z]))
    (hstop : ∀ (i : Nat) H', Sq H' → xs.length ≤ i → It0.stop i H') (hsq : ∀ H', Same H H' → Sq H') {j1 j2 : Nat} (hlen : xs.length = zs.length) (ys : List V) (hy : ys.length = xs.length) (hl : ys.length < 100000)
    (hw : ∀ x z, wipe (((wipe σ vs).set j1 (some x)).set j2 (some z)) vs = wipe σ vs)
    (hs : ∀ (i : Nat) x z y H', xs[i]? = some x → zs[i]? = some z → ys[i]? = some y → Same H H' → Pure te (((wipe σ vs).set j1 (some x)).set j2 (some z)) H' y) (hd : ∀ D H', H D = none → Same H H' → H' D = some (.lst ys) → Q (.ref D) H') :
    lcG (gTup K 2 (gCons (gName j1) (gCons (gName j2) gNil))) tYes te vs σ Q It0 H := by
  intro D hD
  refine ⟨fun i m H' => m = xs.length - i ∧ i ≤ xs.length ∧ H' D = some (.lst (ys.take i)) ∧ Same H H', ⟨_, rfl, Nat.zero_le _, upd_same, Same.new (.refl _) hD⟩, ?_⟩
  rintro i m H' ⟨rfl, hi, p1, p2⟩
  by_cases hlt : i < xs.length
  · have ex : xs[i]? = some xs[i] := List.getElem?_eq_getElem hlt
    have ez : zs[i]? = some (zs[i]'(hlen ▸ hlt)) := List.getElem?_eq_getElem _
    have ey : ys[i]? = some (ys[i]'(hy ▸ hlt)) := List.getElem?_eq_getElem _
    refine .inr ⟨hgo i H' _ _ (hsq _ p2) ex ez, fun H3 => H3 D = some (.lst (ys.take (i + 1))) ∧ Same H H3, fun H3 q => ⟨xs.length - (i + 1), by omega, rfl, hlt, q.1, q.2⟩, fun v H2 hv => ?_⟩
    obtain ⟨T, rfl, hT, rfl⟩ := hyld i H' _ _ v H2 (hsq _ p2) ex ez hv
    refine ⟨T, _, rfl, .of upd_same, rfl, _, _, rfl, _, _, rfl, rfl, hw _ _, ?_⟩
    refine Step.h (n := if true = true then _ else _) ?_
    rw [if_pos rfl]
    refine hs i _ _ _ (upd H' T (.tup [xs[i], zs[i]'(hlen ▸ hlt)])) ex ez ey (Same.new p2 hT) _ fun H3 e3 => ?_
    have hDT : D ≠ T := ne_of_none p1 hT
    have pD : H3 D = some (.lst (ys.take i)) := e3 _ _ (by rw [upd_ne hDT]; exact p1)
    refine ⟨_, pD, ?_, ?_, ?_⟩
    · refine small_lt (Nat.lt_of_le_of_lt ?_ hl)
      rw [List.length_take]
      exact Nat.min_le_right _ _
    · rw [upd_same, take_snoc ey]
    · exact Same.mut (L2.Same.trans (Same.new p2 hT) e3) hD
  · have e : i = xs.length := by omega
    subst e
    rw [← hy, List.take_length] at p1
    exact .inl ⟨hstop _ H' (hsq _ p2) (Nat.le_refl _), hd D H' hD p2 p1⟩
theorem sqT_inj {K : PySem.W.Frag} {H : Hp} {a : Addr} {i : Nat} {xs : List V} {x : V} (f : ∀ xs, SqT K H a xs → xs[i]? = some x) (h : H a = some (.tup xs)) : xs[i]? = some x := f xs (.of h)
theorem lc_zipT {a b : Addr} {xs zs : List V} {j1 j2 : Nat} (ys : List V) (ha : H a = some (.tup xs)) (hb : H b = some (.tup zs)) (hlen : xs.length = zs.length) (hy : ys.length = xs.length) (hl : ys.length < 100000)
    (hw : ∀ x z, wipe (((wipe σ vs).set j1 (some x)).set j2 (some z)) vs = wipe σ vs)
    (hs : ∀ (i : Nat) x z y H', xs[i]? = some x → zs[i]? = some z → ys[i]? = some y → Same H H' → Pure te (((wipe σ vs).set j1 (some x)).set j2 (some z)) H' y) (hd : ∀ D H', H D = none → Same H H' → H' D = some (.lst ys) → Q (.ref D) H') :
    ZipOf K (.ref a) (.ref b) H (lcG (gTup K 2 (gCons (gName j1) (gCons (gName j2) gNil))) tYes te vs σ Q) := by
  refine ⟨a, b, xs, zs, rfl, rfl, .inr ⟨.of ha, .of hb, lc_zipR (It0 := ItzT K a b) (xs := xs) (zs := zs) (fun H' => H' a = some (.tup xs) ∧ H' b = some (.tup zs)) (fun i H' x z h e1 e2 => ⟨xs, zs, x, z, .of h.1, .of h.2, e1, e2⟩) (fun i H' x z v H2 h e1 e2 hv => ?_)
    (fun i H' h hi => ⟨xs, zs, .of h.1, .of h.2, .inl hi⟩) (fun H' e => ⟨e _ _ ha, e _ _ hb⟩) hlen ys hy hl hw hs hd⟩⟩
  obtain ⟨T, x', z', rfl, hT, rfl, f1, f2⟩ := hv
  have q1 : x' = x := Option.some.inj ((f1 _ (.of h.1)).symm.trans e1)
  have q2 : z' = z := Option.some.inj ((f2 _ (.of h.2)).symm.trans e2)
  subst q1 q2
  exact ⟨T, rfl, hT, rfl⟩
theorem lc_zipL {a b : Addr} {xs zs : List V} {j1 j2 : Nat} (ys : List V) (ha : H a = some (.lst xs)) (hb : H b = some (.lst zs)) (hlen : xs.length = zs.length) (hy : ys.length = xs.length) (hl : ys.length < 100000)
    (hw : ∀ x z, wipe (((wipe σ vs).set j1 (some x)).set j2 (some z)) vs = wipe σ vs)
    (hs : ∀ (i : Nat) x z y H', xs[i]? = some x → zs[i]? = some z → ys[i]? = some y → Same H H' → Pure te (((wipe σ vs).set j1 (some x)).set j2 (some z)) H' y) (hd : ∀ D H', H D = none → Same H H' → H' D = some (.lst ys) → Q (.ref D) H') :
    ZipOf K (.ref a) (.ref b) H (lcG (gTup K 2 (gCons (gName j1) (gCons (gName j2) gNil))) tYes te vs σ Q) := by
  refine ⟨a, b, xs, zs, rfl, rfl, .inl ⟨.of ha, .of hb, lc_zipR (It0 := Itz K a b) (xs := xs) (zs := zs) (fun H' => H' a = some (.lst xs) ∧ H' b = some (.lst zs)) (fun i H' x z h e1 e2 => ⟨xs, zs, x, z, .of h.1, .of h.2, e1, e2⟩) (fun i H' x z v H2 h e1 e2 hv => ?_)
    (fun i H' h hi => ⟨xs, zs, .of h.1, .of h.2, .inl hi⟩) (fun H' e => ⟨e _ _ ha, e _ _ hb⟩) hlen ys hy hl hw hs hd⟩⟩
  obtain ⟨T, x', z', rfl, hT, rfl, f1, f2⟩ := hv
  have q1 : x' = x := Option.some.inj ((f1 _ (.of h.1)).symm.trans e1)
  have q2 : z' = z := Option.some.inj ((f2 _ (.of h.2)).symm.trans e2)
  subst q1 q2
  exact ⟨T, rfl, hT, rfl⟩
/-- while, by a word with its measure -/
theorem while_go {c : TT} (W : Nat → L2.St → Hp → Prop) (m : Nat) (h0 : W m σ H) (turn : ∀ m σ H, W m σ H → c σ H fun b H1 => if b = true then ∃ N : L2.St → Hp → Prop, (∀ σ' H', N σ' H' → ∃ m', m' < m ∧ W m' σ' H') ∧ tb ⟨N, rt, nx, N⟩ σ H1 else nx σ H1) : tWhile c tb ⟨nx, rt, bk, ct⟩ σ H :=
  ⟨W, ⟨m, h0⟩, turn⟩
theorem while_turn {W : Nat → L2.St → Hp → Prop} {m : Nat} (h : tb ⟨fun σ' H' => ∃ m', m' < m ∧ W m' σ' H', rt, nx, fun σ' H' => ∃ m', m' < m ∧ W m' σ' H'⟩ σ H) :
    ∃ N : L2.St → Hp → Prop, (∀ σ' H', N σ' H' → ∃ m', m' < m ∧ W m' σ' H') ∧ tb ⟨N, rt, nx, N⟩ σ H := ⟨_, fun _ _ n => n, h⟩
end

/-! ### more steps -/
section
variable {σ : L2.St} {H : Hp} {Q : VK} {K : PySem.W.Frag} {a b l p : Addr} {v x y : V}
/-- what comes of a thing that is made, of a call that changes nothing, of one that draws -/
def NewQ (H : Hp) (R : Addr → Prop) : Prop := ∀ p, H p = none → R p
def SameQ (H : Hp) (o : HO) (R : Addr → Hp → Prop) : Prop := ∀ a H', Same H H' → H' a = some o → R a H'
def SmQ (H : Hp) (R : Hp → Prop) : Prop := ∀ H', Same H H' → R H'
def GsQ (s : Addr) (H : Hp) (R : Hp → Prop) : Prop := ∀ H', Gs s H H' → R H'
/-- what comes of a draw below n -/
def NextQ (s : Addr) (n : Int) (H : Hp) (R : Int → Hp → Prop) : Prop := ∀ y r : Int, 0 ≤ r → r < n → R r (upd H s (.lst [.int y]))
theorem in_next {n : Int} {R : Int → Hp → Prop} (h : ∀ y r : Int, 0 ≤ r → r < n → R r (upd H l (.lst [.int y]))) : NextQ l n H R := h
/-- what comes of a number that is drawn -/
def NumQ (s : Addr) (H : Hp) (R : Int → Hp → Prop) : Prop := ∀ (z : Int) H', -1000000000 ≤ z → z ≤ 1000000000 → Gs s H H' → R z H'
theorem in_num {R : Int → Hp → Prop} (h : ∀ (z : Int) H', -1000000000 ≤ z → z ≤ 1000000000 → Gs l H H' → R z H') : NumQ l H R := h
/-- what comes of a thing that is drawn -/
def DrwQ {α : Type} (s : Addr) (H : Hp) (F : α → V → Hp → Prop) (R : α → V → Hp → Prop) : Prop := ∀ a v H', Gs s H H' → F a v H' → R a v H'
theorem in_drw {α : Type} {F R : α → V → Hp → Prop} (h : ∀ a v H', Gs l H H' → F a v H' → R a v H') : DrwQ l H F R := h
/-- what comes of a thing that is made -/
def MadQ {α : Type} (H : Hp) (F : α → V → Hp → Prop) (R : α → V → Hp → Prop) : Prop := ∀ a v H', Same H H' → F a v H' → R a v H'
theorem in_mad {α : Type} {F R : α → V → Hp → Prop} (h : ∀ a v H', Same H H' → F a v H' → R a v H') : MadQ H F R := h
/-- the script: known to its object, or the top's own -/
def Scr (K : PySem.W.Frag) (H : Hp) (a : Addr) (ns : List Int) : Prop := (∃ o, H a = some (.frz o (.lst (ns.map V.int)))) ∨ ∀ H', SqL K H' a (ns.map V.int)
theorem Scr.sq {ns : List Int} (h : Scr K H a ns) : SqL K H a (ns.map V.int) := by
  rcases h with ⟨o, h⟩ | h
  · exact .inl (.inr ⟨o, h⟩)
  · exact h H
theorem Scr.le1 {H' : Hp} {ns : List Int} (h : Scr K H a ns) (e : Le H H') : Scr K H' a ns := by
  rcases h with ⟨o, h⟩ | h
  · exact .inl ⟨o, e _ _ h (fun x z => by cases z)⟩
  · exact .inr h
theorem Scr.of {ns : List Int} (o : Only H) (h : SqL K H a (ns.map V.int)) : Scr K H a ns := by
  rcases h with (h | h) | h
  · rcases o a with z | ⟨ob, xs, z⟩
    · rw [h] at z; cases z
    · rw [h] at z; cases z
  · exact .inl h
  · exact .inr fun _ => .inr h
def IntQ (R : Int → Prop) : Prop := ∀ z : Int, R z
theorem in_int {R : Int → Prop} (h : ∀ z : Int, R z) : IntQ R := h
def MixQ (R : Int → Prop) : Prop := ∀ z : Int, 0 ≤ z → z < 2147483647 → R z
theorem in_mix {R : Int → Prop} (h : ∀ z : Int, 0 ≤ z → z < 2147483647 → R z) : MixQ R := h
theorem ex_scr {ns : List Int} {S : List Int → Prop} (h : Scr K H a ns) (s : S ns) : ∃ ns, Scr K H a ns ∧ S ns := ⟨ns, h, s⟩
theorem in_same {o : HO} {R : Addr → Hp → Prop} (h : ∀ a H', Same H H' → H' a = some o → R a H') : SameQ H o R := h
theorem in_new {R : Addr → Prop} (h : ∀ a, H a = none → R a) : NewQ H R := h
theorem in_sm {R : Hp → Prop} (h : ∀ H', Same H H' → R H') : SmQ H R := h
theorem in_gs {R : Hp → Prop} (h : ∀ H', Gs l H H' → R H') : GsQ l H R := h
theorem ex_o {R : HO → Prop} {o : HO} (h : H a = some o) (r : R o) : ∃ o, H a = some o ∧ R o := ⟨o, h, r⟩
theorem ex_xs {R : List V → Prop} {xs : List V} (h : H a = some (.lst xs)) (r : R xs) : ∃ xs, H a = some (.lst xs) ∧ R xs := ⟨xs, h, r⟩
theorem ex_bs {R : List Bool → Prop} {xs : List Bool} (h : H a = some (.lst (xs.map V.bl))) (r : R xs) : ∃ xs : List Bool, H a = some (.lst (xs.map V.bl)) ∧ R xs := ⟨xs, h, r⟩
theorem ex_ns {R : List Int → Prop} {xs : List Int} (h : H a = some (.lst (xs.map V.int))) (r : R xs) : ∃ xs : List Int, H a = some (.lst (xs.map V.int)) ∧ R xs := ⟨xs, h, r⟩
instance : Step (rAll K [.ref a] H Q) (∃ bs : List Bool, H a = some (.lst (bs.map V.bl)) ∧ Q (.bl (bs.all id)) H) := ⟨fun ⟨bs, h, q⟩ => ⟨a, bs, rfl, .of h, q⟩⟩
instance : Step (rAny K [.ref a] H Q) (∃ bs : List Bool, H a = some (.lst (bs.map V.bl)) ∧ Q (.bl (bs.any id)) H) := ⟨fun ⟨bs, h, q⟩ => ⟨a, bs, rfl, .of h, q⟩⟩
instance : Step (rSum K [.ref a] H Q) (∃ ns : List Int, H a = some (.lst (ns.map V.int)) ∧ Q (.int ns.sum) H) := ⟨fun ⟨bs, h, q⟩ => ⟨a, bs, rfl, .of h, q⟩⟩
instance : Step (rSortedI K [.ref a] H Q) (∃ ns : List Int, H a = some (.lst (ns.map V.int)) ∧ ∀ (ns' : List Int) (p : Addr), ns'.Perm ns → ns'.Pairwise (· ≤ ·) → H p = none → Q (.ref p) (upd H p (.lst (ns'.map V.int)))) := ⟨fun ⟨bs, h, q⟩ => ⟨a, bs, rfl, .of h, q⟩⟩
/-- slices -/
def SlQ (o : HO) (lo hi : Option Int) (H : Hp) (Q : VK) : Prop := match o with
  | .tup xs => ∀ a H', Same H H' → H' a = some (.tup (cutV xs lo hi)) → Q (.ref a) H'
  | .lst xs => ∀ a, H a = none → Q (.ref a) (upd H a (.lst (cutV xs lo hi)))
  | _ => False
theorem cut_whole {xs : List V} {lo hi : Option Int} (h : HT.sIx xs.length 0 lo = 0 ∧ HT.sIx xs.length xs.length hi = xs.length) : cutV xs lo hi = xs := by
  unfold cutV
  rw [h.1, h.2, Nat.sub_zero, List.drop_zero, List.take_length]
instance {lo hi : Option Int} : Step (uSl K (.ref a) lo hi H Q) (∃ o, H a = some o ∧ SlQ o lo hi H Q) := ⟨fun ⟨o, h, q⟩ => by
  cases o <;> first | exact q.elim | skip
  · exact .inl ⟨a, _, rfl, .of h, q⟩
  · refine .inr (.inl ⟨a, _, rfl, .of h, fun w => ?_, fun w p hp => ?_⟩)
    · exact q a H (.refl _) (by rw [cut_whole w]; exact h)
    · exact q p _ (Same.new (.refl _) hp) upd_same⟩
instance {z : Str} {lo hi : Option Int} : Step (uSl K (.str z) lo hi H Q) (z.length ≤ sizeLine ∧ Q (.str (cutS z lo hi)) H) := ⟨fun h => .inr (.inr ⟨z, rfl, h.1, h.2⟩)⟩
instance {xs : List V} {lo hi : Option Int} : Step (SlQ (.tup xs) lo hi H Q) (SameQ H (.tup (cutV xs lo hi)) fun a H' => Q (.ref a) H') := ⟨fun h => h⟩
instance {xs : List V} {lo hi : Option Int} : Step (SlQ (.lst xs) lo hi H Q) (NewQ H fun a => Q (.ref a) (upd H a (.lst (cutV xs lo hi)))) := ⟨fun h => h⟩
/-- + -/
def CatQ (o u : HO) (H : Hp) (Q : VK) : Prop := match o, u with
  | .tup xs, .tup ys => xs.length + ys.length ≤ sizeLine ∧ ∀ a H', Same H H' → H' a = some (.tup (xs ++ ys)) → Q (.ref a) H'
  | .lst xs, .lst ys => xs.length + ys.length ≤ sizeLine ∧ ∀ a, H a = none → Q (.ref a) (upd H a (.lst (xs ++ ys)))
  | _, _ => False
instance : Step (uAdd K (.ref a) (.ref b) H Q) (∃ o, H a = some o ∧ ∃ u, H b = some u ∧ CatQ o u H Q) := ⟨fun ⟨o, h, u, k, q⟩ => by
  cases o <;> cases u <;> first | exact q.elim | skip
  · exact q_addL h k q.1 q.2
  · rename_i xs ys
    refine q_addT h k q.1 (fun e => ?_) (fun e1 e2 => ?_) fun _ _ p hp => q.2 p _ (Same.new (.refl _) hp) upd_same
    · exact q.2 b H (.refl _) (by rw [e]; exact k)
    · exact q.2 a H (.refl _) (by rw [e2, List.append_nil]; exact h)⟩
instance {xs ys : List V} : Step (CatQ (.tup xs) (.tup ys) H Q) (xs.length + ys.length ≤ sizeLine ∧ SameQ H (.tup (xs ++ ys)) fun a H' => Q (.ref a) H') := ⟨fun h => h⟩
instance {xs ys : List V} : Step (CatQ (.lst xs) (.lst ys) H Q) (xs.length + ys.length ≤ sizeLine ∧ NewQ H fun a => Q (.ref a) (upd H a (.lst (xs ++ ys)))) := ⟨fun h => h⟩
/-- list * n -/
instance {n : Int} : Step (uMul (.ref a) (.int n) H Q) (∃ xs, H a = some (.lst xs) ∧ (-(2 ^ 63) ≤ n ∧ n < 2 ^ 63 ∧ xs.length * n.toNat ≤ sizeLine) ∧ NewQ H fun p => Q (.ref p) (upd H p (.lst (List.replicate n.toNat xs).flatten))) := ⟨fun ⟨xs, h, k, q⟩ => ⟨a, n, xs, rfl, rfl, h, k.1, k.2.1, k.2.2, q⟩⟩
/-- list(x), tuple(x) -/
def LstQ (o : HO) (H : Hp) (Q : VK) : Prop := match o with
  | .tup xs => ∀ a, H a = none → Q (.ref a) (upd H a (.lst xs))
  | .lst xs => ∀ a, H a = none → Q (.ref a) (upd H a (.lst xs))
  | _ => False
def TupQ (o : HO) (H : Hp) (Q : VK) : Prop := match o with
  | .tup xs => ∀ a H', Same H H' → H' a = some (.tup xs) → Q (.ref a) H'
  | .lst xs => ∀ a H', Same H H' → H' a = some (.tup xs) → Q (.ref a) H'
  | _ => False
instance : Step (uLst K [.ref a] H Q) (∃ o, H a = some o ∧ LstQ o H Q) := ⟨fun ⟨o, h, q⟩ => by
  cases o <;> first | exact q.elim | skip
  · exact ⟨a, _, rfl, .inl (.of h), q⟩
  · exact ⟨a, _, rfl, .inr (.of h), q⟩⟩
instance : Step (uTup K [.ref a] H Q) (∃ o, H a = some o ∧ TupQ o H Q) := ⟨fun ⟨o, h, q⟩ => by
  cases o <;> first | exact q.elim | skip
  · exact ⟨a, _, rfl, .inl ⟨.of h, fun l hl => q l _ (Same.new (.refl _) hl) upd_same⟩⟩
  · exact ⟨a, _, rfl, .inr ⟨.of h, q a H (.refl _) h⟩⟩⟩
instance {xs : List V} : Step (LstQ (.tup xs) H Q) (NewQ H fun a => Q (.ref a) (upd H a (.lst xs))) := ⟨fun h => h⟩
instance {xs : List V} : Step (LstQ (.lst xs) H Q) (NewQ H fun a => Q (.ref a) (upd H a (.lst xs))) := ⟨fun h => h⟩
instance {xs : List V} : Step (TupQ (.tup xs) H Q) (SameQ H (.tup xs) fun a H' => Q (.ref a) H') := ⟨fun h => h⟩
instance {xs : List V} : Step (TupQ (.lst xs) H Q) (SameQ H (.tup xs) fun a H' => Q (.ref a) H') := ⟨fun h => h⟩
/-- methods of lists -/
instance : Step (rAppend (.ref l) [y] H Q) (∃ xs, H l = some (.lst xs) ∧ xs.length < sizeLine ∧ Q .non (upd H l (.lst (xs ++ [y])))) := ⟨fun ⟨xs, h, k, q⟩ => ⟨l, xs, y, rfl, rfl, h, k, q⟩⟩
instance : Step (rPop (.ref l) [] H Q) (∃ xs, H l = some (.lst xs) ∧ ∃ y, xs[xs.length - 1]? = some y ∧ Q y (upd H l (.lst xs.dropLast))) := ⟨fun ⟨xs, h, y, k, q⟩ => ⟨l, xs, y, rfl, rfl, h, k, q⟩⟩
instance : Step (rReverse (.ref l) [] H Q) (∃ xs, H l = some (.lst xs) ∧ Q .non (upd H l (.lst xs.reverse))) := ⟨fun ⟨xs, h, q⟩ => ⟨l, xs, rfl, rfl, h, q⟩⟩
instance : Step (rClear (.ref l) [] H Q) (∃ xs, H l = some (.lst xs) ∧ Q .non (upd H l (.lst []))) := ⟨fun ⟨xs, h, q⟩ => ⟨l, xs, rfl, rfl, h, q⟩⟩
instance {k : Int} {R : Hp → Prop} : Step (rSetL (.ref l) (.int k) v H R) (∃ xs, H l = some (.lst xs) ∧ ∃ j, ixN xs.length k = some j ∧ R (upd H l (.lst (xs.set j v)))) := ⟨fun ⟨xs, h, j, k, q⟩ => ⟨l, xs, _, j, rfl, rfl, h, k, q⟩⟩
theorem ex_j {o : Option Nat} {R : Nat → Prop} {j : Nat} (h : o = some j) (r : R j) : ∃ j, o = some j ∧ R j := ⟨j, h, r⟩
theorem ty_list (h : H l = some (.lst xs)) : tyV K "list" (.ref l) H := .inl ⟨rfl, _, .of h⟩
end

/-! ### ways that meet -/
theorem meet {t u : TS} {nx bk ct : L2.St → Hp → Prop} {rt : VK} {σ : L2.St} {H : Hp} (M : L2.St → Hp → Prop) (h1 : t ⟨M, rt, bk, ct⟩ σ H) (h2 : ∀ σ' H', M σ' H' → u ⟨nx, rt, bk, ct⟩ σ' H') : tCutF t u ⟨nx, rt, bk, ct⟩ σ H := ⟨M, h1, h2⟩
/-! ### items at a drawn place -/
theorem atI_range {α : Type} {xs : List α} {i : Int} (h0 : 0 ≤ i) (h1 : i < xs.length) : ∃ v, atI xs i = some v ∧ xs[i.toNat]? = some v ∧ v ∈ xs := by
  have e : i = ((i.toNat : Nat) : Int) := by omega
  have hl : i.toNat < xs.length := by omega
  have q : xs[i.toNat]? = some xs[i.toNat] := List.getElem?_eq_getElem hl
  refine ⟨xs[i.toNat], ?_, q, List.getElem_mem hl⟩
  have z := atI_nat q
  rw [← e] at z
  exact z
theorem ex_pick {xs : List V} {i : Int} {R : V → Prop} (F : V → Prop) (h0 : 0 ≤ i) (h1 : i < xs.length) (all : ∀ v ∈ xs, F v) (k : ∀ v, F v → R v) : ∃ v, atI xs i = some v ∧ R v := by
  obtain ⟨v, e, _, hm⟩ := atI_range h0 h1
  exact ⟨v, e, k v (all v hm)⟩
theorem four {r : Int} (h0 : 0 ≤ r) (h1 : r < 4) : r = 0 ∨ r = 1 ∨ r = 2 ∨ r = 3 := by omega
theorem three {r : Int} (h0 : 0 ≤ r) (h1 : r < 3) : r = 0 ∨ r = 1 ∨ r = 2 := by omega
theorem two {r : Int} (h0 : 0 ≤ r) (h1 : r < 2) : r = 0 ∨ r = 1 := by omega
/-! ### cuts -/
theorem cut_init (xs : List V) : cutV xs none (some (-1)) = xs.take (xs.length - 1) := by
  unfold cutV HT.sIx
  simp only [List.drop_zero]
  rw [if_pos (by decide), show ((-1 : Int) + (xs.length : Int)).toNat = xs.length - 1 by omega, Nat.sub_zero]
theorem cut_from (xs : List V) (k : Nat) : cutV xs (some (k : Int)) none = xs.drop k := by
  unfold cutV HT.sIx
  simp only []
  rw [if_neg (by omega), Int.toNat_natCast]
  by_cases h : k ≤ xs.length
  · rw [Nat.min_eq_left h, List.take_of_length_le (by rw [List.length_drop]; exact Nat.le_refl _)]
  · rw [Nat.min_eq_right (by omega), List.drop_eq_nil_of_le (Nat.le_refl _), List.drop_eq_nil_of_le (by omega), List.take_nil]
theorem cut_from1 (xs : List V) (k : Nat) : cutV xs (some ((k : Int) + 1)) none = xs.drop (k + 1) := cut_from xs (k + 1)
theorem cut_tail (xs : List V) : cutV xs (some 1) none = xs.drop 1 := cut_from xs 1
theorem cut_to (xs : List V) (k : Nat) : cutV xs none (some (k : Int)) = xs.take k := by
  unfold cutV HT.sIx
  simp only [List.drop_zero]
  rw [if_neg (by omega), Int.toNat_natCast, Nat.sub_zero]
  by_cases h : k ≤ xs.length
  · rw [Nat.min_eq_left h]
  · rw [Nat.min_eq_right (by omega), List.take_length, List.take_of_length_le (by omega)]
end Fl

/-! words of my own, for the steps -/
-- what stands at an address
local macro_rules | `(tactic| walk_at "ne") => `(tactic| first
  | with_reducible assumption
  | (apply Ne.symm; with_reducible assumption)
  | (apply Fl.ne1; · with_reducible assumption
     · walk_at "hp")
  | (apply Fl.ne2; · with_reducible assumption
     · walk_at "hp"))
local macro_rules | `(tactic| walk_at "hp") => `(tactic| first
  | with_reducible assumption
  | with_reducible apply L2.upd_same
  | ((with_reducible apply Fl.hp_new); · with_reducible assumption
     · walk_at "hp")
  | ((with_reducible apply Fl.hp_put); · ((fail_if_success (apply Or.inl; with_reducible assumption)); exact Or.inr True.intro)
     · walk_at "ne"
     · walk_at "hp")
  | ((with_reducible apply Fl.hp_same); · with_reducible assumption
     · walk_at "hp")
  | ((with_reducible apply Fl.hp_gs); · with_reducible assumption
     · walk_at "ne"
     · walk_at "hp"))
-- heaps that grow
local macro_rules | `(tactic| walk_at "fr") => `(tactic| first
  | with_reducible assumption
  | (apply Fl.Same.free1; · with_reducible assumption
     · walk_at "sm")
  | (apply Fl.Gs.free1; · with_reducible assumption
     · walk_at "gs"
     · walk_at "ne"))
local macro_rules | `(tactic| walk_at "sm") => `(tactic| first
  | with_reducible assumption
  | with_reducible apply L2.Same.refl
  | ((with_reducible apply Fl.Same.new1); · with_reducible assumption
     · walk_at "sm")
  | ((with_reducible apply Fl.Same.mut); · walk_at "sm"
     · walk_at "fr")
  | ((with_reducible apply Fl.Same.trans1); · with_reducible assumption
     · walk_at "sm"))
local macro_rules | `(tactic| walk_at "gs") => `(tactic| first
  | with_reducible assumption
  | ((with_reducible apply Fl.Gs.refl); · walk_at "hp")
  | ((with_reducible apply Fl.Gs.put1); · walk_at "gs")
  | ((with_reducible apply Fl.Gs.new1); · with_reducible assumption
     · walk_at "gs")
  | ((with_reducible apply Fl.Gs.trans1); · with_reducible assumption
     · walk_at "gs")
  | ((with_reducible apply Fl.Gs.then1); · with_reducible assumption
     · walk_at "gs")
  | ((with_reducible apply Fl.Gs.mut1); · walk_at "fr"
     · walk_at "ne"
     · walk_at "gs"))
local macro_rules | `(tactic| walk_at "le") => `(tactic| first
  | with_reducible assumption
  | with_reducible apply Fl.Le.refl
  | ((with_reducible apply Fl.Le.new1); · with_reducible assumption
     · walk_at "le")
  | ((with_reducible apply Fl.Le.same1); · with_reducible assumption
     · walk_at "le")
  | ((with_reducible apply Fl.Le.gs1); · with_reducible assumption
     · walk_at "hp"
     · walk_at "le")
  | ((with_reducible apply Fl.Le.put1); · walk_at "hp"
     · walk_at "le"))
local macro_rules | `(tactic| walk_at "lt") => `(tactic| first
  | with_reducible assumption
  | with_reducible apply Fl.LeT.refl
  | ((with_reducible apply Fl.LeT.new1); · with_reducible assumption
     · walk_at "lt")
  | ((with_reducible apply Fl.LeT.same1); · with_reducible assumption
     · walk_at "lt")
  | ((with_reducible apply Fl.LeT.gs1); · with_reducible assumption
     · walk_at "hp"
     · walk_at "lt")
  | ((with_reducible apply Fl.LeT.put1); · walk_at "hp"
     · walk_at "lt"))
local macro_rules | `(tactic| walk_at "at") => `(tactic| first
  | with_reducible assumption
  | with_reducible apply Fl.at_int
  | with_reducible apply Fl.at_bl
  | with_reducible apply Fl.at_str
  | with_reducible apply Fl.at_non
  | ((with_reducible apply Fl.At.le1); · with_reducible assumption
     · walk_at "le"))
local macro_rules | `(tactic| walk_at "scr") => `(tactic| first
  | with_reducible assumption
  | ((with_reducible apply Fl.Scr.le1); · with_reducible assumption
     · walk_at "le"))
-- one step of a reading
local macro_rules | `(tactic| walk_at "cm") => `(tactic| first | exact Or.inr ⟨by decide, by decide⟩ | exact Or.inl ⟨by decide, by decide⟩ | (refine Or.inr ⟨?_, ?_⟩ <;> omega) | (refine Or.inl ⟨?_, ?_⟩ <;> omega) | (refine ⟨?_, ?_, ?_⟩ <;> (first | omega | (simp; done) | (apply Fl.small_of; simp; omega))))
local macro_rules | `(tactic| walk_at "side") => `(tactic| first
  | exact ⟨_, rfl⟩
  | ((with_reducible apply Fl.ty_list); walk_at "hp")
  | ((with_reducible apply Fl.small_lt); first | (simp; done) | (simp; omega) | omega)
  | ((with_reducible apply Fl.small_of); first | (simp; done) | (simp; omega) | omega)
  | decide
  | omega
  | exact ⟨by decide, by decide⟩
  | (refine ⟨?_, ?_⟩ <;> omega)
  | walk_at "cm")
local macro_rules | `(tactic| walk_at "sq") => `(tactic| first
  | with_reducible assumption
  | ((with_reducible apply Fl.sq_o); · walk_at "hp"
     · rfl))
local macro_rules | `(tactic| walk_at "typ") => `(tactic| first
  | with_reducible assumption
  | ((with_reducible apply Fl.typ_at); · walk_at "at")
  | ((with_reducible apply Fl.typ_o); · walk_at "hp"
     · rfl))
local macro_rules | `(tactic| walk_at "s1") => `(tactic| first
  | with_reducible apply Fl.step
  | ((with_reducible apply Fl.r_var); · rfl)
  | ((with_reducible apply Fl.and_new); · (apply Fl.small_of; simp; done)
     intro _ _)
  | ((with_reducible apply Fl.ex_sq); · walk_at "sq")
  | ((with_reducible apply Fl.ex_v); · rfl)
  | ((with_reducible apply Fl.ex_typ); · walk_at "typ")
  | ((with_reducible apply Fl.ex_xs); · walk_at "hp")
  | ((with_reducible apply Fl.ex_bs); · walk_at "hp")
  | ((with_reducible apply Fl.ex_ns); · walk_at "hp")
  | ((with_reducible apply Fl.ex_o); · walk_at "hp")
  | ((with_reducible apply Fl.ex_at); · walk_at "at")
  | ((with_reducible apply Fl.ex_j); · rfl)
  | ((with_reducible apply And.intro); · walk_at "side")
  | ((with_reducible apply Fl.in_same); intro _ _ _ _)
  | ((with_reducible apply Fl.in_new); intro _ _)
  | ((with_reducible apply Fl.in_sm); intro _ _)
  | ((with_reducible apply Fl.in_gs); intro _ _; obtain ⟨_, _⟩ := Fl.Gs.st (by with_reducible assumption : Fl.Gs _ _ _))
  | ((with_reducible apply Fl.in_num); intro _ _ _ _ _; obtain ⟨_, _⟩ := Fl.Gs.st (by with_reducible assumption : Fl.Gs _ _ _))
  | ((with_reducible apply Fl.in_drw); intro _ _ _ _ _; obtain ⟨_, _⟩ := Fl.Gs.st (by with_reducible assumption : Fl.Gs _ _ _))
  | ((with_reducible apply Fl.in_mad); intro _ _ _ _ _)
  | ((with_reducible apply Fl.in_mix); intro _ _ _)
  | ((with_reducible apply Fl.in_int); intro _)
  | ((with_reducible apply Fl.ex_scr); · walk_at "scr")
  | ((with_reducible apply Fl.in_next); intro _ _ _ _)
  | ((with_reducible apply Fl.if_t); · rfl)
  | ((with_reducible apply Fl.if_f); · rfl))
local macro_rules | `(tactic| walk_at "s") => `(tactic| repeat walk_at "s1")
-- an if whose answer omega knows
local macro_rules | `(tactic| walk_at "yes") => `(tactic| first | refine Fl.if_dt (by first | with_reducible assumption | omega | decide) ?_ | refine Fl.if_nt (by first | with_reducible assumption | omega | decide) ?_)
local macro_rules | `(tactic| walk_at "no") => `(tactic| first | refine Fl.if_df (by first | with_reducible assumption | omega | decide) ?_ | refine Fl.if_nf (by first | with_reducible assumption | omega | decide) ?_)
/-! the text by places -/
namespace Fl
open PySem PySem.Spec PyProof.Rows L2
def topS (i : Nat) : Stmt := PySem.Challenge.pw_formlines_k01_tables.main.body.getD i (.Pass ⟨0, 0, 0, 0⟩)
end Fl
-- after:
namespace Fl
open PySem PySem.Spec PyProof.Rows L2 RZ
/-! ### what the tables' defs say -/
def isWhole (d : PyData) (lo hi : Int) : Bool := match d with
  | .int i => decide (lo ≤ i) && decide (i ≤ hi)
  | _ => false
def big : Int := 1000000000
def isNumber (d : PyData) : Bool := isWhole d (-1000000000) 1000000000
def isRow (d : PyData) : Bool := match d with
  | .tuple [a, b, c] => isNumber a && isNumber b && isWhole c 0 100
  | _ => false
/-- what stands first in a row, as a number -/
def rowAt (d : PyData) : Int := match d with
  | .tuple (.int i :: _) => i
  | _ => 0
def rising : List PyData → Bool
  | a :: b :: r => decide (rowAt a < rowAt b) && rising (b :: r)
  | _ => true
def isTable (d : PyData) : Bool := match d with
  | .tuple ds => decide (1 ≤ ds.length) && decide (ds.length ≤ 20) && ds.all isRow && rising ds
  | _ => false
theorem isRow_ex {d : PyData} (h : isRow d = true) : ∃ i j k, d = .tuple [.int i, .int j, .int k] := by
  unfold isRow at h
  split at h
  · rename_i a b c
    simp only [Bool.and_eq_true] at h
    obtain ⟨⟨h1, h2⟩, h3⟩ := h
    cases a <;> simp [isNumber, isWhole] at h1
    cases b <;> simp [isNumber, isWhole] at h2
    cases c <;> simp [isWhole] at h3
    exact ⟨_, _, _, rfl⟩
  · cases h
theorem At.row {H : Hp} {i j k : Int} {v : V} (h : At H (.tuple [.int i, .int j, .int k]) v) : ∃ a, v = .ref a ∧ H a = some (.tup [.int i, .int j, .int k]) := by
  obtain ⟨a, vs, rfl, ha, v0, r0, rfl, h0, v1, r1, rfl, h1, v2, r2, rfl, h2, h3⟩ := h
  cases (show _ = _ from h0)
  cases (show _ = _ from h1)
  cases (show _ = _ from h2)
  cases (show _ = _ from h3)
  exact ⟨a, rfl, ha⟩
/-- neighbours rise -/
def ups (ds : List PyData) : List Bool := List.zipWith (fun a b => decide (rowAt a < rowAt b)) (ds.take (ds.length - 1)) (ds.drop 1)
theorem ups_len (ds : List PyData) : (ups ds).length = ds.length - 1 := by simp [ups]
theorem ups_all : ∀ ds : List PyData, (ups ds).all id = rising ds
  | [] => rfl
  | [_] => rfl
  | a :: b :: r => by
    have ih := ups_all (b :: r)
    have e : ups (a :: b :: r) = decide (rowAt a < rowAt b) :: ups (b :: r) := by simp [ups]
    rw [e, List.all_cons, ih]
    rfl
theorem ups_get {ds : List PyData} {i : Nat} {a b : PyData} (h1 : ds[i]? = some a) (h2 : ds[i + 1]? = some b) : (ups ds)[i]? = some (decide (rowAt a < rowAt b)) := by
  have l := (List.getElem?_eq_some_iff.mp h2).1
  unfold ups
  rw [List.getElem?_zipWith, List.getElem?_take, if_pos (by omega), List.getElem?_drop, Nat.add_comm 1 i, h1, h2]
section
variable {P : Program} {w : World} {K : PySem.W.Frag} {mg : Str → Option Value} {base : Heap}
abbrev s_is_whole : Stmt := topS 3
theorem sc_is_whole : FnScope ["thing", "least", "most"] ["thing", "least", "most"] (defScope s_is_whole) := ⟨rfl, rfl, rfl, by decide +kernel, rfl, by decide +kernel, by decide +kernel⟩
def sp_is_whole : Sp3 := fun a b c H Q _ => ∃ d lo hi, At H d a ∧ b = .int lo ∧ c = .int hi ∧ Q (.bl (isWhole d lo hi)) H
theorem ok_is_whole (M : Mg mg) (D : DefAt K mg "is_whole" s_is_whole ["thing", "least", "most"]) : Has P w K mg base "is_whole" ["thing", "least", "most"] 1 (sp3 sp_is_whole) := by
  refine .mk3 D sc_is_whole fun f cdv A outer s H a b c Q E hr h => ⟨_, (pss_one (ps_ret (pe_and (pe_callB (k_isi K rfl) (by rfl) M.isinstance (by decide +kernel) (pa_cons (pv 0) (pa_cons (pe_bltn (v := .ty "int") (by rfl) M.int (by decide +kernel) rfl) pa_nil))) (pe_and (pe_not (pe_callB (k_isi K rfl) (by rfl) M.isinstance (by decide +kernel) (pa_cons (pv 0) (pa_cons (pe_bltn (v := .ty "bool") (by rfl) M.bool (by decide +kernel) rfl) pa_nil)))) (pe_one (pe_chain o_le o_le (pv 1) (pv 0) (pv 2))))))), ?_⟩
  obtain ⟨d, lo, hi, hd, rfl, rfl, q⟩ := h
  refine Fl.go_start (σ0 := [some _, some _, some _]) rfl ?_
  cases d <;> first | exact hd.elim | skip
  all_goals try (cases (show _ = _ from hd))
  case int =>
    rename_i i
    walk_at "s"
    refine if_d (fun c1 => ?_) (fun c1 => ?_)
    · walk_at "s"
      have e : isWhole (.int i) lo hi = decide (i ≤ hi) := by simp [isWhole, c1]
      rw [e] at q
      exact q
    · have e : isWhole (.int i) lo hi = false := by simp [isWhole, c1]
      rw [e] at q
      exact q
  all_goals (walk_at "s"; exact q)
instance {H : Hp} {Q : VK} {E : XK} {v : V} {lo hi : Int} : Step (sp_is_whole v (.int lo) (.int hi) H Q E) (∃ d, At H d v ∧ Q (.bl (isWhole d lo hi)) H) := ⟨fun ⟨d, h, q⟩ => ⟨d, _, _, h, rfl, rfl, q⟩⟩
abbrev s_is_number : Stmt := topS 4
theorem sc_is_number : FnScope ["thing"] ["thing"] (defScope s_is_number) := ⟨rfl, rfl, rfl, by decide +kernel, rfl, by decide +kernel, by decide +kernel⟩
def sp_is_number : Sp1 := fun a H Q _ => ∃ d, At H d a ∧ Q (.bl (isNumber d)) H
theorem ok_is_number (M : Mg mg) (c_GREATEST : ∃ t, mg "GREATEST" = some (.int 1000000000 t)) (G_is_whole : Has P w K mg base "is_whole" ["thing", "least", "most"] 1 (sp3 sp_is_whole)) (D : DefAt K mg "is_number" s_is_number ["thing"]) :
    Has P w K mg base "is_number" ["thing"] 2 (sp1 sp_is_number) := by
  refine .mk1 D sc_is_number fun f cdv A outer s H a Q E hr h => ⟨_, (pss_one (ps_ret (pe_own G_is_whole (hr.mono (by first | decide | omega)) (by rfl) p_body (pa_cons (pv 0) (pa_cons (pe_un o_neg (pe_gi (by rfl) c_GREATEST)) (pa_cons (pe_gi (by rfl) c_GREATEST) pa_nil)))))), ?_⟩
  obtain ⟨d, hd, q⟩ := h
  refine Fl.go_start (σ0 := [some _]) rfl ?_
  walk_at "s"
  exact q
instance {H : Hp} {Q : VK} {E : XK} {v : V} : Step (sp_is_number v H Q E) (∃ d, At H d v ∧ Q (.bl (isNumber d)) H) := ⟨fun h => h⟩
abbrev s_is_row : Stmt := topS 5
theorem sc_is_row : FnScope ["thing"] ["thing"] (defScope s_is_row) := ⟨rfl, rfl, rfl, by decide +kernel, rfl, by decide +kernel, by decide +kernel⟩
def sp_is_row : Sp1 := fun a H Q _ => ∃ d, At H d a ∧ Q (.bl (isRow d)) H
theorem ok_is_row (M : Mg mg) (G_is_whole : Has P w K mg base "is_whole" ["thing", "least", "most"] 1 (sp3 sp_is_whole)) (G_is_number : Has P w K mg base "is_number" ["thing"] 2 (sp1 sp_is_number)) (D : DefAt K mg "is_row" s_is_row ["thing"]) :
    Has P w K mg base "is_row" ["thing"] 3 (sp1 sp_is_row) := by
  refine .mk1 D sc_is_row fun f cdv A outer s H a Q E hr h => ⟨_, (pss_cons (ps_if (PW.pt (pw_or (pt_not (pt_val (pe_callB (k_isi K rfl) (by rfl) M.isinstance (by decide +kernel) (pa_cons (pv 0) (pa_cons (pe_bltn (v := .ty "tuple") (by rfl) M.tuple (by decide +kernel) rfl) pa_nil))))) (pw_or1 (pt_cmpR (k_ne K rfl hr) (pe_callB (k_len K rfl) (by rfl) M.len (by decide +kernel) (pa_cons (pv 0) pa_nil)) pe_int (nomark _))))) (pss_one (ps_ret pe_bl)) pss_nil)
    (pss_one (ps_ret (pe_and (pe_own G_is_number (hr.mono (by first | decide | omega)) (by rfl) p_body (pa_cons (pe_ix (k_ix K rfl) (pv 0) pe_int (fun _ _ => rfl)) pa_nil)) (pe_and (pe_own G_is_number (hr.mono (by first | decide | omega)) (by rfl) p_body (pa_cons (pe_ix (k_ix K rfl) (pv 0) pe_int (fun _ _ => rfl)) pa_nil)) (pe_one (pe_own G_is_whole (hr.mono (by first | decide | omega)) (by rfl) p_body (pa_cons (pe_ix (k_ix K rfl) (pv 0) pe_int (fun _ _ => rfl)) (pa_cons pe_int (pa_cons pe_int pa_nil)))))))))), ?_⟩
  obtain ⟨d, hd, q⟩ := h
  refine Fl.go_start (σ0 := [some _]) rfl ?_
  cases d <;> first | exact hd.elim | skip
  case tuple =>
    rename_i ds
    obtain ⟨t, vs, rfl, ht, hvs⟩ := hd
    walk_at "s"
    refine if_n (fun c => ?_) (fun c => ?_)
    · walk_at "s"
      have e : isRow (.tuple ds) = false := by
        have l := hvs.length
        unfold isRow
        split
        · rename_i he
          injection he with he
          subst he
          exact absurd (by rw [l]; rfl) c
        · rfl
      rw [e] at q
      exact q
    · obtain ⟨d0, d1, d2, v0, v1, v2, rfl, rfl, h0, h1, h2⟩ := hvs.ex3 (by omega)
      walk_at "s"
      have e : isRow (.tuple [d0, d1, d2]) = (isNumber d0 && isNumber d1 && isWhole d2 0 100) := rfl
      rw [e] at q
      refine if_b (fun c1 => ?_) (fun c1 => ?_)
      · walk_at "s"
        refine if_b (fun c2 => ?_) (fun c2 => ?_)
        · walk_at "s"
          rw [c1, c2] at q
          exact q
        · rw [c1, c2] at q
          exact q
      · rw [c1] at q
        exact q
  all_goals (walk_at "s"; exact q)
instance {H : Hp} {Q : VK} {E : XK} {v : V} : Step (sp_is_row v H Q E) (∃ d, At H d v ∧ Q (.bl (isRow d)) H) := ⟨fun h => h⟩
abbrev s_is_table : Stmt := topS 6
theorem sc_is_table : FnScope ["thing", "one", "other", "row"] ["thing"] (defScope s_is_table) := ⟨rfl, rfl, rfl, by decide +kernel, rfl, by decide +kernel, by decide +kernel⟩
def sp_is_table : Sp1 := fun a H Q _ => ∃ d, At H d a ∧ ∀ H', Same H H' → Q (.bl (isTable d)) H'
instance {H : Hp} {Q : VK} {E : XK} {v : V} : Step (sp_is_table v H Q E) (∃ d, At H d v ∧ SmQ H fun H' => Q (.bl (isTable d)) H') := ⟨fun h => h⟩
theorem ok_is_table (M : Mg mg) (c_MOST_ROWS : ∃ t, mg "MOST_ROWS" = some (.int 20 t)) (G_is_row : Has P w K mg base "is_row" ["thing"] 3 (sp1 sp_is_row)) (D : DefAt K mg "is_table" s_is_table ["thing"]) :
    Has P w K mg base "is_table" ["thing"] 4 (sp1 sp_is_table) := by
  refine .mk1 D sc_is_table fun f cdv A outer s H a Q E hr h => ⟨_, (pss_cons (ps_if (PW.pt (pw_or (pt_not (pt_val (pe_callB (k_isi K rfl) (by rfl) M.isinstance (by decide +kernel) (pa_cons (pv 0) (pa_cons (pe_bltn (v := .ty "tuple") (by rfl) M.tuple (by decide +kernel) rfl) pa_nil))))) (pw_or (pt_cmpR o_lt (pe_callB (k_len K rfl) (by rfl) M.len (by decide +kernel) (pa_cons (pv 0) pa_nil)) pe_int (nomark _)) (pw_or1 (pt_cmpR o_gt (pe_callB (k_len K rfl) (by rfl) M.len (by decide +kernel) (pa_cons (pv 0) pa_nil)) (pe_gi (by rfl) c_MOST_ROWS) (nomark _)))))) (pss_one (ps_ret pe_bl)) pss_nil)
    (pss_cons (ps_if (pt_not (pt_val (pe_callB (k_all K rfl rfl) (by rfl) M.all (by decide +kernel) (pa_cons (pe_lc (own := [("row", 3)]) (g := gName 3) (by rfl) sc_is_table.nd (k_pi K rfl (pv 0)) (blkOk_by (N := ["thing", "one", "other", "row"]) (sc := (defScope s_is_table)) (own := [("row", 3)]) (by decide +kernel)) (fun _ _ _ _ _ => (pg_name (i := 3) sc_is_table.nd rfl (by first | exact Or.inl rfl | exact Or.inr rfl))) (fun _ _ _ _ _ => pts_nil) (fun _ _ _ _ _ => (pe_own G_is_row (hr.mono (by first | decide | omega)) (by rfl) passL (pa_cons (pv 3) pa_nil)))) pa_nil)))) (pss_one (ps_ret pe_bl)) pss_nil)
    (pss_one (ps_ret (pe_callB (k_all K rfl rfl) (by rfl) M.all (by decide +kernel) (pa_cons (pe_lc (own := [("one", 1), ("other", 2)]) (g := gTup K 2 (gCons (gName 1) (gCons (gName 2) gNil))) (by rfl) sc_is_table.nd (k_zip K rfl (by rfl) M.zip (pa_cons (pe_slice (k_sl K rfl) (pv 0) po_none (po_some (pe_un o_neg pe_int))) (pa_cons (pe_slice (k_sl K rfl) (pv 0) (po_some pe_int) po_none) pa_nil))) (blkOk_by (N := ["thing", "one", "other", "row"]) (sc := (defScope s_is_table)) (own := [("one", 1), ("other", 2)]) (by decide +kernel)) (fun _ _ _ _ _ => (pg_tup (by rfl) (pgs_cons (pg_name (i := 1) sc_is_table.nd rfl (by first | exact Or.inl rfl | exact Or.inr rfl)) (pgs_cons (pg_name (i := 2) sc_is_table.nd rfl (by first | exact Or.inl rfl | exact Or.inr rfl)) pgs_nil)))) (fun _ _ _ _ _ => pts_nil) (fun _ _ _ _ _ => (pe_cmpR o_lt (pe_ix (k_ix K rfl) (pv 1) pe_int (fun _ _ => rfl)) (pe_ix (k_ix K rfl) (pv 2) pe_int (fun _ _ => rfl)) (nomark _)))) pa_nil)))))), ?_⟩
  obtain ⟨d, hd, q⟩ := h
  refine Fl.go_start (σ0 := [some _, none, none, none]) rfl ?_
  cases d <;> first | exact hd.elim | skip
  case tuple =>
    rename_i ds
    obtain ⟨t, vs, rfl, ht, hvs⟩ := hd
    have l := hvs.length
    walk_at "s"
    refine if_d (fun c => ?_) (fun c => ?_)
    · walk_at "s"
      have e : isTable (.tuple ds) = false := by simp [isTable, show ¬ 1 ≤ ds.length by omega]
      rw [e] at q
      exact q _ (.refl _)
    walk_at "s"
    refine if_d (fun c => ?_) (fun c => ?_)
    · walk_at "s"
      have e : isTable (.tuple ds) = false := by simp [isTable, show ¬ ds.length ≤ 20 by omega]
      rw [e] at q
      exact q _ (.refl _)
    walk_at "s"
    refine lc_seqT ((ds.map isRow).map V.bl) ht (by simp [l]) (by simp; omega) (fun _ => rfl) (fun i x y H' ex ey sm R hR => ?_) (fun D1 H1 hD1 sm1 eD1 => ?_)
    · obtain ⟨d, ed, hd⟩ := hvs.ix ex
      have e : y = .bl (isRow d) := by
        rw [List.getElem?_map, List.getElem?_map, ed] at ey
        exact (Option.some.inj ey).symm
      subst e
      walk_at "s"
      exact hR _ (.refl _)
    walk_at "s"
    have eA : (ds.map isRow).all id = ds.all isRow := by rw [List.all_map]; rfl
    rw [eA]
    refine if_b (fun c => ?_) (fun c => ?_)
    · walk_at "s"
      have e : isTable (.tuple ds) = false := by
        have c' : ds.all isRow = false := by simpa using c
        simp only [isTable, c', Bool.and_false, Bool.false_and]
      rw [e] at q
      exact q _ (by walk_at "sm")
    have c' : ds.all isRow = true := by simpa using c
    walk_at "s"
    rename_i p1 K1 sm2 e1 p2 K2 sm3 e2
    rw [cut_init] at e1
    rw [cut_tail] at e2
    refine lc_zipT ((ups ds).map V.bl) (by walk_at "hp") e2 (by simp) (by simp [ups_len, l]) (by simp [ups_len]; omega) (fun _ _ => rfl) (fun i x z y H' ex ez ey sm R hR => ?_) (fun D2 H2 hD2 sm4 eD2 => ?_)
    · have hi : i < vs.length - 1 := by
        have := (List.getElem?_eq_some_iff.mp ex).1
        rw [List.length_take] at this
        omega
      rw [List.getElem?_take, if_pos hi] at ex
      rw [List.getElem?_drop, Nat.add_comm] at ez
      obtain ⟨d, ed, hd⟩ := hvs.ix ex
      obtain ⟨d', ed', hd'⟩ := hvs.ix ez
      have ra := List.all_eq_true.mp c'
      obtain ⟨i1, i2, i3, rfl⟩ := isRow_ex (ra d (List.mem_of_getElem? ed))
      obtain ⟨j1, j2, j3, rfl⟩ := isRow_ex (ra d' (List.mem_of_getElem? ed'))
      obtain ⟨b1, rfl, hb1⟩ := hd.row
      obtain ⟨b2, rfl, hb2⟩ := hd'.row
      have ey' : y = .bl (decide (i1 < j1)) := by
        rw [List.getElem?_map, ups_get ed ed'] at ey
        exact (Option.some.inj ey).symm
      subst ey'
      walk_at "s"
      exact hR _ (.refl _)
    walk_at "s"
    have e : isTable (.tuple ds) = (ups ds).all id := by
      rw [ups_all]
      simp only [isTable, c', Bool.and_true]
      rw [decide_eq_true (by omega : 1 ≤ ds.length), decide_eq_true (by omega : ds.length ≤ 20)]
      simp
    rw [e] at q
    exact q _ (by walk_at "sm")
  all_goals (walk_at "s"; exact q _ (.refl _))
/-! ### what a table tells -/
def isRowT (r : Int × Int × Int) : PyData := .tuple [.int r.1, .int r.2.1, .int r.2.2]
def atTab (rows : List (Int × Int × Int)) (n : Int) : Int := rows.foldl (fun f r => if r.1 ≤ n then r.2.1 + (n - r.1) * r.2.2 / 100 else f) 0
theorem atTab_snoc (rows : List (Int × Int × Int)) (r : Int × Int × Int) (n : Int) : atTab (rows ++ [r]) n = if r.1 ≤ n then r.2.1 + (n - r.1) * r.2.2 / 100 else atTab rows n := by
  unfold atTab
  rw [List.foldl_append]
  rfl
/-- rows whose percents are small -/
def SmallP (rows : List (Int × Int × Int)) : Prop := ∀ r ∈ rows, 0 ≤ r.2.2 ∧ r.2.2 ≤ 100
abbrev s_at_number : Stmt := topS 7
theorem sc_at_number : FnScope ["table", "number", "found", "row"] ["table", "number"] (defScope s_at_number) := ⟨rfl, rfl, rfl, by decide +kernel, rfl, by decide +kernel, by decide +kernel⟩
def sp_at_number : Sp2 := fun a b H Q _ => ∃ (rows : List (Int × Int × Int)) (n : Int), At H (.tuple (rows.map isRowT)) a ∧ b = .int n ∧ SmallP rows ∧ Q (.int (atTab rows n)) H
theorem ok_at_number (M : Mg mg) (D : DefAt K mg "at_number" s_at_number ["table", "number"]) : Has P w K mg base "at_number" ["table", "number"] 1 (sp2 sp_at_number) := by
  refine .mk2 D sc_at_number fun f cdv A outer s H a b Q E hr h => ⟨_, (pss_cons (ps_set (i := 2) sc_at_number.nd rfl (by first | exact Or.inl rfl | exact Or.inr rfl) pe_int)
    (pss_cons (ps_for own_p (by rfl) (k_pi K rfl (pv 0)) (pg_name (i := 3) sc_at_number.nd rfl (by first | exact Or.inl rfl | exact Or.inr rfl)) (pss_one (ps_if (pt_cmpR o_le (pe_ix (k_ix K rfl) (pv 3) pe_int (fun _ _ => rfl)) (pv 1) (nomark _)) (pss_one (ps_set (i := 2) sc_at_number.nd rfl (by first | exact Or.inl rfl | exact Or.inr rfl) (pe_op (k_add K rfl) (pe_ix (k_ix K rfl) (pv 3) pe_int (fun _ _ => rfl)) (pe_op o_div (pe_op o_mul (pe_op o_sub (pv 1) (pe_ix (k_ix K rfl) (pv 3) pe_int (fun _ _ => rfl))) (pe_ix (k_ix K rfl) (pv 3) pe_int (fun _ _ => rfl))) pe_int)))) pss_nil)))
    (pss_one (ps_ret (pv 2))))), ?_⟩
  obtain ⟨rows, n, hd, rfl, hp, q⟩ := h
  refine Fl.go_start (σ0 := [some _, some _, none, none]) rfl ?_
  obtain ⟨t, vs, rfl, ht, hvs⟩ := hd
  walk_at "s"
  refine for_tpl (fun i σ H' => H' = H ∧ ∃ x, σ = [some (.ref t), some (.int n), some (.int (atTab (rows.take i) n)), x]) ht ⟨rfl, none, rfl⟩ (fun i σ H' _ h => by rw [h.1]; exact ht) (fun i x σ H' ex h => ?_) (fun σ H' h => ?_)
  · obtain ⟨rfl, y, rfl⟩ := h
    obtain ⟨d, ed, hd⟩ := hvs.ix ex
    rw [List.getElem?_map] at ed
    cases er : rows[i]? with
    | none => rw [er] at ed; cases ed
    | some r =>
      rw [er] at ed
      have ed := Option.some.inj ed
      subst ed
      obtain ⟨b, rfl, hb⟩ := hd.row
      have hs := hp r (List.mem_of_getElem? er)
      have et := atTab_snoc (rows.take i) r n
      rw [take_snoc er] at et
      walk_at "s"
      refine if_d (fun c => ?_) (fun c => ?_)
      · walk_at "s"
        exact ⟨rfl, _, by rw [et, if_pos c]; rfl⟩
      · walk_at "s"
        exact ⟨rfl, _, by rw [et, if_neg c]; rfl⟩
  · obtain ⟨rfl, y, rfl⟩ := h
    have l := hvs.length
    rw [List.length_map] at l
    rw [l, List.take_length]
    walk_at "s"
    exact q
end
end Fl

-- after: tabs.tpl
namespace Fl
open PySem PySem.Spec PyProof.Rows L2 RZ
section
variable {P : Program} {w : World} {K : PySem.W.Frag} {mg : Str → Option Value} {base : Heap}
/-! ### the law's own small defs -/
abbrev s__law_cell_at : Stmt := topS 9
theorem sc__law_cell_at : FnScope ["_law_script", "_law_k"] ["_law_script", "_law_k"] (defScope s__law_cell_at) := ⟨rfl, rfl, rfl, by decide +kernel, rfl, by decide +kernel, by decide +kernel⟩
def sp_cell_at (K : PySem.W.Frag) : Sp2 := fun a b H Q _ => ∃ (sc : Addr) (ns : List Int) (k : Int), a = .ref sc ∧ SqL K H sc (ns.map V.int) ∧ b = .int k ∧ 0 ≤ k ∧ ∀ z : Int, Q (.int z) H
theorem ok_cell_at (M : Mg mg) (D : DefAt K mg "_law_cell_at" s__law_cell_at ["_law_script", "_law_k"]) : Has P w K mg base "_law_cell_at" ["_law_script", "_law_k"] 1 (sp2 (sp_cell_at K)) := by
  refine .mk2 D sc__law_cell_at fun f cdv A outer s H a b Q E hr h => ⟨_, (pss_cons (ps_if (pt_cmpR o_lt (pv 1) (pe_callB (k_len K rfl) (by rfl) M.len (by decide +kernel) (pa_cons (pv 0) pa_nil)) (nomark _)) (pss_one (ps_ret (pe_ix (k_ix K rfl) (pv 0) (pv 1) (fun _ _ => rfl)))) pss_nil)
    (pss_one (ps_ret pe_int))), ?_⟩
  obtain ⟨sc, ns, k, rfl, hS, rfl, hk, q⟩ := h
  refine Fl.go_start (σ0 := [some _, some _]) rfl ?_
  have hS' : IsSq K H sc (ns.map V.int) := .inl hS
  walk_at "s"
  refine if_d (fun c => ?_) (fun c => ?_)
  · walk_at "s"
    obtain ⟨v, e, _, hm⟩ := atI_range hk c
    obtain ⟨z, _, rfl⟩ := List.mem_map.mp hm
    exact ⟨_, e, q z⟩
  · walk_at "s"
    exact q 0
instance {H : Hp} {Q : VK} {E : XK} {sc : Addr} {k : Int} : Step (sp_cell_at K (.ref sc) (.int k) H Q E) (∃ ns, Scr K H sc ns ∧ 0 ≤ k ∧ IntQ fun z => Q (.int z) H) := ⟨fun ⟨ns, h, hk, q⟩ => ⟨sc, ns, k, rfl, h.sq, rfl, hk, q⟩⟩
abbrev s__law_mixed : Stmt := topS 10
theorem sc__law_mixed : FnScope ["_law_cell", "_law_k"] ["_law_cell", "_law_k"] (defScope s__law_mixed) := ⟨rfl, rfl, rfl, by decide +kernel, rfl, by decide +kernel, by decide +kernel⟩
def sp_mixed : Sp2 := fun a b H Q _ => ∃ i j, a = .int i ∧ b = .int j ∧ ∀ z : Int, 0 ≤ z → z < 2147483647 → Q (.int z) H
theorem ok_mixed (M : Mg mg) (D : DefAt K mg "_law_mixed" s__law_mixed ["_law_cell", "_law_k"]) : Has P w K mg base "_law_mixed" ["_law_cell", "_law_k"] 1 (sp2 sp_mixed) := by
  refine .mk2 D sc__law_mixed fun f cdv A outer s H a b Q E hr h => ⟨_, (pss_one (ps_ret (pe_op o_mod (pe_op o_mul (pe_op (k_add K rfl) (pv 0) (pe_op o_mul pe_int (pv 1))) pe_int) pe_int))), ?_⟩
  obtain ⟨i, j, rfl, rfl, q⟩ := h
  refine Fl.go_start (σ0 := [some _, some _]) rfl ?_
  walk_at "s"
  exact q _ (Int.emod_nonneg _ (by decide)) (Int.emod_lt_of_pos _ (by decide))
instance {H : Hp} {Q : VK} {E : XK} {i j : Int} : Step (sp_mixed (.int i) (.int j) H Q E) (MixQ fun z => Q (.int z) H) := ⟨fun h => ⟨i, j, rfl, rfl, h⟩⟩
abbrev s__law_next : Stmt := topS 11
theorem sc__law_next : FnScope ["_law_state", "_law_size"] ["_law_state", "_law_size"] (defScope s__law_next) := ⟨rfl, rfl, rfl, by decide +kernel, rfl, by decide +kernel, by decide +kernel⟩
def sp_next : Sp2 := fun a b H Q _ => ∃ s n x, a = .ref s ∧ b = .int n ∧ H s = some (.lst [.int x]) ∧ 0 < n ∧ ∀ y r : Int, 0 ≤ r → r < n → Q (.int r) (upd H s (.lst [.int y]))
instance {H : Hp} {Q : VK} {E : XK} {s : Addr} {n : Int} : Step (sp_next (.ref s) (.int n) H Q E) (∃ xs, H s = some (.lst xs) ∧ (∃ x, xs = [.int x]) ∧ 0 < n ∧ NextQ s n H fun r H' => Q (.int r) H') := ⟨fun ⟨xs, h, ⟨x, e⟩, hn, q⟩ => ⟨s, n, x, rfl, rfl, by rw [← e]; exact h, hn, q⟩⟩
theorem ok_next (M : Mg mg) (D : DefAt K mg "_law_next" s__law_next ["_law_state", "_law_size"]) : Has P w K mg base "_law_next" ["_law_state", "_law_size"] 1 (sp2 sp_next) := by
  refine .mk2 D sc__law_next fun f cdv A outer s0 H a b Q E hr h => ⟨_, (pss_cons (ps_asg (pe_op o_mod (pe_op (k_add K rfl) (pe_op o_mul (pe_ix (k_ix K rfl) (pv 0) pe_int (fun _ _ => rfl)) pe_int) pe_int) pe_int) (pg_sub (pv 0) pe_int set_list))
    (pss_one (ps_ret (pe_op o_mod (pe_op o_div (pe_ix (k_ix K rfl) (pv 0) pe_int (fun _ _ => rfl)) pe_int) (pv 1))))), ?_⟩
  obtain ⟨s, n, x, rfl, rfl, hs, hn, q⟩ := h
  refine Fl.go_start (σ0 := [some _, some _]) rfl ?_
  walk_at "s"
  exact q _ _ (Int.emod_nonneg _ (by omega)) (Int.emod_lt_of_pos _ hn)
abbrev s__law_number : Stmt := topS 13
theorem sc__law_number : FnScope ["_law_state", "_law_kind"] ["_law_state"] (defScope s__law_number) := ⟨rfl, rfl, rfl, by decide +kernel, rfl, by decide +kernel, by decide +kernel⟩
def sp_number : Sp1 := fun a H Q _ => ∃ s x, a = .ref s ∧ H s = some (.lst [.int x]) ∧ ∀ (z : Int) H', -1000000000 ≤ z → z ≤ 1000000000 → Gs s H H' → Q (.int z) H'
theorem ok_number (M : Mg mg) (G__law_next : Has P w K mg base "_law_next" ["_law_state", "_law_size"] 1 (sp2 sp_next)) (D : DefAt K mg "_law_number" s__law_number ["_law_state"]) : Has P w K mg base "_law_number" ["_law_state"] 2 (sp1 sp_number) := by
  refine .mk1 D sc__law_number fun f cdv A outer s0 H a Q E hr h => ⟨_, (pss_cons (ps_set (i := 1) sc__law_number.nd rfl (by first | exact Or.inl rfl | exact Or.inr rfl) (pe_own G__law_next (hr.mono (by first | decide | omega)) (by rfl) p_body (pa_cons (pv 0) (pa_cons pe_int pa_nil))))
    (pss_cons (ps_if (pt_cmpR (k_eq K rfl hr) (pv 1) pe_int (nomark _)) (pss_one (ps_ret (pe_ix (k_ix K rfl) (pe_lst (pa_cons (pe_un o_neg (pe_op o_pow pe_int pe_int)) (pa_cons (pe_op o_pow pe_int pe_int) (pa_cons (pe_op o_sub (pe_op o_pow pe_int pe_int) pe_int) (pa_cons (pe_op o_sub pe_int (pe_op o_pow pe_int pe_int)) pa_nil))))) (pe_own G__law_next (hr.mono (by first | decide | omega)) (by rfl) p_body (pa_cons (pv 0) (pa_cons pe_int pa_nil))) (fun _ _ => rfl)))) pss_nil)
    (pss_cons (ps_if (pt_cmpR (k_eq K rfl hr) (pv 1) pe_int (nomark _)) (pss_one (ps_ret (pe_op o_sub (pe_own G__law_next (hr.mono (by first | decide | omega)) (by rfl) p_body (pa_cons (pv 0) (pa_cons pe_int pa_nil))) pe_int))) pss_nil)
    (pss_one (ps_ret (pe_op o_sub (pe_own G__law_next (hr.mono (by first | decide | omega)) (by rfl) p_body (pa_cons (pv 0) (pa_cons pe_int pa_nil))) pe_int)))))), ?_⟩
  obtain ⟨s, x, rfl, hs, q⟩ := h
  refine Fl.go_start (σ0 := [some _, none]) rfl ?_
  walk_at "s"
  rename_i y r h0 h1
  refine if_d (fun c => ?_) (fun c => ?_)
  · walk_at "s"
    rename_i p1 hp1 y2 r2 g0 g1
    have gs : Gs s H (upd (upd (upd H s (.lst [.int y])) p1 (.lst [V.int (-10 ^ Int.toNat 9), V.int (10 ^ Int.toNat 9), V.int (10 ^ Int.toNat 9 - 1), V.int (1 - 10 ^ Int.toNat 9)])) s (.lst [.int y2])) := by walk_at "gs"
    rcases four g0 g1 with rfl | rfl | rfl | rfl <;> (refine ex_v rfl ?_; exact q _ _ (by decide) (by decide) gs)
  walk_at "s"
  refine if_d (fun c => ?_) (fun c => ?_)
  · walk_at "s"
    exact q _ _ (by omega) (by omega) (by walk_at "gs")
  walk_at "s"
  exact q _ _ (by omega) (by omega) (by walk_at "gs")
instance {H : Hp} {Q : VK} {E : XK} {s : Addr} : Step (sp_number (.ref s) H Q E) (∃ xs, H s = some (.lst xs) ∧ (∃ x, xs = [.int x]) ∧ NumQ s H fun z H' => Q (.int z) H') := ⟨fun ⟨xs, h, ⟨x, e⟩, q⟩ => ⟨s, x, rfl, by rw [← e]; exact h, q⟩⟩
abbrev s__law_whole : Stmt := topS 12
theorem sc__law_whole : FnScope ["_law_found"] ["_law_found"] (defScope s__law_whole) := ⟨rfl, rfl, rfl, by decide +kernel, rfl, by decide +kernel, by decide +kernel⟩
def sp_whole : Sp1 := fun a H Q _ => ∃ d, Typ H a d ∧ Q (.bl (isIntD d && !isBoolD d)) H
theorem ok_whole (M : Mg mg) (D : DefAt K mg "_law_whole" s__law_whole ["_law_found"]) : Has P w K mg base "_law_whole" ["_law_found"] 1 (sp1 sp_whole) := by
  refine .mk1 D sc__law_whole fun f cdv A outer s H a Q E hr h => ⟨_, (pss_one (ps_ret (pe_and (pe_callB (k_isi K rfl) (by rfl) M.isinstance (by decide +kernel) (pa_cons (pv 0) (pa_cons (pe_bltn (v := .ty "int") (by rfl) M.int (by decide +kernel) rfl) pa_nil))) (pe_one (pe_not (pe_callB (k_isi K rfl) (by rfl) M.isinstance (by decide +kernel) (pa_cons (pv 0) (pa_cons (pe_bltn (v := .ty "bool") (by rfl) M.bool (by decide +kernel) rfl) pa_nil)))))))), ?_⟩
  obtain ⟨d, hd, q⟩ := h
  refine Fl.go_start (σ0 := [some _]) rfl ?_
  walk_at "s"
  refine if_b (fun c => ?_) (fun c => ?_)
  · walk_at "s"
    rw [c] at q
    exact q
  · rw [c] at q
    exact q
instance {H : Hp} {Q : VK} {E : XK} {v : V} : Step (sp_whole v H Q E) (∃ d, Typ H v d ∧ Q (.bl (isIntD d && !isBoolD d)) H) := ⟨fun h => h⟩
end
end Fl

-- after: gen0.tpl
namespace Fl
open PySem PySem.Spec PyProof.Rows L2 RZ
/-- rows as the law draws them: so many, rising, small -/
structure Drawn (rows : List (Int × Int × Int)) : Prop where
  pos : 1 ≤ rows.length
  few : rows.length ≤ 20
  ok : ∀ r ∈ rows, (-1000000000 ≤ r.1 ∧ r.1 ≤ 1000000000) ∧ (-1000000000 ≤ r.2.1 ∧ r.2.1 ≤ 1000000000) ∧ 0 ≤ r.2.2 ∧ r.2.2 ≤ 100
  up : rows.Pairwise fun a b => a.1 < b.1
theorem isWhole_int {i lo hi : Int} (h1 : lo ≤ i) (h2 : i ≤ hi) : isWhole (.int i) lo hi = true := by simp [isWhole, h1, h2]
theorem rising_of : ∀ {rows : List (Int × Int × Int)}, rows.Pairwise (fun a b => a.1 < b.1) → rising (rows.map isRowT) = true
  | [], _ => rfl
  | [_], _ => rfl
  | a :: b :: r, h => by
    rw [List.pairwise_cons] at h
    have h1 := h.1 b (by simp)
    have ih := rising_of h.2
    show (decide (a.1 < b.1) && rising ((b :: r).map isRowT)) = true
    rw [ih, decide_eq_true h1]
    rfl
theorem Drawn.table {rows : List (Int × Int × Int)} (h : Drawn rows) : isTable (.tuple (rows.map isRowT)) = true := by
  have e : (rows.map isRowT).all isRow = true := by
    rw [List.all_map, List.all_eq_true]
    intro r hr
    obtain ⟨h1, h2, h3⟩ := h.ok r hr
    show (isNumber (.int r.1) && isNumber (.int r.2.1) && isWhole (.int r.2.2) 0 100) = true
    unfold isNumber
    rw [isWhole_int h1.1 h1.2, isWhole_int h2.1 h2.2, isWhole_int h3.1 h3.2]
    rfl
  simp only [isTable, List.length_map]
  rw [e, rising_of h.up, decide_eq_true h.pos, decide_eq_true h.few]
  rfl
theorem Drawn.small {rows : List (Int × Int × Int)} (h : Drawn rows) : SmallP rows := fun r hr => (h.ok r hr).2.2
theorem isRowT_at {H : Hp} {r : Int × Int × Int} {a : Addr} (h : H a = some (.tup [.int r.1, .int r.2.1, .int r.2.2])) : At H (isRowT r) (.ref a) := ⟨a, _, rfl, h, _, _, rfl, rfl, _, _, rfl, rfl, _, _, rfl, rfl, rfl⟩
theorem isRowT_tup (rows : List (Int × Int × Int)) : tupsOnly (rows.map isRowT) = true := tupsOnly_all fun d hd => by
  obtain ⟨r, _, rfl⟩ := List.mem_map.mp hd
  rfl
theorem rows_le {H H' : Hp} {rows : List (Int × Int × Int)} {vs : List V} (h : AtAll H (rows.map isRowT) vs) (e : LeT H H') : AtAll H' (rows.map isRowT) vs := h.leT e (isRowT_tup rows)
section
variable {P : Program} {w : World} {K : PySem.W.Frag} {mg : Str → Option Value} {base : Heap}
abbrev s__law_table : Stmt := topS 14
theorem sc__law_table : FnScope ["_law_state", "_law_many", "_law_start", "_law_rows", "_law_k", "_law_percent"] ["_law_state"] (defScope s__law_table) := ⟨rfl, rfl, rfl, by decide +kernel, rfl, by decide +kernel, by decide +kernel⟩
def sp_law_table : Sp1 := fun a H Q _ => ∃ s x, a = .ref s ∧ H s = some (.lst [.int x]) ∧ ∀ (rows : List (Int × Int × Int)) v H', Drawn rows → Gs s H H' → At H' (.tuple (rows.map isRowT)) v → Q v H'
theorem ok_law_table (M : Mg mg) (G__law_next : Has P w K mg base "_law_next" ["_law_state", "_law_size"] 1 (sp2 sp_next)) (G__law_number : Has P w K mg base "_law_number" ["_law_state"] 2 (sp1 sp_number)) (D : DefAt K mg "_law_table" s__law_table ["_law_state"]) :
    Has P w K mg base "_law_table" ["_law_state"] 3 (sp1 sp_law_table) := by
  refine .mk1 D sc__law_table fun f cdv A outer s0 H a Q E hr h => ⟨_, (pss_cons (ps_set (i := 1) sc__law_table.nd rfl (by first | exact Or.inl rfl | exact Or.inr rfl) (pe_op (k_add K rfl) pe_int (pe_own G__law_next (hr.mono (by first | decide | omega)) (by rfl) p_body (pa_cons (pv 0) (pa_cons pe_int pa_nil)))))
    (pss_meet (ps_if (pt_cmpR (k_eq K rfl hr) (pe_own G__law_next (hr.mono (by first | decide | omega)) (by rfl) p_body (pa_cons (pv 0) (pa_cons pe_int pa_nil))) pe_int (nomark _)) (pss_one (ps_set (i := 1) sc__law_table.nd rfl (by first | exact Or.inl rfl | exact Or.inr rfl) (pe_op (k_add K rfl) pe_int (pe_own G__law_next (hr.mono (by first | decide | omega)) (by rfl) p_body (pa_cons (pv 0) (pa_cons pe_int pa_nil)))))) pss_nil)
    (pss_cons (ps_set (i := 2) sc__law_table.nd rfl (by first | exact Or.inl rfl | exact Or.inr rfl) (pe_ix (k_ix K rfl) (pe_lst (pa_cons (pe_un o_neg (pe_op o_pow pe_int pe_int)) (pa_cons (pe_op o_sub (pe_own G__law_next (hr.mono (by first | decide | omega)) (by rfl) p_body (pa_cons (pv 0) (pa_cons pe_int pa_nil))) pe_int) (pa_cons (pe_op o_sub (pe_op o_pow pe_int pe_int) (pe_op o_mul pe_int (pv 1))) pa_nil)))) (pe_op o_div (pe_own G__law_next (hr.mono (by first | decide | omega)) (by rfl) p_body (pa_cons (pv 0) (pa_cons pe_int pa_nil))) pe_int) (fun _ _ => rfl)))
    (pss_cons (ps_set (i := 3) sc__law_table.nd rfl (by first | exact Or.inl rfl | exact Or.inr rfl) (pe_lst pa_nil))
    (pss_cons (ps_for own_p (by rfl) (pi_range1 (by rfl) M.range (pa_cons (pv 1) pa_nil)) (pg_name (i := 4) sc__law_table.nd rfl (by first | exact Or.inl rfl | exact Or.inr rfl)) (pss_cons (ps_set (i := 5) sc__law_table.nd rfl (by first | exact Or.inl rfl | exact Or.inr rfl) (pe_ix (k_ix K rfl) (pe_lst (pa_cons pe_int (pa_cons pe_int (pa_cons (pe_own G__law_next (hr.mono (by first | decide | omega)) (by rfl) p_body (pa_cons (pv 0) (pa_cons pe_int pa_nil))) pa_nil)))) (pe_own G__law_next (hr.mono (by first | decide | omega)) (by rfl) p_body (pa_cons (pv 0) (pa_cons pe_int pa_nil))) (fun _ _ => rfl)))
    (pss_cons (ps_expr (k_bm K rfl PySem.F.plainAttrs_list PySem.F.slot_list_append PySem.F.type_list_append mt_append (pv 3) (pa_cons (pe_tup (pa_cons (pv 2) (pa_cons (pe_own G__law_number (hr.mono (by first | decide | omega)) (by rfl) p_body (pa_cons (pv 0) pa_nil)) (pa_cons (pv 5) pa_nil)))) pa_nil)))
    (pss_one (ps_set (i := 2) sc__law_table.nd rfl (by first | exact Or.inl rfl | exact Or.inr rfl) (pe_op (k_add K rfl) (pe_op (k_add K rfl) (pv 2) pe_int) (pe_ix (k_ix K rfl) (pe_lst (pa_cons (pe_own G__law_next (hr.mono (by first | decide | omega)) (by rfl) p_body (pa_cons (pv 0) (pa_cons pe_int pa_nil))) (pa_cons (pe_own G__law_next (hr.mono (by first | decide | omega)) (by rfl) p_body (pa_cons (pv 0) (pa_cons pe_int pa_nil))) pa_nil))) (pe_own G__law_next (hr.mono (by first | decide | omega)) (by rfl) p_body (pa_cons (pv 0) (pa_cons pe_int pa_nil))) (fun _ _ => rfl))))))))
    (pss_one (ps_ret (pe_callTy (k_tuple K rfl) (by rfl) M.tuple (by decide +kernel) (pa_cons (pv 3) pa_nil))))))))), ?_⟩
  obtain ⟨s, x, rfl, hs, q⟩ := h
  refine Fl.go_start (σ0 := [some _, none, none, none, none, none]) rfl ?_
  walk_at "s"
  refine meet (fun σ' H' => ∃ m : Int, σ' = [some (.ref s), some (.int m), none, none, none, none] ∧ 1 ≤ m ∧ m ≤ 20 ∧ Gs s H H') ?_ ?_
  · walk_at "s"
    refine if_d (fun c => ?_) (fun c => ?_)
    · walk_at "s"
      exact ⟨_, rfl, by omega, by omega, by walk_at "gs"⟩
    · walk_at "s"
      exact ⟨_, rfl, by omega, by omega, by walk_at "gs"⟩
  rintro σ1 H1 ⟨m, rfl, m1, m2, gs⟩
  obtain ⟨x1, hx1⟩ := gs.st
  walk_at "s"
  refine ex_pick (fun v => ∃ S : Int, v = .int S ∧ -1000000000 ≤ S ∧ S + 20000 * m ≤ 1000000000) (by omega) (by simp; omega) (fun v hv => ?_) (fun v hv => ?_)
  · simp only [List.mem_cons, List.not_mem_nil, or_false] at hv
    rcases hv with rfl | rfl | rfl
    · exact ⟨_, rfl, by decide, by show (-10 ^ 9 : Int) + _ ≤ _; omega⟩
    · exact ⟨_, rfl, by omega, by omega⟩
    · exact ⟨_, rfl, by show _ ≤ (10 ^ 9 : Int) - _; omega, by show (10 ^ 9 : Int) - _ + _ ≤ _; omega⟩
  obtain ⟨S, rfl, S1, S2⟩ := hv
  walk_at "s"
  rename_i p hp
  have hps : p ≠ s := by walk_at "ne"
  refine for_rng (fun i σ' H' => ∃ (S : Int) (rows : List (Int × Int × Int)) (vs : List V) (xk xp : Option V), σ' = [some (.ref s), some (.int m), some (.int S), some (.ref p), xk, xp] ∧ H' p = some (.lst vs) ∧ AtAll H' (rows.map isRowT) vs ∧ rows.length = i ∧ Gs s H H' ∧
      -1000000000 ≤ S ∧ S + 20000 * (m - i) ≤ 1000000000 ∧ (∀ r ∈ rows, ((-1000000000 ≤ r.1 ∧ r.1 ≤ 1000000000) ∧ (-1000000000 ≤ r.2.1 ∧ r.2.1 ≤ 1000000000) ∧ 0 ≤ r.2.2 ∧ r.2.2 ≤ 100) ∧ r.1 < S) ∧ rows.Pairwise fun a b => a.1 < b.1)
    ⟨S, [], [], none, none, rfl, upd_same, rfl, rfl, by walk_at "gs", S1, by omega, fun r hr => (by simp at hr), List.Pairwise.nil⟩ ?_ ?_
  · rintro i σ' H' hi ⟨S, rows, vs, xk, xp, rfl, hl, hat, hlen, gs', t1, t2, hr, up⟩
    obtain ⟨x', hx'⟩ := gs'.st
    have hvl := hat.length
    rw [List.length_map] at hvl
    walk_at "s"
    refine ex_pick (fun v => ∃ p : Int, v = .int p ∧ 0 ≤ p ∧ p ≤ 100) (by omega) (by simp; omega) (fun v hv => ?_) (fun v hv => ?_)
    · simp only [List.mem_cons, List.not_mem_nil, or_false] at hv
      rcases hv with rfl | rfl | rfl
      · exact ⟨_, rfl, by decide, by decide⟩
      · exact ⟨_, rfl, by decide, by decide⟩
      · exact ⟨_, rfl, by omega, by omega⟩
    obtain ⟨pc, rfl, pc0, pc1⟩ := hv
    walk_at "s"
    rename_i z Hn zl zh gz wz hwz T hT y2 r2 c1 c2 y1 r1 c3 c4 q1 hq y0 r0 c5 c6
    refine ex_pick (fun v => ∃ d : Int, v = .int d ∧ 0 ≤ d ∧ d < 20000) c5 (by simp; omega) (fun v hv => ?_) (fun v hv => ?_)
    · simp only [List.mem_cons, List.not_mem_nil, or_false] at hv
      rcases hv with rfl | rfl
      · exact ⟨_, rfl, by omega, by omega⟩
      · exact ⟨_, rfl, by omega, by omega⟩
    obtain ⟨d, rfl, d0, d1⟩ := hv
    walk_at "s"
    refine ⟨S + 1 + d, rows ++ [(S, z, pc)], vs ++ [.ref T], _, _, rfl, by walk_at "hp", ?_, by simp [hlen], by walk_at "gs", by omega, by omega, fun r h => ?_, ?_⟩
    · rw [List.map_append]
      exact AtAll.append (rows_le hat (by walk_at "lt")) (AtAll.one (isRowT_at (by walk_at "hp")))
    · rcases List.mem_append.mp h with h | h
      · have := hr r h
        exact ⟨this.1, by omega⟩
      · rw [List.mem_singleton.mp h]
        exact ⟨⟨⟨t1, by omega⟩, ⟨zl, zh⟩, pc0, pc1⟩, by show S < S + 1 + d; omega⟩
    · rw [List.pairwise_append]
      refine ⟨up, List.pairwise_singleton _ _, fun a ha b hb => ?_⟩
      rw [List.mem_singleton.mp hb]
      exact (hr a ha).2
  · rintro σ' H' ⟨S, rows, vs, xk, xp, rfl, hl, hat, hlen, gs', t1, t2, hr, up⟩
    walk_at "s"
    rename_i a K1 sm ha
    refine q rows _ _ ⟨by omega, by omega, fun r h => (hr r h).1, up⟩ (by walk_at "gs") ⟨a, vs, rfl, ha, rows_le hat (by walk_at "lt")⟩
instance {H : Hp} {Q : VK} {E : XK} {s : Addr} : Step (sp_law_table (.ref s) H Q E) (∃ xs, H s = some (.lst xs) ∧ (∃ x, xs = [.int x]) ∧ DrwQ s H (fun rows v H' => Drawn rows ∧ At H' (.tuple (rows.map isRowT)) v) fun _ v H' => Q v H') := ⟨fun ⟨xs, h, ⟨x, e⟩, q⟩ => ⟨s, x, rfl, by rw [← e]; exact h, fun rows v H' d g a => q rows v H' g ⟨d, a⟩⟩⟩
abbrev s__law_at : Stmt := topS 15
theorem sc__law_at : FnScope ["_law_table_here", "_law_number_here", "_law_found", "_law_row"] ["_law_table_here", "_law_number_here"] (defScope s__law_at) := ⟨rfl, rfl, rfl, by decide +kernel, rfl, by decide +kernel, by decide +kernel⟩
def sp_law_at : Sp2 := fun a b H Q _ => ∃ (rows : List (Int × Int × Int)) (n : Int), At H (.tuple (rows.map isRowT)) a ∧ b = .int n ∧ SmallP rows ∧ Q (.int (atTab rows n)) H
theorem ok_law_at (M : Mg mg) (D : DefAt K mg "_law_at" s__law_at ["_law_table_here", "_law_number_here"]) : Has P w K mg base "_law_at" ["_law_table_here", "_law_number_here"] 1 (sp2 sp_law_at) := by
  refine .mk2 D sc__law_at fun f cdv A outer s H a b Q E hr h => ⟨_, (pss_cons (ps_set (i := 2) sc__law_at.nd rfl (by first | exact Or.inl rfl | exact Or.inr rfl) pe_int)
    (pss_cons (ps_for own_p (by rfl) (k_pi K rfl (pv 0)) (pg_name (i := 3) sc__law_at.nd rfl (by first | exact Or.inl rfl | exact Or.inr rfl)) (pss_one (ps_if (pt_cmpR o_ge (pv 1) (pe_ix (k_ix K rfl) (pv 3) pe_int (fun _ _ => rfl)) (nomark _)) (pss_one (ps_set (i := 2) sc__law_at.nd rfl (by first | exact Or.inl rfl | exact Or.inr rfl) (pe_op (k_add K rfl) (pe_ix (k_ix K rfl) (pv 3) pe_int (fun _ _ => rfl)) (pe_op o_div (pe_op o_mul (pe_op o_sub (pv 1) (pe_ix (k_ix K rfl) (pv 3) pe_int (fun _ _ => rfl))) (pe_ix (k_ix K rfl) (pv 3) pe_int (fun _ _ => rfl))) pe_int)))) pss_nil)))
    (pss_one (ps_ret (pv 2))))), ?_⟩
  obtain ⟨rows, n, hd, rfl, hp, q⟩ := h
  refine Fl.go_start (σ0 := [some _, some _, none, none]) rfl ?_
  obtain ⟨t, vs, rfl, ht, hvs⟩ := hd
  walk_at "s"
  refine for_tpl (fun i σ H' => H' = H ∧ ∃ x, σ = [some (.ref t), some (.int n), some (.int (atTab (rows.take i) n)), x]) ht ⟨rfl, none, rfl⟩ (fun i σ H' _ h => by rw [h.1]; exact ht) (fun i x σ H' ex h => ?_) (fun σ H' h => ?_)
  · obtain ⟨rfl, y, rfl⟩ := h
    obtain ⟨d, ed, hd⟩ := hvs.ix ex
    rw [List.getElem?_map] at ed
    cases er : rows[i]? with
    | none => rw [er] at ed; cases ed
    | some r =>
      rw [er] at ed
      have ed := Option.some.inj ed
      subst ed
      obtain ⟨b, rfl, hb⟩ := hd.row
      have hs := hp r (List.mem_of_getElem? er)
      have et := atTab_snoc (rows.take i) r n
      rw [take_snoc er] at et
      walk_at "s"
      refine if_d (fun c => ?_) (fun c => ?_)
      · walk_at "s"
        exact ⟨rfl, _, by rw [et, if_pos c]; rfl⟩
      · walk_at "s"
        exact ⟨rfl, _, by rw [et, if_neg c]; rfl⟩
  · obtain ⟨rfl, y, rfl⟩ := h
    have l := hvs.length
    rw [List.length_map] at l
    rw [l, List.take_length]
    walk_at "s"
    exact q
end
end Fl

-- after: lawtab.tpl
namespace Fl
open PySem PySem.Spec PyProof.Rows L2 RZ
theorem isTable_bad {A B : List PyData} {d : PyData} (h : isRow d = false) : isTable (.tuple (A ++ [d] ++ B)) = false := by
  have e : (A ++ [d] ++ B).all isRow = false := by
    rw [List.all_append, List.all_append]
    simp [h]
  simp only [isTable, e, Bool.and_false, Bool.false_and]
theorem rising_app : ∀ {A B : List PyData} {a b : PyData}, rowAt b ≤ rowAt a → rising (A ++ [a, b] ++ B) = false
  | [], B, a, b, h => by
    show (decide (rowAt a < rowAt b) && rising (b :: B)) = false
    rw [decide_eq_false (by omega)]
    rfl
  | [c], B, a, b, h => by
    show (decide (rowAt c < rowAt a) && (decide (rowAt a < rowAt b) && rising (b :: B))) = false
    rw [decide_eq_false (by omega : ¬ rowAt a < rowAt b)]
    simp
  | c :: c' :: A, B, a, b, h => by
    have ih := rising_app (A := c' :: A) (B := B) h
    show (decide (rowAt c < rowAt c') && rising (c' :: A ++ [a, b] ++ B)) = false
    rw [ih, Bool.and_false]
theorem isTable_flat {A B : List PyData} {a b : PyData} (h : rowAt b ≤ rowAt a) : isTable (.tuple (A ++ [a, b] ++ B)) = false := by
  simp only [isTable, rising_app h, Bool.and_false]
section
variable {P : Program} {w : World} {K : PySem.W.Frag} {mg : Str → Option Value} {base : Heap}
abbrev s__law_spoilt : Stmt := topS 16
theorem sc__law_spoilt : FnScope ["_law_table_here", "_law_cell", "_law_at_here", "_law_row", "_law_wrong", "_law_longer", "_law_k"] ["_law_table_here", "_law_cell"] (defScope s__law_spoilt) := ⟨rfl, rfl, rfl, by decide +kernel, rfl, by decide +kernel, by decide +kernel⟩
def sp_spoilt : Sp2 := fun a b H Q _ => ∃ (rows : List (Int × Int × Int)) (c : Int), At H (.tuple (rows.map isRowT)) a ∧ Drawn rows ∧ b = .int c ∧ 0 ≤ c ∧ ∀ d v H', isTable d = false → Same H H' → At H' d v → Q v H'
theorem ok_spoilt (M : Mg mg) (D : DefAt K mg "_law_spoilt" s__law_spoilt ["_law_table_here", "_law_cell"]) : Has P w K mg base "_law_spoilt" ["_law_table_here", "_law_cell"] 1 (sp2 sp_spoilt) := by
  refine .mk2 D sc__law_spoilt fun f cdv A outer s H a b Q E hr h => ⟨_, (pss_cons (ps_set (i := 2) sc__law_spoilt.nd rfl (by first | exact Or.inl rfl | exact Or.inr rfl) (pe_op o_mod (pe_op o_div (pv 1) pe_int) (pe_callB (k_len K rfl) (by rfl) M.len (by decide +kernel) (pa_cons (pv 0) pa_nil))))
    (pss_cons (ps_set (i := 3) sc__law_spoilt.nd rfl (by first | exact Or.inl rfl | exact Or.inr rfl) (pe_ix (k_ix K rfl) (pv 0) (pv 2) (fun _ _ => rfl)))
    (pss_cons (ps_set (i := 4) sc__law_spoilt.nd rfl (by first | exact Or.inl rfl | exact Or.inr rfl) (pe_lst (pa_cons (pe_tup (pa_cons (pe_ix (k_ix K rfl) (pv 3) pe_int (fun _ _ => rfl)) (pa_cons (pe_ix (k_ix K rfl) (pv 3) pe_int (fun _ _ => rfl)) (pa_cons (pe_op (k_add K rfl) pe_int (pe_op o_mod (pe_op o_div (pv 1) pe_int) pe_int)) pa_nil)))) (pa_cons (pe_tup (pa_cons (pe_ix (k_ix K rfl) (pv 3) pe_int (fun _ _ => rfl)) (pa_cons (pe_ix (k_ix K rfl) (pv 3) pe_int (fun _ _ => rfl)) (pa_cons (pe_un o_neg pe_int) pa_nil)))) (pa_cons (pe_tup (pa_cons (pe_op (k_add K rfl) (pe_op (k_add K rfl) (pe_ix (k_ix K rfl) (pv 3) pe_int (fun _ _ => rfl)) (pe_op o_mul pe_int (pe_op o_pow pe_int pe_int))) pe_int) (pa_cons (pe_ix (k_ix K rfl) (pv 3) pe_int (fun _ _ => rfl)) (pa_cons pe_int pa_nil)))) pa_nil)))))
    (pss_cons (ps_set (i := 4) sc__law_spoilt.nd rfl (by first | exact Or.inl rfl | exact Or.inr rfl) (pe_op (k_add K rfl) (pv 4) (pe_lst (pa_cons (pe_tup (pa_cons (pe_ix (k_ix K rfl) (pv 3) pe_int (fun _ _ => rfl)) (pa_cons (pe_op (k_add K rfl) (pe_op o_pow pe_int pe_int) pe_int) (pa_cons (pe_ix (k_ix K rfl) (pv 3) pe_int (fun _ _ => rfl)) pa_nil)))) (pa_cons (pe_tup (pa_cons (pe_ix (k_ix K rfl) (pv 3) pe_int (fun _ _ => rfl)) (pa_cons (pe_ix (k_ix K rfl) (pv 3) pe_int (fun _ _ => rfl)) pa_nil))) (pa_cons (pe_callTy (k_list K rfl) (by rfl) M.list (by decide +kernel) (pa_cons (pv 3) pa_nil)) (pa_cons (pe_tup (pa_cons (pe_ix (k_ix K rfl) (pv 3) pe_int (fun _ _ => rfl)) (pa_cons pe_bl (pa_cons pe_int pa_nil)))) (pa_cons (pe_tup (pa_cons (pe_ix (k_ix K rfl) (pv 3) pe_int (fun _ _ => rfl)) (pa_cons pe_non (pa_cons pe_int pa_nil)))) pa_nil))))))))
    (pss_cons (ps_set (i := 4) sc__law_spoilt.nd rfl (by first | exact Or.inl rfl | exact Or.inr rfl) (pe_op (k_add K rfl) (pv 4) (pe_lst (pa_cons (pe_tup (pa_cons pe_str (pa_cons (pe_ix (k_ix K rfl) (pv 3) pe_int (fun _ _ => rfl)) (pa_cons pe_int pa_nil)))) (pa_cons (pe_op (k_add K rfl) (pv 3) (pe_tup (pa_cons pe_int pa_nil))) (pa_cons (pe_tup (pa_cons pe_bl (pa_cons (pe_ix (k_ix K rfl) (pv 3) pe_int (fun _ _ => rfl)) (pa_cons pe_int pa_nil)))) (pa_cons (pe_tup (pa_cons (pe_ix (k_ix K rfl) (pv 3) pe_int (fun _ _ => rfl)) (pa_cons (pe_ix (k_ix K rfl) (pv 3) pe_int (fun _ _ => rfl)) (pa_cons pe_bl pa_nil)))) pa_nil)))))))
    (pss_cons (ps_if (pt_cmpR o_lt (pe_op o_mod (pv 1) pe_int) pe_int (nomark _)) (pss_one (ps_ret (pe_op (k_add K rfl) (pe_op (k_add K rfl) (pe_slice (k_sl K rfl) (pv 0) po_none (po_some (pv 2))) (pe_tup (pa_cons (pe_ix (k_ix K rfl) (pv 4) (pe_op o_mod (pv 1) pe_int) (fun _ _ => rfl)) pa_nil))) (pe_slice (k_sl K rfl) (pv 0) (po_some (pe_op (k_add K rfl) (pv 2) pe_int)) po_none)))) pss_nil)
    (pss_cons (ps_if (pt_cmpR (k_eq K rfl hr) (pe_op o_mod (pv 1) pe_int) pe_int (nomark _)) (pss_one (ps_ret (pe_op (k_add K rfl) (pe_op (k_add K rfl) (pe_slice (k_sl K rfl) (pv 0) po_none (po_some (pv 2))) (pe_tup (pa_cons (pv 3) (pa_cons (pv 3) pa_nil)))) (pe_slice (k_sl K rfl) (pv 0) (po_some (pe_op (k_add K rfl) (pv 2) pe_int)) po_none)))) pss_nil)
    (pss_cons (ps_if (pt_cmpR (k_eq K rfl hr) (pe_op o_mod (pv 1) pe_int) pe_int (nomark _)) (pss_cons (ps_set (i := 5) sc__law_spoilt.nd rfl (by first | exact Or.inl rfl | exact Or.inr rfl) (pe_callTy (k_tuple K rfl) (by rfl) M.tuple (by decide +kernel) (pa_cons (pe_lc (own := [("_law_k", 6)]) (g := gName 6) (by rfl) sc__law_spoilt.nd (pi_range1 (by rfl) M.range (pa_cons (pe_op (k_add K rfl) pe_int (pe_op o_mod (pe_op o_div (pv 1) pe_int) pe_int)) pa_nil)) (blkOk_by (N := ["_law_table_here", "_law_cell", "_law_at_here", "_law_row", "_law_wrong", "_law_longer", "_law_k"]) (sc := (defScope s__law_spoilt)) (own := [("_law_k", 6)]) (by decide +kernel)) (fun _ _ _ _ _ => (pg_name (i := 6) sc__law_spoilt.nd rfl (by first | exact Or.inl rfl | exact Or.inr rfl))) (fun _ _ _ _ _ => pts_nil) (fun _ _ _ _ _ => (pe_tup (pa_cons (pv 6) (pa_cons pe_int (pa_cons pe_int pa_nil)))))) pa_nil)))
    (pss_one (ps_ret (pe_ix (k_ix K rfl) (pe_lst (pa_cons (pe_tup pa_nil) (pa_cons (pe_callTy (k_list K rfl) (by rfl) M.list (by decide +kernel) (pa_cons (pv 0) pa_nil)) (pa_cons pe_non (pa_cons (pv 5) (pa_cons pe_int (pa_cons pe_str pa_nil))))))) (pe_op o_mod (pe_op o_div (pv 1) pe_int) pe_int) (fun _ _ => rfl))))) pss_nil)
    (pss_one (ps_ret (pe_op (k_add K rfl) (pe_op (k_add K rfl) (pe_slice (k_sl K rfl) (pv 0) po_none (po_some (pv 2))) (pe_tup (pa_cons (pe_tup (pa_cons (pe_op (k_add K rfl) (pe_ix (k_ix K rfl) (pv 3) pe_int (fun _ _ => rfl)) pe_int) (pa_cons (pe_ix (k_ix K rfl) (pv 3) pe_int (fun _ _ => rfl)) (pa_cons pe_int pa_nil)))) (pa_cons (pv 3) pa_nil)))) (pe_slice (k_sl K rfl) (pv 0) (po_some (pe_op (k_add K rfl) (pv 2) pe_int)) po_none)))))))))))), ?_⟩
  obtain ⟨rows, c, hd, hD, rfl, hc, q⟩ := h
  refine Fl.go_start (σ0 := [some _, some _, none, none, none, none, none]) rfl ?_
  obtain ⟨t, vs, rfl, ht, hvs⟩ := hd
  have l := hvs.length
  rw [List.length_map] at l
  have l0 := hD.pos
  have l1 := hD.few
  walk_at "s"
  have a0 : 0 ≤ c / 15 % (vs.length : Int) := Int.emod_nonneg _ (by omega)
  have a1 : c / 15 % (vs.length : Int) < (vs.length : Int) := Int.emod_lt_of_pos _ (by omega)
  obtain ⟨n, en⟩ : ∃ n : Nat, c / 15 % (vs.length : Int) = (n : Int) := ⟨_, (Int.toNat_of_nonneg a0).symm⟩
  rw [en] at a1
  simp only [en]
  have hn : n < rows.length := by omega
  obtain ⟨v, ev, hv⟩ := hvs.get (i := n) (d := isRowT rows[n]) (by rw [List.getElem?_map, List.getElem?_eq_getElem hn]; rfl)
  obtain ⟨b, rfl, hb⟩ := hv.row
  obtain ⟨⟨r1, r2⟩, ⟨r3, r4⟩, r5, r6⟩ := hD.ok rows[n] (List.getElem_mem hn)
  generalize rows[n] = r at *
  obtain ⟨x0, x1, x2⟩ := r
  dsimp only at hb r1 r2 r3 r4 r5 r6
  have k1 := cutV_length vs none (some (n : Int))
  have k3 := cutV_length vs (some ((n : Int) + 1)) none
  refine ex_v (atI_nat ev) ?_
  walk_at "s"
  refine if_d (fun e12 => ?_) (fun e12 => ?_)
  · walk_at "s"
    rename_i aS K1 sm1 e1
    rw [cut_to] at e1
    refine ex_pick (fun v => ∃ d, At K1 d v ∧ isRow d = false) (Int.emod_nonneg _ (by decide)) (by simp; omega) (fun v hv => ?_) (fun v hv => ?_)
    · simp only [List.mem_cons, List.not_mem_nil, or_false, List.mem_append] at hv
      rcases hv with ((rfl | rfl | rfl) | (rfl | rfl | rfl | rfl | rfl)) | (rfl | rfl | rfl | rfl)
      · exact ⟨.tuple [.int x0, .int x1, .int (101 + c / 700 % 99)], at3 (by walk_at "hp") rfl rfl rfl, by simp [isRow, isNumber, isWhole]; omega⟩
      · exact ⟨.tuple [.int x0, .int x1, .int (-1)], at3 (by walk_at "hp") rfl rfl rfl, by simp [isRow, isNumber, isWhole]⟩
      · exact ⟨.tuple [.int (x0 + 2 * 10 ^ Int.toNat 9 + 1), .int x1, .int 0], at3 (by walk_at "hp") rfl rfl rfl, by simp [isRow, isNumber, isWhole]; omega⟩
      · exact ⟨.tuple [.int x0, .int (10 ^ Int.toNat 9 + 1), .int x2], at3 (by walk_at "hp") rfl rfl rfl, by simp [isRow, isNumber, isWhole]⟩
      · exact ⟨.tuple [.int x0, .int x1], at2 (by walk_at "hp") rfl rfl, rfl⟩
      · exact ⟨.list [.int x0, .int x1, .int x2], ⟨_, _, rfl, by walk_at "hp", fun x z => by simp at z, _, _, rfl, rfl, _, _, rfl, rfl, _, _, rfl, rfl, rfl⟩, rfl⟩
      · exact ⟨.tuple [.int x0, .bool true, .int 5], at3 (by walk_at "hp") rfl rfl rfl, by simp [isRow, isNumber, isWhole]⟩
      · exact ⟨.tuple [.int x0, .none, .int 5], at3 (by walk_at "hp") rfl rfl rfl, by simp [isRow, isNumber, isWhole]⟩
      · exact ⟨.tuple [.str "0", .int x1, .int 5], at3 (by walk_at "hp") rfl rfl rfl, by simp [isRow, isNumber, isWhole]⟩
      · exact ⟨.tuple [.int x0, .int x1, .int x2, .int 0], at4 (by walk_at "hp" : K1 _ = some (.tup ([.int x0, .int x1, .int x2] ++ [.int 0]))) rfl rfl rfl rfl, rfl⟩
      · exact ⟨.tuple [.bool true, .int x1, .int 5], at3 (by walk_at "hp") rfl rfl rfl, by simp [isRow, isNumber, isWhole]⟩
      · exact ⟨.tuple [.int x0, .int x1, .bool true], at3 (by walk_at "hp") rfl rfl rfl, by simp [isRow, isNumber, isWhole]⟩
    obtain ⟨d, hdv, hdr⟩ := hv
    walk_at "s"
    rename_i pv hpv aC K2 sm2 e2 aD K3 sm3 e3 aE K4 sm4 e4
    rw [cut_from1] at e4
    refine q (.tuple ((rows.map isRowT).take n ++ [d] ++ (rows.map isRowT).drop (n + 1))) _ _ (isTable_bad hdr) (by walk_at "sm") ⟨aE, _, rfl, e4, ?_⟩
    exact ((AtAll.append (AtAll.append ((hvs.take n).le (by walk_at "le")) (AtAll.one (hdv.le (by walk_at "le")))) ((hvs.drop (n + 1)).le (by walk_at "le"))))
  walk_at "s"
  refine if_d (fun e12 => ?_) (fun e12 => ?_)
  · walk_at "s"
    rename_i aS K1 sm1 e1 pv hpv aC K2 sm2 e2 aD K3 sm3 e3 aE K4 sm4 e4
    rw [cut_from1, cut_to] at e4
    refine q (.tuple ((rows.map isRowT).take n ++ [isRowT (x0, x1, x2), isRowT (x0, x1, x2)] ++ (rows.map isRowT).drop (n + 1))) _ _ (isTable_flat (Int.le_refl _)) (by walk_at "sm") ⟨aE, _, rfl, e4, ?_⟩
    exact ((AtAll.append (AtAll.append ((hvs.take n).le (by walk_at "le")) ⟨_, _, rfl, hv.le (by walk_at "le"), _, _, rfl, hv.le (by walk_at "le"), rfl⟩) ((hvs.drop (n + 1)).le (by walk_at "le"))))
  walk_at "s"
  refine if_d (fun e12 => ?_) (fun e12 => ?_)
  · walk_at "s"
    have m0 : 0 ≤ c / 4200 % 9 := Int.emod_nonneg _ (by decide)
    have m1 : c / 4200 % 9 < 9 := Int.emod_lt_of_pos _ (by decide)
    refine lc_datR ((List.range (21 + c / 4200 % 9).toNat).map fun (k : Nat) => .tuple [.int k, .int 0, .int 5]) (by simp) (by simp; omega) (tupsOnly_all fun d hd => ?_) (fun _ => rfl) (fun i d H' hi ed sm R hR => ?_) (fun D1 H1 ys hD1 sm1 eD1 at1 => ?_)
    · obtain ⟨k, _, rfl⟩ := List.mem_map.mp hd
      rfl
    · have e : d = .tuple [.int i, .int 0, .int 5] := by
        rw [List.getElem?_map, List.getElem?_range hi] at ed
        exact (Option.some.inj ed).symm
      subst e
      walk_at "s"
      rename_i p hp
      exact hR _ _ (by walk_at "sm") (at3 (by walk_at "hp") (by show V.int _ = V.int _; rw [Int.zero_add]) rfl rfl)
    have lD := at1.length
    rw [List.length_map, List.length_range] at lD
    walk_at "s"
    rename_i aT K1 smT eT pE hpE aL hL pp hpp
    have nl : ∀ x, vs ≠ [.int x] := fun x z => by
      rw [z] at ev
      cases n with
      | zero => cases (show V.int x = V.ref b from Option.some.inj ev)
      | succ k => simp at ev
    refine ex_pick (fun v => ∃ d, At (upd (upd (upd K1 pE (HO.tup [])) aL (HO.lst vs)) pp (HO.lst [V.ref pE, V.ref aL, V.non, V.ref aT, V.int 7, V.str "table"])) d v ∧ isTable d = false) (Int.emod_nonneg _ (by decide)) (by simp; omega) (fun v hv => ?_) (fun v hv => ?_)
    · simp only [List.mem_cons, List.not_mem_nil, or_false] at hv
      rcases hv with rfl | rfl | rfl | rfl | rfl | rfl
      · exact ⟨.tuple [], ⟨_, _, rfl, by walk_at "hp", rfl⟩, rfl⟩
      · exact ⟨.list (rows.map isRowT), ⟨_, _, rfl, by walk_at "hp", nl, hvs.le (by walk_at "le")⟩, rfl⟩
      · exact ⟨.none, rfl, rfl⟩
      · refine ⟨.tuple ((List.range (21 + c / 4200 % 9).toNat).map fun (k : Nat) => .tuple [.int k, .int 0, .int 5]), ⟨_, _, rfl, by walk_at "hp", at1.le (by walk_at "le")⟩, ?_⟩
        simp only [isTable, List.length_map, List.length_range]
        rw [decide_eq_false (by omega : ¬ (21 + c / 4200 % 9).toNat ≤ 20)]
        simp
      · exact ⟨.int 7, rfl, rfl⟩
      · exact ⟨.str "table", rfl, rfl⟩
    obtain ⟨d, h1, h2⟩ := hv
    exact q d v _ h2 (by walk_at "sm") h1
  walk_at "s"
  rename_i aS K1 sm1 e1 pu hpu pv hpv aC K2 sm2 e2 aD K3 sm3 e3 aE K4 sm4 e4
  rw [cut_from1, cut_to] at e4
  have hu : At K4 (isRowT (x0 + 40000, x1, 5)) (.ref pu) := isRowT_at (by walk_at "hp")
  refine q (.tuple ((rows.map isRowT).take n ++ [isRowT (x0 + 40000, x1, 5), isRowT (x0, x1, x2)] ++ (rows.map isRowT).drop (n + 1))) _ _ (isTable_flat (by show x0 ≤ x0 + 40000; omega)) (by walk_at "sm") ⟨aE, _, rfl, e4, ?_⟩
  exact ((AtAll.append (AtAll.append ((hvs.take n).le (by walk_at "le")) ⟨_, _, rfl, hu, _, _, rfl, hv.le (by walk_at "le"), rfl⟩) ((hvs.drop (n + 1)).le (by walk_at "le"))))
/-! ### the law -/
instance {H : Hp} {Q : VK} {E : XK} {a : V} {c : Int} : Step (sp_spoilt a (.int c) H Q E) (∃ rows, (At H (.tuple (rows.map isRowT)) a ∧ Drawn rows ∧ 0 ≤ c) ∧ MadQ H (fun d v H' => isTable d = false ∧ At H' d v) fun _ v H' => Q v H') := ⟨fun ⟨rows, ⟨h1, h2, h3⟩, q⟩ => ⟨rows, c, h1, h2, rfl, h3, fun d v H' e sm a => q d v H' sm ⟨e, a⟩⟩⟩
instance {H : Hp} {Q : VK} {E : XK} {a : V} {n : Int} : Step (sp_at_number a (.int n) H Q E) (∃ rows, (At H (.tuple (rows.map isRowT)) a ∧ SmallP rows) ∧ Q (.int (atTab rows n)) H) := ⟨fun ⟨rows, ⟨h1, h2⟩, q⟩ => ⟨rows, n, h1, rfl, h2, q⟩⟩
instance {H : Hp} {Q : VK} {E : XK} {a : V} {n : Int} : Step (sp_law_at a (.int n) H Q E) (∃ rows, (At H (.tuple (rows.map isRowT)) a ∧ SmallP rows) ∧ Q (.int (atTab rows n)) H) := ⟨fun ⟨rows, ⟨h1, h2⟩, q⟩ => ⟨rows, n, h1, rfl, h2, q⟩⟩
abbrev s_law : Stmt := topS 17
theorem sc_law : FnScope ["_law_script", "_law_state", "_law_table_here", "_law_cell", "_law_wrong", "_law_told", "_law_good", "_law_row", "_law_far", "_law_number_here", "_law_found"] ["_law_script"] (defScope s_law) := ⟨rfl, rfl, rfl, by decide +kernel, rfl, by decide +kernel, by decide +kernel⟩
def sp_law (K : PySem.W.Frag) : Sp1 := fun a H Q _ => ∃ (sc : Addr) (ns : List Int), a = .ref sc ∧ Scr K H sc ns ∧ ∀ H', Q (.bl true) H'
theorem ok_law (M : Mg mg) (G__law_cell_at : Has P w K mg base "_law_cell_at" ["_law_script", "_law_k"] 1 (sp2 (sp_cell_at K))) (G__law_mixed : Has P w K mg base "_law_mixed" ["_law_cell", "_law_k"] 1 (sp2 sp_mixed))
    (G__law_table : Has P w K mg base "_law_table" ["_law_state"] 3 (sp1 sp_law_table)) (G__law_spoilt : Has P w K mg base "_law_spoilt" ["_law_table_here", "_law_cell"] 1 (sp2 sp_spoilt)) (G_is_table : Has P w K mg base "is_table" ["thing"] 4 (sp1 sp_is_table))
    (G_at_number : Has P w K mg base "at_number" ["table", "number"] 1 (sp2 sp_at_number)) (G__law_at : Has P w K mg base "_law_at" ["_law_table_here", "_law_number_here"] 1 (sp2 sp_law_at)) (G__law_whole : Has P w K mg base "_law_whole" ["_law_found"] 1 (sp1 sp_whole))
    (f : Addr) (cdv : Value) (A : Around) (outer : List Env) (s : Shared) (H : Hp) (a : V) (Q : VK) (E : XK) (hr : RoomOf 4 "law" s_law f cdv A s) (h : sp_law K a H Q E) : Body P w K mg base ["_law_script", "_law_state", "_law_table_here", "_law_cell", "_law_wrong", "_law_told", "_law_good", "_law_row", "_law_far", "_law_number_here", "_law_found"] "law" s_law f cdv A outer s H [a] Q E := by
  refine ⟨_, (pss_cons (ps_set (i := 1) sc_law.nd rfl (by first | exact Or.inl rfl | exact Or.inr rfl) (pe_lst (pa_cons (pe_own G__law_mixed (hr.mono (by first | decide | omega)) (by rfl) p_body (pa_cons (pe_own G__law_cell_at (hr.mono (by first | decide | omega)) (by rfl) p_body (pa_cons (pv 0) (pa_cons pe_int pa_nil))) (pa_cons pe_int pa_nil))) pa_nil)))
    (pss_cons (ps_set (i := 2) sc_law.nd rfl (by first | exact Or.inl rfl | exact Or.inr rfl) (pe_own G__law_table (hr.mono (by first | decide | omega)) (by rfl) p_body (pa_cons (pv 1) pa_nil)))
    (pss_cons (ps_set (i := 3) sc_law.nd rfl (by first | exact Or.inl rfl | exact Or.inr rfl) (pe_own G__law_mixed (hr.mono (by first | decide | omega)) (by rfl) p_body (pa_cons (pe_own G__law_cell_at (hr.mono (by first | decide | omega)) (by rfl) p_body (pa_cons (pv 0) (pa_cons pe_int pa_nil))) (pa_cons pe_int pa_nil))))
    (pss_cons (ps_if (pt_cmpR (k_eq K rfl hr) (pe_op o_mod (pv 3) pe_int) pe_int (nomark _)) (pss_cons (ps_set (i := 4) sc_law.nd rfl (by first | exact Or.inl rfl | exact Or.inr rfl) (pe_own G__law_spoilt (hr.mono (by first | decide | omega)) (by rfl) p_body (pa_cons (pv 2) (pa_cons (pe_op o_div (pv 3) pe_int) pa_nil))))
    (pss_cons (ps_set (i := 5) sc_law.nd rfl (by first | exact Or.inl rfl | exact Or.inr rfl) (pe_own G_is_table (hr.mono (by first | decide | omega)) (by rfl) p_body (pa_cons (pv 4) pa_nil)))
    (pss_one (ps_ret (pe_and (pe_callB (k_isi K rfl) (by rfl) M.isinstance (by decide +kernel) (pa_cons (pv 5) (pa_cons (pe_bltn (v := .ty "bool") (by rfl) M.bool (by decide +kernel) rfl) pa_nil))) (pe_and (pe_not (pv 5)) (pe_one (pe_own G_is_table (hr.mono (by first | decide | omega)) (by rfl) p_body (pa_cons (pv 2) pa_nil))))))))) pss_nil)
    (pss_cons (ps_set (i := 6) sc_law.nd rfl (by first | exact Or.inl rfl | exact Or.inr rfl) (pe_own G_is_table (hr.mono (by first | decide | omega)) (by rfl) p_body (pa_cons (pv 2) pa_nil)))
    (pss_cons (ps_if (PW.pt (pw_or (pt_not (pt_val (pe_callB (k_isi K rfl) (by rfl) M.isinstance (by decide +kernel) (pa_cons (pv 6) (pa_cons (pe_bltn (v := .ty "bool") (by rfl) M.bool (by decide +kernel) rfl) pa_nil))))) (pw_or1 (pt_not (pt_val (pv 6)))))) (pss_one (ps_ret pe_bl)) pss_nil)
    (pss_cons (ps_set (i := 7) sc_law.nd rfl (by first | exact Or.inl rfl | exact Or.inr rfl) (pe_ix (k_ix K rfl) (pv 2) (pe_op o_mod (pe_op o_div (pv 3) pe_int) (pe_callB (k_len K rfl) (by rfl) M.len (by decide +kernel) (pa_cons (pv 2) pa_nil))) (fun _ _ => rfl)))
    (pss_cons (ps_set (i := 8) sc_law.nd rfl (by first | exact Or.inl rfl | exact Or.inr rfl) (pe_own G__law_cell_at (hr.mono (by first | decide | omega)) (by rfl) p_body (pa_cons (pv 0) (pa_cons pe_int pa_nil))))
    (pss_cons (ps_for own_p (by rfl) (k_pi K rfl (pe_lst (pa_cons (pe_ix (k_ix K rfl) (pv 7) pe_int (fun _ _ => rfl)) (pa_cons (pe_op o_sub (pe_ix (k_ix K rfl) (pv 7) pe_int (fun _ _ => rfl)) pe_int) (pa_cons (pe_op (k_add K rfl) (pe_ix (k_ix K rfl) (pv 7) pe_int (fun _ _ => rfl)) pe_int) (pa_cons (pe_op (k_add K rfl) (pe_ix (k_ix K rfl) (pv 7) pe_int (fun _ _ => rfl)) (pe_op o_mod (pe_op o_div (pv 3) pe_int) pe_int)) (pa_cons (pe_op o_mod (pv 8) (pe_op o_pow pe_int pe_int)) (pa_cons (pe_op o_sub pe_int (pe_op o_mod (pv 8) (pe_op o_pow pe_int pe_int))) pa_nil)))))))) (pg_name (i := 9) sc_law.nd rfl (by first | exact Or.inl rfl | exact Or.inr rfl)) (pss_cons (ps_set (i := 10) sc_law.nd rfl (by first | exact Or.inl rfl | exact Or.inr rfl) (pe_own G_at_number (hr.mono (by first | decide | omega)) (by rfl) p_body (pa_cons (pv 2) (pa_cons (pv 9) pa_nil))))
    (pss_one (ps_if (PW.pt (pw_or (pt_not (pt_val (pe_own G__law_whole (hr.mono (by first | decide | omega)) (by rfl) p_body (pa_cons (pv 10) pa_nil)))) (pw_or1 (pt_cmpR (k_ne K rfl hr) (pv 10) (pe_own G__law_at (hr.mono (by first | decide | omega)) (by rfl) p_body (pa_cons (pv 2) (pa_cons (pv 9) pa_nil))) (nomark _))))) (pss_one (ps_ret pe_bl)) pss_nil))))
    (pss_one (ps_ret pe_bl))))))))))), ?_⟩
  obtain ⟨sc, ns, rfl, hS, q⟩ := h
  refine Fl.go_start (σ0 := [some _, none, none, none, none, none, none, none, none, none, none]) rfl ?_
  walk_at "s"
  rename_i z0 z1 zl zh s0 hs0 rows v H1 gs hv w1 hw1 z2 z3 z3l z3h
  obtain ⟨hD, hat⟩ := hv
  have hT := hD.table
  refine if_d (fun c => ?_) (fun c => ?_)
  · walk_at "s"
    refine ⟨rows, ⟨hat, hD, by omega⟩, ?_⟩
    walk_at "s"
    rename_i d v2 H2 sm hv2
    obtain ⟨hd1, hd2⟩ := hv2
    walk_at "s"
    rw [hd1]
    walk_at "s"
    rw [hT]
    exact q _
  obtain ⟨t, vs, rfl, ht, hvs⟩ := id hat
  have lv := hvs.length
  rw [List.length_map] at lv
  have l0 := hD.pos
  have l1 := hD.few
  walk_at "s"
  rename_i H2 sm2
  rw [hT]
  walk_at "s"
  have a0 : 0 ≤ z3 / 2 % (vs.length : Int) := Int.emod_nonneg _ (by omega)
  have a1 : z3 / 2 % (vs.length : Int) < (vs.length : Int) := Int.emod_lt_of_pos _ (by omega)
  refine ex_pick (fun v => ∃ b x0 x1 x2, v = .ref b ∧ H2 b = some (.tup [.int x0, .int x1, .int x2])) a0 a1 (fun v hv => ?_) (fun v hv => ?_)
  · obtain ⟨i, hi⟩ := List.getElem?_of_mem hv
    obtain ⟨d, ed, hd⟩ := hvs.ix hi
    obtain ⟨r, _, rfl⟩ := List.mem_map.mp (List.mem_of_getElem? ed)
    obtain ⟨b, e, hb⟩ := hd.row
    exact ⟨b, _, _, _, e, sm2 _ _ hb⟩
  obtain ⟨b, x0, x1, x2, rfl, hb⟩ := hv
  walk_at "s"
  rename_i zf p hp
  have lp : ∀ o, upd H2 p o p = some o := fun o => upd_same
  refine for_lst (fun i σ' H' => ∃ x y, H' = upd H2 p (HO.lst [V.int x0, V.int (x0 - 1), V.int (x0 + 1), V.int (x0 + z3 / 100 % 5000), V.int (zf % 10 ^ Int.toNat 12), V.int (0 - zf % 10 ^ Int.toNat 12)]) ∧
      σ' = [some (.ref sc), some (.ref s0), some (.ref t), some (.int z3), none, none, some (.bl true), some (.ref b), some (.int zf), x, y]) (by walk_at "hp") ⟨none, none, rfl, rfl⟩ (fun i σ' H' _ ⟨_, _, e, _⟩ => by rw [e]; exact upd_same) ?_ ?_
  · rintro i x σ' H' ex ⟨u, y, rfl, rfl⟩
    have hx : ∃ n : Int, x = .int n := by
      have hm := List.mem_of_getElem? ex
      simp only [List.mem_cons, List.not_mem_nil, or_false] at hm
      rcases hm with rfl | rfl | rfl | rfl | rfl | rfl <;> exact ⟨_, rfl⟩
    obtain ⟨n, rfl⟩ := hx
    walk_at "s"
    refine ⟨rows, ⟨hat.le (by walk_at "le"), hD.small⟩, ?_⟩
    walk_at "s"
    refine ⟨rows, ⟨hat.le (by walk_at "le"), hD.small⟩, ?_⟩
    walk_at "s"
    rw [if_neg (by simp)]
    exact ⟨_, _, rfl, rfl⟩
  · rintro σ' H' ⟨u, y, rfl, rfl⟩
    walk_at "s"
    exact q _
end
end Fl

-- after: tabs.tpl gen0.tpl lawtab.tpl k01.tpl
namespace Fl
open PySem PySem.Spec PyProof.Rows L2 RZ
/-! ### the end -/
theorem defAt_mk {K : PySem.W.Frag} {h : Heap} {mg : Str → Option Value} {x : Str} {st : Stmt} {ps : List Str} {f : Addr} {oc : Value} {od an : Option Addr} {osl : Array (Option Value)} {kV doc pm cdv ct : Value} (X : K.In h) (G : h.Ns mainGlobals mg)
    (a : PySem.W.nsIn K mainGlobals x = some (some (.ref f))) (l : K.lookup f = some ⟨oc, od, .func (PySem.W.fnOf x x (defArgs st) (defBody st) (defScope st) .none kV doc pm an cdv ct), osl⟩) (c : PySem.W.codeIn K cdv x = true) (k : PySem.W.keepIn K (.ref f) = true)
    (b : ∀ (kV doc pm : Value) (an : Option Addr) (cdv ct : Value) (us : List Value), us.length = ps.length → bindArgs (PySem.W.fnOf x x (defArgs st) (defBody st) (defScope st) .none kV doc pm an cdv ct) ⟨us, []⟩ = pure (ps.zip us)) : DefAt K mg x st ps :=
  ⟨f, _, fun_mk l c k, PySem.W.mg_of X G a, (fun_mk l c k).binds b⟩
theorem law_fn {P : Program} {w : World} {K : PySem.W.Frag} {mg : Str → Option Value} {base : Heap} {x p1 : Str} {st : Stmt} {N : List Str} {fa : Addr} {fd : FuncData} {k : Nat} {g : Sp1} (F : Fun K x x st fa fd) (S : FnScope N [p1] (defScope st))
    (hb : ∀ f cdv A outer s H a Q E, RoomOf k x st f cdv A s → g a H Q E → Body P w K mg base N x st f cdv A outer s H [a] Q E) : FnOk P w K mg base (L2.CX P w) (k + 1) fa fd [p1] (sp1 g) :=
  F.okX S (fun vs H Q E ⟨a, e, _⟩ => by rw [e]; rfl) fun cdv A outer s H vs Q E hr ⟨a, e, h⟩ => by subst e; exact hb _ cdv A outer s H a Q E hr h
theorem all_mk {P : Program} {w : World} {K : PySem.W.Frag} {h : Heap} {mg : Str → Option Value} {fa : Addr} (X : K.In h) (G : h.Ns mainGlobals mg) (hfa : mg "law" = some (.ref fa))
    {t_MOST_ROWS : Tok} (k_MOST_ROWS : PySem.W.nsIn K mainGlobals "MOST_ROWS" = some (some (.int 20 t_MOST_ROWS)))
    {t_GREATEST : Tok} (k_GREATEST : PySem.W.nsIn K mainGlobals "GREATEST" = some (some (.int 1000000000 t_GREATEST)))
    (z_all : PySem.W.nsIn K mainGlobals "all" = some none)
    (z_any : PySem.W.nsIn K mainGlobals "any" = some none)
    (z_bool : PySem.W.nsIn K mainGlobals "bool" = some none)
    (z_dict : PySem.W.nsIn K mainGlobals "dict" = some none)
    (z_int : PySem.W.nsIn K mainGlobals "int" = some none)
    (z_isinstance : PySem.W.nsIn K mainGlobals "isinstance" = some none)
    (z_len : PySem.W.nsIn K mainGlobals "len" = some none)
    (z_list : PySem.W.nsIn K mainGlobals "list" = some none)
    (z_max : PySem.W.nsIn K mainGlobals "max" = some none)
    (z_min : PySem.W.nsIn K mainGlobals "min" = some none)
    (z_range : PySem.W.nsIn K mainGlobals "range" = some none)
    (z_reversed : PySem.W.nsIn K mainGlobals "reversed" = some none)
    (z_sorted : PySem.W.nsIn K mainGlobals "sorted" = some none)
    (z_str : PySem.W.nsIn K mainGlobals "str" = some none)
    (z_sum : PySem.W.nsIn K mainGlobals "sum" = some none)
    (z_tuple : PySem.W.nsIn K mainGlobals "tuple" = some none)
    (z_zip : PySem.W.nsIn K mainGlobals "zip" = some none)
    (D_is_whole : DefAt K mg "is_whole" s_is_whole ["thing", "least", "most"])
    (D_is_number : DefAt K mg "is_number" s_is_number ["thing"])
    (D_is_row : DefAt K mg "is_row" s_is_row ["thing"])
    (D_is_table : DefAt K mg "is_table" s_is_table ["thing"])
    (D_at_number : DefAt K mg "at_number" s_at_number ["table", "number"])
    (D__law_cell_at : DefAt K mg "_law_cell_at" s__law_cell_at ["_law_script", "_law_k"])
    (D__law_mixed : DefAt K mg "_law_mixed" s__law_mixed ["_law_cell", "_law_k"])
    (D__law_next : DefAt K mg "_law_next" s__law_next ["_law_state", "_law_size"])
    (D__law_number : DefAt K mg "_law_number" s__law_number ["_law_state"])
    (D__law_whole : DefAt K mg "_law_whole" s__law_whole ["_law_found"])
    (D__law_table : DefAt K mg "_law_table" s__law_table ["_law_state"])
    (D__law_at : DefAt K mg "_law_at" s__law_at ["_law_table_here", "_law_number_here"])
    (D__law_spoilt : DefAt K mg "_law_spoilt" s__law_spoilt ["_law_table_here", "_law_cell"])
    {f0 : Addr} {oc : Value} {od an : Option Addr} {osl : Array (Option Value)} {kV doc pm cdv ct : Value} (a0 : PySem.W.nsIn K mainGlobals "law" = some (some (.ref f0))) (l0 : K.lookup f0 = some ⟨oc, od, .func (PySem.W.fnOf "law" "law" (defArgs s_law) (defBody s_law) (defScope s_law) .none kV doc pm an cdv ct), osl⟩) (c0 : PySem.W.codeIn K cdv "law" = true) (k0 : PySem.W.keepIn K (.ref f0) = true) :
    ∃ fd : FuncData, (∀ (s : Shared) (u : Value), BindsTo s fd ⟨[u], []⟩ [("_law_script", u)]) ∧ ∀ base : Heap, K.In base → base.Ns mainGlobals mg → FnOk P w K mg base (L2.CX P w) 5 fa fd ["_law_script"] (sp1 (sp_law K)) := by
  cases hfa.symm.trans (PySem.W.mg_of X G a0)
  have F := fun_mk (st := s_law) l0 c0 k0
  have M : Mg mg := ⟨PySem.W.mg_none_of X G z_all, PySem.W.mg_none_of X G z_any, PySem.W.mg_none_of X G z_bool, PySem.W.mg_none_of X G z_dict, PySem.W.mg_none_of X G z_int, PySem.W.mg_none_of X G z_isinstance, PySem.W.mg_none_of X G z_len, PySem.W.mg_none_of X G z_list, PySem.W.mg_none_of X G z_max, PySem.W.mg_none_of X G z_min, PySem.W.mg_none_of X G z_range, PySem.W.mg_none_of X G z_reversed, PySem.W.mg_none_of X G z_sorted, PySem.W.mg_none_of X G z_str, PySem.W.mg_none_of X G z_sum, PySem.W.mg_none_of X G z_tuple, PySem.W.mg_none_of X G z_zip⟩
  have c_MOST_ROWS : ∃ t, mg "MOST_ROWS" = some (.int 20 t) := ⟨_, PySem.W.mg_of X G k_MOST_ROWS⟩
  have c_GREATEST : ∃ t, mg "GREATEST" = some (.int 1000000000 t) := ⟨_, PySem.W.mg_of X G k_GREATEST⟩
  refine ⟨PySem.W.fnOf "law" "law" (defArgs s_law) (defBody s_law) (defScope s_law) .none kV doc pm an cdv ct, fun s v => .of_eq rfl, fun base _ _ => ?_⟩
  have g_is_whole := ok_is_whole (P := P) (w := w) (base := base) M D_is_whole
  have g_is_number := ok_is_number (P := P) (w := w) (base := base) M c_GREATEST g_is_whole D_is_number
  have g_is_row := ok_is_row (P := P) (w := w) (base := base) M g_is_whole g_is_number D_is_row
  have g_is_table := ok_is_table (P := P) (w := w) (base := base) M c_MOST_ROWS g_is_row D_is_table
  have g_at_number := ok_at_number (P := P) (w := w) (base := base) M D_at_number
  have g__law_cell_at := ok_cell_at (P := P) (w := w) (base := base) M D__law_cell_at
  have g__law_mixed := ok_mixed (P := P) (w := w) (base := base) M D__law_mixed
  have g__law_next := ok_next (P := P) (w := w) (base := base) M D__law_next
  have g__law_number := ok_number (P := P) (w := w) (base := base) M g__law_next D__law_number
  have g__law_whole := ok_whole (P := P) (w := w) (base := base) M D__law_whole
  have g__law_table := ok_law_table (P := P) (w := w) (base := base) M g__law_next g__law_number D__law_table
  have g__law_at := ok_law_at (P := P) (w := w) (base := base) M D__law_at
  have g__law_spoilt := ok_spoilt (P := P) (w := w) (base := base) M D__law_spoilt
  exact law_fn F sc_law (ok_law M g__law_cell_at g__law_mixed g__law_table g__law_spoilt g_is_table g_at_number g__law_at g__law_whole)
end Fl
open PySem PySem.W PyProof.Rows
set_option maxRecDepth 100000 in
set_option maxHeartbeats 0 in
theorem PySem.Challenge.cw_formlines_k01_tables_holds : PySem.Challenge.rw_formlines_k01_tables.Holds := by
  w_on; o_law; k_head; (case hw => w_witness2)
  k_fill
  refine L2.walk_of (l := PySem.Challenge.rw_formlines_k01_tables) (n := 63) (k := 5) (x := "_law_script") (CX := fun w => L2.CX PySem.Challenge.rw_formlines_k01_tables.prog w) (sp := fun w => Fl.sp1 (Fl.sp_law _)) rfl (by decide) rfl ⟨rfl, by decide, by decide⟩ (fun w h Y => PySem.W.kIn_of Y) ?F (fun w H a ns hl ho hS => ⟨_, rfl, a, ns, rfl, Fl.Scr.of ho hS, fun _ => rfl⟩) (fun _ _ _ _ _ ⟨_, _, _, _, _, _, _, _, _, _, _, _, z⟩ => z)
  case F =>
    intro w mg fa h KX G hmg
    refine' Fl.all_mk KX G hmg ?k_MOST_ROWS
      ?k_GREATEST
      ?z_all
      ?z_any
      ?z_bool
      ?z_dict
      ?z_int
      ?z_isinstance
      ?z_len
      ?z_list
      ?z_max
      ?z_min
      ?z_range
      ?z_reversed
      ?z_sorted
      ?z_str
      ?z_sum
      ?z_tuple
      ?z_zip
      (Fl.defAt_mk KX G ?a_is_whole ?l_is_whole ?c_is_whole ?k_is_whole (fun _ _ _ _ _ _ us hl => match us, hl with | [_, _, _], _ => rfl))
      (Fl.defAt_mk KX G ?a_is_number ?l_is_number ?c_is_number ?k_is_number (fun _ _ _ _ _ _ us hl => match us, hl with | [_], _ => rfl))
      (Fl.defAt_mk KX G ?a_is_row ?l_is_row ?c_is_row ?k_is_row (fun _ _ _ _ _ _ us hl => match us, hl with | [_], _ => rfl))
      (Fl.defAt_mk KX G ?a_is_table ?l_is_table ?c_is_table ?k_is_table (fun _ _ _ _ _ _ us hl => match us, hl with | [_], _ => rfl))
      (Fl.defAt_mk KX G ?a_at_number ?l_at_number ?c_at_number ?k_at_number (fun _ _ _ _ _ _ us hl => match us, hl with | [_, _], _ => rfl))
      (Fl.defAt_mk KX G ?a__law_cell_at ?l__law_cell_at ?c__law_cell_at ?k__law_cell_at (fun _ _ _ _ _ _ us hl => match us, hl with | [_, _], _ => rfl))
      (Fl.defAt_mk KX G ?a__law_mixed ?l__law_mixed ?c__law_mixed ?k__law_mixed (fun _ _ _ _ _ _ us hl => match us, hl with | [_, _], _ => rfl))
      (Fl.defAt_mk KX G ?a__law_next ?l__law_next ?c__law_next ?k__law_next (fun _ _ _ _ _ _ us hl => match us, hl with | [_, _], _ => rfl))
      (Fl.defAt_mk KX G ?a__law_number ?l__law_number ?c__law_number ?k__law_number (fun _ _ _ _ _ _ us hl => match us, hl with | [_], _ => rfl))
      (Fl.defAt_mk KX G ?a__law_whole ?l__law_whole ?c__law_whole ?k__law_whole (fun _ _ _ _ _ _ us hl => match us, hl with | [_], _ => rfl))
      (Fl.defAt_mk KX G ?a__law_table ?l__law_table ?c__law_table ?k__law_table (fun _ _ _ _ _ _ us hl => match us, hl with | [_], _ => rfl))
      (Fl.defAt_mk KX G ?a__law_at ?l__law_at ?c__law_at ?k__law_at (fun _ _ _ _ _ _ us hl => match us, hl with | [_, _], _ => rfl))
      (Fl.defAt_mk KX G ?a__law_spoilt ?l__law_spoilt ?c__law_spoilt ?k__law_spoilt (fun _ _ _ _ _ _ us hl => match us, hl with | [_, _], _ => rfl))
      ?a0
      ?l0
      ?c0
      ?k0
    (case k_MOST_ROWS => k_is)
    (case k_GREATEST => k_is)
    (case z_all => k_is)
    (case z_any => k_is)
    (case z_bool => k_is)
    (case z_dict => k_is)
    (case z_int => k_is)
    (case z_isinstance => k_is)
    (case z_len => k_is)
    (case z_list => k_is)
    (case z_max => k_is)
    (case z_min => k_is)
    (case z_range => k_is)
    (case z_reversed => k_is)
    (case z_sorted => k_is)
    (case z_str => k_is)
    (case z_sum => k_is)
    (case z_tuple => k_is)
    (case z_zip => k_is)
    (case a_is_whole => k_is)
    (case l_is_whole => k_is)
    (case c_is_whole => k_is)
    (case k_is_whole => k_is)
    (case a_is_number => k_is)
    (case l_is_number => k_is)
    (case c_is_number => k_is)
    (case k_is_number => k_is)
    (case a_is_row => k_is)
    (case l_is_row => k_is)
    (case c_is_row => k_is)
    (case k_is_row => k_is)
    (case a_is_table => k_is)
    (case l_is_table => k_is)
    (case c_is_table => k_is)
    (case k_is_table => k_is)
    (case a_at_number => k_is)
    (case l_at_number => k_is)
    (case c_at_number => k_is)
    (case k_at_number => k_is)
    (case a__law_cell_at => k_is)
    (case l__law_cell_at => k_is)
    (case c__law_cell_at => k_is)
    (case k__law_cell_at => k_is)
    (case a__law_mixed => k_is)
    (case l__law_mixed => k_is)
    (case c__law_mixed => k_is)
    (case k__law_mixed => k_is)
    (case a__law_next => k_is)
    (case l__law_next => k_is)
    (case c__law_next => k_is)
    (case k__law_next => k_is)
    (case a__law_number => k_is)
    (case l__law_number => k_is)
    (case c__law_number => k_is)
    (case k__law_number => k_is)
    (case a__law_whole => k_is)
    (case l__law_whole => k_is)
    (case c__law_whole => k_is)
    (case k__law_whole => k_is)
    (case a__law_table => k_is)
    (case l__law_table => k_is)
    (case c__law_table => k_is)
    (case k__law_table => k_is)
    (case a__law_at => k_is)
    (case l__law_at => k_is)
    (case c__law_at => k_is)
    (case k__law_at => k_is)
    (case a__law_spoilt => k_is)
    (case l__law_spoilt => k_is)
    (case c__law_spoilt => k_is)
    (case k__law_spoilt => k_is)
    (case a0 => k_is)
    (case l0 => k_is)
    (case c0 => k_is)
    (case k0 => k_is)

