import PyProof.Rows.All
import Wide.All
import OpenK.AllK
import Wide.FinOn
import PyProof.EqAt
import PyProof.EqKinds
import PyProof.TupleCall
import HandS.ForMost
import HandS.ForExc
import HandS.IsInst
import HandS.TupAny
import HandS.Zip
import HandS.Rev
import HandS.SortInts
import HandS.SortRule
import HandS.Deep
import HandS.Conv
import HandS.Flow
import HandS.More
import HandS.SetFor
import HandS.TryMany
import HandS.ExcIs
import HandS.HotCalls
import HandS.DictTup
import KE.KSortTupG
import PySem.Challenge.RW_formlines_k09_whole_choices
set_option Elab.async false
set_option linter.all false
set_option maxRecDepth 100000
set_option maxHeartbeats 1000000
set_option Elab.async false
set_option linter.all false
set_option maxRecDepth 100000
set_option maxHeartbeats 4000000
/-! a small layer over HandS: one rule for each operator whatever the kinds, steps through readings, heaps that grow -/
namespace Fl
open PySem PySem.Spec PyProof.Rows L2
abbrev Ctx0 := L2.Cx

/-! ### what stands at the module's top -/
/-- the built-in names that no text here binds -/
structure Mg (mg : Str → Option Value) : Prop where
  all : mg "all" = none
  any : mg "any" = none
  bool : mg "bool" = none
  dict : mg "dict" = none
  int : mg "int" = none
  isinstance : mg "isinstance" = none
  len : mg "len" = none
  list : mg "list" = none
  max : mg "max" = none
  min : mg "min" = none
  range : mg "range" = none
  reversed : mg "reversed" = none
  sorted : mg "sorted" = none
  str : mg "str" = none
  sum : mg "sum" = none
  tuple : mg "tuple" = none
  zip : mg "zip" = none
  ValueError : mg "ValueError" = none
/-- a def of the text at its place -/
structure DefAt (K : PySem.W.Frag) (mg : Str → Option Value) (x : Str) (st : Stmt) (ps : List Str) : Prop where
  ex : ∃ (f : Addr) (fd : FuncData), Fun K x x st f fd ∧ mg x = some (.ref f) ∧ Binds K fd ps []
/-- a def that may be called, by its promise -/
structure Has (P : Program) (w : World) (K : PySem.W.Frag) (mg : Str → Option Value) (base : Heap) (x : Str) (ps : List Str) (k : Nat) (sp : Sp) : Prop where
  ex : ∃ (f : Addr) (fd : FuncData), FnOk P w K mg base (L2.CX P w) k f fd ps sp ∧ mg x = some (.ref f) ∧ PySem.W.keepIn K (.ref f) = true ∧ Binds K fd ps []
section
variable {P : Program} {w : World} {K : PySem.W.Frag} {mg : Str → Option Value} {base : Heap} {x : Str} {st : Stmt} {N ps : List Str} {k j : Nat} {sp sp' : Sp}
theorem Has.mono (h : Has P w K mg base x ps j sp) (l : j ≤ k) : Has P w K mg base x ps k sp := by
  obtain ⟨f, fd, F, a, b, c⟩ := h.ex
  exact ⟨f, fd, F.mono l, a, b, c⟩
theorem Has.imp (h : Has P w K mg base x ps k sp) (i : ∀ vs H Q E, sp' vs H Q E → sp vs H Q E) : Has P w K mg base x ps k sp' := by
  obtain ⟨f, fd, F, a, b, c⟩ := h.ex
  exact ⟨f, fd, F.imp i, a, b, c⟩
/-- the body's context -/
abbrev cx (P : Program) (w : World) (K : PySem.W.Frag) (mg : Str → Option Value) (base : Heap) (N : List Str) (x : Str) (st : Stmt) (f : Addr) (cdv : Value) (A : Around) (outer : List Env) (s : Shared) (H : Hp) (E : XK) : L2.Cx :=
  cxOf (L2.CX P w) P w K mg base N x (defScope st) f cdv A outer s H E
theorem Has.mk' (D : DefAt K mg x st ps) (S : FnScope N ps (defScope st)) (len : ∀ vs H Q E, sp vs H Q E → vs.length = ps.length)
    (hbody : ∀ (f : Addr) (cdv : Value) (A : Around) (outer : List Env) (s : Shared) (H : Hp) (vs : List V) (Q : VK) (E : XK), Room k (A.deeper (envOfC x (defScope st) s.heap.objs.size f cdv)) → sp vs H Q E →
      ∃ t, PSs (cx P w K mg base N x st f cdv A outer s H E) (defBody st) t ∧ t { nx := fun _ H' => Q .non H', rt := Q } (start N vs) H) : Has P w K mg base x ps (k + 1) sp := by
  obtain ⟨f, fd, F, hm, hb⟩ := D.ex
  exact ⟨f, fd, F.okX S len (fun cdv A outer s H vs Q E hr h => hbody f cdv A outer s H vs Q E hr h), hm, F.kp, hb⟩
/-- promises by arity -/
abbrev Sp1 := V → Hp → VK → XK → Prop
abbrev Sp2 := V → V → Hp → VK → XK → Prop
abbrev Sp3 := V → V → V → Hp → VK → XK → Prop
abbrev Sp4 := V → V → V → V → Hp → VK → XK → Prop
abbrev Sp5 := V → V → V → V → V → Hp → VK → XK → Prop
abbrev Sp7 := V → V → V → V → V → V → V → Hp → VK → XK → Prop
def sp1 (g : Sp1) : Sp := fun vs H Q E => ∃ a, vs = [a] ∧ g a H Q E
def sp2 (g : Sp2) : Sp := fun vs H Q E => ∃ a b, vs = [a, b] ∧ g a b H Q E
def sp3 (g : Sp3) : Sp := fun vs H Q E => ∃ a b c, vs = [a, b, c] ∧ g a b c H Q E
def sp4 (g : Sp4) : Sp := fun vs H Q E => ∃ a b c d, vs = [a, b, c, d] ∧ g a b c d H Q E
def sp5 (g : Sp5) : Sp := fun vs H Q E => ∃ a b c d e, vs = [a, b, c, d, e] ∧ g a b c d e H Q E
def sp7 (g : Sp7) : Sp := fun vs H Q E => ∃ a b c d e f i, vs = [a, b, c, d, e, f, i] ∧ g a b c d e f i H Q E
/-- the room that a body of level k has -/
abbrev RoomOf (k : Nat) (x : Str) (st : Stmt) (f : Addr) (cdv : Value) (A : Around) (s : Shared) : Prop := Room k (A.deeper (envOfC x (defScope st) s.heap.objs.size f cdv))
abbrev Body (P : Program) (w : World) (K : PySem.W.Frag) (mg : Str → Option Value) (base : Heap) (N : List Str) (x : Str) (st : Stmt) (f : Addr) (cdv : Value) (A : Around) (outer : List Env) (s : Shared) (H : Hp) (vs : List V) (Q : VK) (E : XK) : Prop :=
  ∃ t, PSs (cx P w K mg base N x st f cdv A outer s H E) (defBody st) t ∧ t { nx := fun _ H' => Q .non H', rt := Q } (start N vs) H
theorem Has.mk1 {g : Sp1} {p1 : Str} (D : DefAt K mg x st [p1]) (S : FnScope N [p1] (defScope st))
    (hb : ∀ f cdv A outer s H a Q E, RoomOf k x st f cdv A s → g a H Q E → Body P w K mg base N x st f cdv A outer s H [a] Q E) : Has P w K mg base x [p1] (k + 1) (sp1 g) :=
  .mk' D S (fun vs H Q E ⟨a, e, _⟩ => by rw [e]; rfl) fun f cdv A outer s H vs Q E hr ⟨a, e, h⟩ => by subst e; exact hb f cdv A outer s H a Q E hr h
theorem Has.mk2 {g : Sp2} {p1 p2 : Str} (D : DefAt K mg x st [p1, p2]) (S : FnScope N [p1, p2] (defScope st))
    (hb : ∀ f cdv A outer s H a b Q E, RoomOf k x st f cdv A s → g a b H Q E → Body P w K mg base N x st f cdv A outer s H [a, b] Q E) : Has P w K mg base x [p1, p2] (k + 1) (sp2 g) :=
  .mk' D S (fun vs H Q E ⟨a, b, e, _⟩ => by rw [e]; rfl) fun f cdv A outer s H vs Q E hr ⟨a, b, e, h⟩ => by subst e; exact hb f cdv A outer s H a b Q E hr h
theorem Has.mk3 {g : Sp3} {p1 p2 p3 : Str} (D : DefAt K mg x st [p1, p2, p3]) (S : FnScope N [p1, p2, p3] (defScope st))
    (hb : ∀ f cdv A outer s H a b c Q E, RoomOf k x st f cdv A s → g a b c H Q E → Body P w K mg base N x st f cdv A outer s H [a, b, c] Q E) : Has P w K mg base x [p1, p2, p3] (k + 1) (sp3 g) :=
  .mk' D S (fun vs H Q E ⟨a, b, c, e, _⟩ => by rw [e]; rfl) fun f cdv A outer s H vs Q E hr ⟨a, b, c, e, h⟩ => by subst e; exact hb f cdv A outer s H a b c Q E hr h
theorem Has.mk4 {g : Sp4} {p1 p2 p3 p4 : Str} (D : DefAt K mg x st [p1, p2, p3, p4]) (S : FnScope N [p1, p2, p3, p4] (defScope st))
    (hb : ∀ f cdv A outer s H a b c d Q E, RoomOf k x st f cdv A s → g a b c d H Q E → Body P w K mg base N x st f cdv A outer s H [a, b, c, d] Q E) : Has P w K mg base x [p1, p2, p3, p4] (k + 1) (sp4 g) :=
  .mk' D S (fun vs H Q E ⟨a, b, c, d, e, _⟩ => by rw [e]; rfl) fun f cdv A outer s H vs Q E hr ⟨a, b, c, d, e, h⟩ => by subst e; exact hb f cdv A outer s H a b c d Q E hr h
theorem Has.mk5 {g : Sp5} {p1 p2 p3 p4 p5 : Str} (D : DefAt K mg x st [p1, p2, p3, p4, p5]) (S : FnScope N [p1, p2, p3, p4, p5] (defScope st))
    (hb : ∀ f cdv A outer s H a b c d e Q E, RoomOf k x st f cdv A s → g a b c d e H Q E → Body P w K mg base N x st f cdv A outer s H [a, b, c, d, e] Q E) : Has P w K mg base x [p1, p2, p3, p4, p5] (k + 1) (sp5 g) :=
  .mk' D S (fun vs H Q E ⟨a, b, c, d, e, z, _⟩ => by rw [z]; rfl) fun f cdv A outer s H vs Q E hr ⟨a, b, c, d, e, z, h⟩ => by subst z; exact hb f cdv A outer s H a b c d e Q E hr h
theorem Has.mk7 {g : Sp7} {p1 p2 p3 p4 p5 p6 p7 : Str} (D : DefAt K mg x st [p1, p2, p3, p4, p5, p6, p7]) (S : FnScope N [p1, p2, p3, p4, p5, p6, p7] (defScope st))
    (hb : ∀ f cdv A outer s H a b c d e i j Q E, RoomOf k x st f cdv A s → g a b c d e i j H Q E → Body P w K mg base N x st f cdv A outer s H [a, b, c, d, e, i, j] Q E) : Has P w K mg base x [p1, p2, p3, p4, p5, p6, p7] (k + 1) (sp7 g) :=
  .mk' D S (fun vs H Q E ⟨a, b, c, d, e, i, j, z, _⟩ => by rw [z]; rfl) fun f cdv A outer s H vs Q E hr ⟨a, b, c, d, e, i, j, z, h⟩ => by subst z; exact hb f cdv A outer s H a b c d e i j Q E hr h
/-- nothing is asked where no call is left -/
theorem Has.none_left {sp : Sp} (D : DefAt K mg x st ps) (no : ∀ vs H Q E, ¬ sp vs H Q E) : Has P w K mg base x ps k sp := by
  obtain ⟨f, fd, F, hm, hb⟩ := D.ex
  exact ⟨f, fd, ⟨fun vs H Q E h => absurd h (no vs H Q E), fun A outer s H args us vs Q E _ _ _ _ h => absurd h (no vs H Q E)⟩, hm, F.kp, hb⟩
end

/-! ### calls of own defs -/
section
variable {X : L2.Cx} {x : Str} {ps : List Str} {k : Nat} {sp : Sp} {E : XK} {p pos : Pos} {e : Expr} {es : List Expr} {t : TA}
def tCallO (sp : Sp) (E : XK) (t : TA) : TE := fun σ H Q => t σ H fun vs H1 => sp vs H1 Q E
theorem pe_own (h : Has X.prog X.w X.K X.mg X.base x ps k sp) (hr : Room k X.A) (hg : Gl X x) (hx : Passes (L2.CX X.prog X.w) X E)
    (ha : PA X (e :: es) t) (hdb : (x == ("__debug__" : Str)) = false := by decide) (he : starEach (e :: es) X.env = (false, eval e X.env) :: starEach es X.env := by rfl) (hpl : (backTo pos (starEach es X.env)).any (·.1) = false := by rfl) :
    PE X (.Call (.Name x p) (e :: es) [] pos) (tCallO sp E t) := by
  obtain ⟨f, fd, F, hm, hk, hb⟩ := h.ex
  have q := pe_call (sp := sp) (p := p) (pos := pos) F hr hg hm hk hb .nil hx ha hdb he hpl
  refine ⟨fun pins s σ H Q I w => q.run pins s σ H Q I ?_⟩
  have e2 : (fun (vs : List V) (H1 : Hp) => sp (vs ++ []) H1 Q E) = fun vs H1 => sp vs H1 Q E := by
    funext vs H1
    rw [List.append_nil]
  show t σ H (fun vs H1 => sp (vs ++ []) H1 Q E)
  rw [e2]
  exact w
/-- a whole number, a text of the module -/
theorem pe_gi {c : Int} (hg : Gl X x) (h : ∃ t, X.mg x = some (.int c t)) (hd : (x == ("__debug__" : Str)) = false := by decide) : PE X (.Name x pos) (tC (.int c)) := by
  obtain ⟨t, h⟩ := h
  exact pe_glob hg h ⟨t, rfl⟩ hd
theorem pe_gs {c : Str} (hg : Gl X x) (h : ∃ t, X.mg x = some (.str c t)) (hd : (x == ("__debug__" : Str)) = false := by decide) : PE X (.Name x pos) (tC (.str c)) := by
  obtain ⟨t, h⟩ := h
  exact pe_glob hg h ⟨t, rfl⟩ hd
end

/-! ### ways that meet behind a statement -/
def tCutF (t u : TS) : TS := fun D σ H => ∃ M : L2.St → Hp → Prop, t ⟨M, D.rt, D.bk, D.ct⟩ σ H ∧ ∀ σ' H', M σ' H' → u D σ' H'
theorem pss_meet {X : L2.Cx} {st : Stmt} {rest : List Stmt} {t u : TS} (h1 : PS X st t) (h2 : PSs X rest u) : PSs X (st :: rest) (tCutF t u) := by
  refine ⟨fun pins s σ H D I ⟨M, a, b⟩ => wpAny_execs_cons (thn (h1.run pins s σ H ⟨M, D.rt, D.bk, D.ct⟩ I a) fun f s1 q => ?_)⟩
  cases f with
  | next =>
    obtain ⟨σ', H', I', q⟩ := q
    exact h2.run pins s1 σ' H' D I' (b σ' H' q)
  | ret v => exact q
  | brk => exact q
  | cont => exact q

/-! ### one rule for an operator -/
section
variable {X : L2.Cx}
def uAdd (K : PySem.W.Frag) : R2 := fun x y H Q => match x, y with
  | .int i, .int j => Q (.int (i + j)) H
  | .str i, .str j => i.length + j.length ≤ sizeLine ∧ Q (.str (i ++ j)) H
  | .ref a, .ref b => rCat (.ref a) (.ref b) H Q ∨ rCatA K (.ref a) (.ref b) H Q
  | _, _ => False
theorem o_add : OpR X (binaryOp .Add) (uAdd X.K) := by
  intro pins s σ H x y v u Q I rx ry h
  cases x <;> cases y <;> first | exact h.elim | skip
  · exact op_add pins s σ H _ _ v u Q I rx ry ⟨_, _, rfl, rfl, h⟩
  · exact op_add_str pins s σ H _ _ v u Q I rx ry ⟨_, _, rfl, rfl, h⟩
  · rcases h with h | h
    · exact op_cat pins s σ H _ _ v u Q I rx ry h
    · exact op_catA pins s σ H _ _ v u Q I rx ry h
def uSub : R2 := fun x y H Q => match x, y with
  | .int i, .int j => Q (.int (i - j)) H
  | _, _ => False
theorem o_sub : OpR X (binaryOp .Sub) uSub := by
  intro pins s σ H x y v u Q I rx ry h
  cases x <;> cases y <;> first | exact h.elim | skip
  exact op_sub pins s σ H _ _ v u Q I rx ry ⟨_, _, rfl, rfl, h⟩
def uMul : R2 := fun x y H Q => match x, y with
  | .int i, .int j => CMul i j ∧ Q (.int (i * j)) H
  | .ref a, .int k => rRep (.ref a) (.int k) H Q
  | _, _ => False
theorem o_mul : OpR X (binaryOp .Mult) uMul := by
  intro pins s σ H x y v u Q I rx ry h
  cases x <;> cases y <;> first | exact h.elim | skip
  · exact op_mul pins s σ H _ _ v u Q I rx ry ⟨_, _, rfl, rfl, h.1, h.2⟩
  · exact op_rep pins s σ H _ _ v u Q I rx ry h
def uDiv : R2 := fun x y H Q => match x, y with
  | .int i, .int j => CDiv i j ∧ Q (.int (i / j)) H
  | _, _ => False
theorem o_div : OpR X (binaryOp .FloorDiv) uDiv := by
  intro pins s σ H x y v u Q I rx ry h
  cases x <;> cases y <;> first | exact h.elim | skip
  exact op_fdiv pins s σ H _ _ v u Q I rx ry ⟨_, _, rfl, rfl, h.1, h.2⟩
def uMod : R2 := fun x y H Q => match x, y with
  | .int i, .int j => 0 < j ∧ Q (.int (i % j)) H
  | _, _ => False
theorem o_mod : OpR X (binaryOp .Mod) uMod := by
  intro pins s σ H x y v u Q I rx ry h
  cases x <;> cases y <;> first | exact h.elim | skip
  exact op_mod pins s σ H _ _ v u Q I rx ry ⟨_, _, rfl, rfl, h.1, h.2⟩
def uPow : R2 := fun x y H Q => match x, y with
  | .int i, .int j => CPow i j ∧ Q (.int (i ^ j.toNat)) H
  | _, _ => False
theorem o_pow : OpR X (binaryOp .Pow) uPow := by
  intro pins s σ H x y v u Q I rx ry h
  cases x <;> cases y <;> first | exact h.elim | skip
  exact op_pow pins s σ H _ _ v u Q I rx ry ⟨_, _, rfl, rfl, h.1, h.2⟩
def uNeg : V → Hp → VK → Prop := fun x H Q => match x with
  | .int i => Q (.int (-i)) H
  | _ => False
theorem o_neg : UnR X (unaryOp .USub) uNeg := by
  intro pins s σ H x v Q I rx h
  cases x <;> first | exact h.elim | skip
  exact un_neg pins s σ H _ v Q I rx ⟨_, rfl, h⟩
def uCmp (p : Int → Int → Bool) : R2 := fun x y H Q => match x, y with
  | .int i, .int j => Q (.bl (p i j)) H
  | _, _ => False
abbrev uLt : R2 := uCmp fun i j => decide (i < j)
abbrev uLe : R2 := uCmp fun i j => decide (i ≤ j)
abbrev uGt : R2 := uCmp fun i j => decide (j < i)
abbrev uGe : R2 := uCmp fun i j => decide (j ≤ i)
theorem o_lt : OpR X (compareOp .Lt) uLt := by
  intro pins s σ H x y v u Q I rx ry h
  cases x <;> cases y <;> first | exact h.elim | skip
  exact op_lt pins s σ H _ _ v u Q I rx ry ⟨_, _, rfl, rfl, h⟩
theorem o_le : OpR X (compareOp .LtE) uLe := by
  intro pins s σ H x y v u Q I rx ry h
  cases x <;> cases y <;> first | exact h.elim | skip
  exact op_le pins s σ H _ _ v u Q I rx ry ⟨_, _, rfl, rfl, h⟩
theorem o_gt : OpR X (compareOp .Gt) uGt := by
  intro pins s σ H x y v u Q I rx ry h
  cases x <;> cases y <;> first | exact h.elim | skip
  exact op_gt pins s σ H _ _ v u Q I rx ry ⟨_, _, rfl, rfl, h⟩
theorem o_ge : OpR X (compareOp .GtE) uGe := by
  intro pins s σ H x y v u Q I rx ry h
  cases x <;> cases y <;> first | exact h.elim | skip
  exact op_ge pins s σ H _ _ v u Q I rx ry ⟨_, _, rfl, rfl, h⟩
/-- ==, != : plain values by themselves, else data at any depth -/
def uEq (K : PySem.W.Frag) : R2 := fun x y H Q => rEq x y H Q ∨ rEqD K x y H Q
def uNe (K : PySem.W.Frag) : R2 := fun x y H Q => rNe x y H Q ∨ rNeD K x y H Q
theorem o_eq {k : Nat} (hr : Room k X.A) : OpR X (compareOp .Eq) (uEq X.K) := op_eq.or (op_eqD hr.units)
theorem o_ne {k : Nat} (hr : Room k X.A) : OpR X (compareOp .NotEq) (uNe X.K) := op_ne.or (op_neD hr.units)
def uIn (K : PySem.W.Frag) : R2 := fun x y H Q => match y with
  | .str j => ∃ i, x = .str i ∧ Q (.bl (!(Builtin.Str.occurrences j i 0 j.length 1).isEmpty)) H
  | _ => rIn K false x y H Q ∨ rInD K x y H Q
def uNotIn (K : PySem.W.Frag) : R2 := fun x y H Q => match y with
  | .str j => ∃ i, x = .str i ∧ Q (.bl (!(!(Builtin.Str.occurrences j i 0 j.length 1).isEmpty))) H
  | _ => rIn K true x y H Q ∨ rNotInD K x y H Q
theorem Room.units65 {k : Nat} {A : Around} (r : Room k A) : A.units + 65 < cLine := by have := r.un; omega
theorem o_in {k : Nat} (hr : Room k X.A) : OpR X (compareOp .In) (uIn X.K) := by
  intro pins s σ H x y v u Q I rx ry h
  have go : rIn X.K false x y H Q ∨ rInD X.K x y H Q → wpAny (model X.prog X.w) X.A (compareOp .In v u) (EP X pins σ Q) X.xe s := fun h => by
    rcases h with h | h
    · exact op_in_seq pins s σ H _ _ v u Q I rx ry h
    · exact op_inD (Room.units65 hr) pins s σ H _ _ v u Q I rx ry h
  cases y with
  | str j =>
    obtain ⟨i, e, q⟩ := h
    exact op_in_str pins s σ H _ _ v u Q I rx ry ⟨_, _, e, rfl, q⟩
  | _ => exact go h
theorem o_notin {k : Nat} (hr : Room k X.A) : OpR X (compareOp .NotIn) (uNotIn X.K) := by
  intro pins s σ H x y v u Q I rx ry h
  have go : rIn X.K true x y H Q ∨ rNotInD X.K x y H Q → wpAny (model X.prog X.w) X.A (compareOp .NotIn v u) (EP X pins σ Q) X.xe s := fun h => by
    rcases h with h | h
    · exact op_notIn_seq pins s σ H _ _ v u Q I rx ry h
    · exact op_notInD (Room.units65 hr) pins s σ H _ _ v u Q I rx ry h
  cases y with
  | str j =>
    obtain ⟨i, e, q⟩ := h
    exact op_notin_str pins s σ H _ _ v u Q I rx ry ⟨_, _, e, rfl, q⟩
  | _ => exact go h
/-- len -/
def uLen (K : PySem.W.Frag) : List V → Hp → VK → Prop := fun xs H Q => ∃ x n, xs = [x] ∧ LenV K x H n ∧ Q (.int n) H
theorem c_len : CallR X (.builtin "len") (uLen X.K) := call_len
/-- slices -/
def uSl (K : PySem.W.Frag) : V → Option Int → Option Int → Hp → VK → Prop := fun x lo hi H Q => rSlL K x lo hi H Q ∨ rSlA K x lo hi H Q ∨ ∃ z, x = .str z ∧ z.length ≤ sizeLine ∧ Q (.str (cutS z lo hi)) H
theorem sl_any : SlR X (uSl X.K) := sl_list.or (sl_tupA.or sl_str)
/-- a list, a tuple that is walked -/
def uIter (K : PySem.W.Frag) (tl : TE) : TI := fun σ H R => tl σ H fun x H1 => ∃ a, x = .ref a ∧ (((∃ xs, SqL K H1 a xs) ∧ R (Itl K a) H1) ∨ ((∃ xs, SqT K H1 a xs) ∧ R (Itt K a) H1))
theorem pi_any {tg l : Expr} {tl : TE} (hl : PE X l tl) : PI X tg l (uIter X.K tl) := by
  refine ⟨fun pins s σ H R I h => ?_⟩
  refine thn (hl.run pins s σ H _ I h) fun v s1 ⟨x, H1, I1, r1, q1⟩ => ?_
  obtain ⟨a, e, q1⟩ := q1
  subst e
  cases r1
  rcases q1 with ⟨⟨xs, hq⟩, q⟩ | ⟨⟨xs, hq⟩, q⟩
  · obtain ⟨its, rv, p, hz⟩ := I1.list hq
    refine wpAny_pyIter_list p.isList ?_
    refine ⟨s1.heap.objs.size, [s1.heap.objs.size], _, _, H1, rfl, I1.kept (t' := s1.toks) fun b o e => Heap.get?_push_of_some _ e, turn_list a _, ⟨_, Heap.get?_push_size _ rfl, rfl, rfl⟩, fun b hb => ?_, q⟩
    have e : b = s1.heap.objs.size := by simpa using hb
    subst e
    exact I1.fpOk (Nat.le_refl _) (I1.hok.fresh (Nat.le_refl _))
  · obtain ⟨its, rv, p, hz⟩ := I1.tuple hq
    refine wpAny_pyIter_tuple (show s1.heap.IsTuple a its.toArray from p) ?_
    refine ⟨s1.heap.objs.size, [s1.heap.objs.size], _, _, H1, rfl, I1.kept (t' := s1.toks) fun b o e => Heap.get?_push_of_some _ e, turn_tuple a _, ⟨_, Heap.get?_push_size _ rfl, rfl, rfl⟩, fun b hb => ?_, q⟩
    have e : b = s1.heap.objs.size := by simpa using hb
    subst e
    exact I1.fpOk (Nat.le_refl _) (I1.hok.fresh (Nat.le_refl _))
/-- int(x), of a number or a truth -/
def uInt : List V → Hp → VK → Prop := fun xs H Q => match xs with
  | [.int i] => Q (.int i) H
  | [.bl k] => Q (.int (if k then 1 else 0)) H
  | _ => False
theorem c_int : CallR X (.type "int") uInt := by
  intro pins s σ H xs us Q I r h
  unfold uInt at h
  split at h
  · exact call_int1 pins s σ H _ us Q I r (.inl ⟨_, rfl, h⟩)
  · exact call_int1 pins s σ H _ us Q I r (.inr ⟨_, rfl, h⟩)
  · exact h.elim
end

/-! the same with the written part told -/
section
variable (K : PySem.W.Frag) {X : L2.Cx} (h : X.K = K)
include h
theorem k_add : OpR X (binaryOp .Add) (uAdd K) := by subst h; exact o_add
theorem k_eq {k : Nat} (hr : Room k X.A) : OpR X (compareOp .Eq) (uEq K) := by subst h; exact o_eq hr
theorem k_ne {k : Nat} (hr : Room k X.A) : OpR X (compareOp .NotEq) (uNe K) := by subst h; exact o_ne hr
theorem k_in {k : Nat} (hr : Room k X.A) : OpR X (compareOp .In) (uIn K) := by subst h; exact o_in hr
theorem k_notin {k : Nat} (hr : Room k X.A) : OpR X (compareOp .NotIn) (uNotIn K) := by subst h; exact o_notin hr
theorem k_ix : IxR X (rIx K) := by subst h; exact ix_seq
theorem k_len : CallR X (.builtin "len") (uLen K) := by subst h; exact c_len
theorem k_sl : SlR X (uSl K) := by subst h; exact sl_any
theorem k_isi : CallR X (.builtin "isinstance") (rIsi K) := by subst h; exact call_isi
theorem k_all (hc : X.calm = true) : CallR X (.builtin "all") (rAll K) := by subst h; exact cr_all hc
theorem k_any (hc : X.calm = true) : CallR X (.builtin "any") (rAny K) := by subst h; exact cr_any hc
theorem k_sum (hc : X.calm = true) : CallR X (.builtin "sum") (rSum K) := by subst h; exact cr_sum hc
theorem k_max (hc : X.calm = true) : CallR X (.builtin "max") (rMax K) := by subst h; exact cr_max hc
theorem k_min (hc : X.calm = true) : CallR X (.builtin "min") (rMin K) := by subst h; exact cr_min hc
theorem k_sortI : CallR X (.builtin "sorted") (rSortedI K) := by subst h; exact cr_sortedI
theorem k_sortS : CallR X (.builtin "sorted") (rSortedS K) := by subst h; exact cr_sortedS
theorem k_sortPO : CallR X (.builtin "sorted") (rSortedPO K) := by subst h; exact cr_sortedPO
/-- tuple(x), list(x) -/
def uTup (K : PySem.W.Frag) : List V → Hp → VK → Prop := fun xs H Q => ∃ p ys, xs = [.ref p] ∧ ((SqL K H p ys ∧ ∀ l, H l = none → Q (.ref l) (upd H l (.tup ys))) ∨ (SqT K H p ys ∧ Q (.ref p) H))
def uLst (K : PySem.W.Frag) : List V → Hp → VK → Prop := fun xs H Q => ∃ p ys, xs = [.ref p] ∧ (SqL K H p ys ∨ SqT K H p ys) ∧ ∀ l, H l = none → Q (.ref l) (upd H l (.lst ys))
theorem k_tuple : CallR X (.type "tuple") (uTup K) := by subst h; exact call_tuple_of
theorem k_list : CallR X (.type "list") (uLst K) := by subst h; exact call_list_of
theorem k_pi {tg l : Expr} {tl : TE} (hl : PE X l tl) : PI X tg l (uIter K tl) := by subst h; exact pi_any hl
theorem k_zip {e e2 : Expr} {ta : TA} {p pos tpos : Pos} {elts : List Expr} {kk : Nat} (hg : Gl X "zip") (hm : X.mg "zip" = none) (ha : PA X [e, e2] ta)
    (hs : starEach [e, e2] X.env = (false, eval e X.env) :: starEach [e2] X.env := by rfl) (hpl : (backTo pos (starEach [e2] X.env)).any (·.1) = false := by rfl) :
    PI X (.Tuple elts kk tpos) (.Call (.Name "zip" p) [e, e2] [] pos) (RZ.iZipA K ta) := by subst h; exact RZ.pi_zipA hg hm ha hs hpl
theorem k_fld {e : Expr} {f : Str} {ta : TE} {pos : Pos} (he : PE X e ta) (hb : attributeBase e f X.env (eval e X.env) = eval e X.env) : PE X (.Attribute e f pos) (tFld K ta f) := by subst h; exact pe_fld he hb
theorem k_bm0 {o : Expr} {to : TE} {name : Str} {apos cpos : Pos} {T id : String} {r : V → List V → Hp → VK → Prop} (pa : PlainAttrs T) (slot : Slot T name id) (hty : typeOf (.builtin id) = pure (.type "method_descriptor")) (hm : MtR X id r) (ho : PE X o to)
    (hbase : attributeBase o name X.env (eval o X.env) = eval o X.env := by rfl) (hline : (apos.endLine == cpos.line) = true := by rfl) : PE X (.Call (.Attribute o name apos) [] [] cpos) (tBM0 K T r to) := by subst h; exact pe_bm0 pa slot hty hm ho hbase hline
theorem k_bm {o e : Expr} {es : List Expr} {to : TE} {t : TA} {name : Str} {apos cpos : Pos} {T id : String} {r : V → List V → Hp → VK → Prop} (pa : PlainAttrs T) (slot : Slot T name id) (hty : typeOf (.builtin id) = pure (.type "method_descriptor")) (hm : MtR X id r) (ho : PE X o to) (ha : PA X (e :: es) t)
    (hbase : attributeBase o name X.env (eval o X.env) = eval o X.env := by rfl)
    (hfew : ((backTo cpos (starEach (e :: es) X.env)).all (fun x => !x.1) && (backToKw cpos (keywordEach [] X.env)).all (fun x => x.1.isSome)
      && decide ((e :: es).length + ([] : List Keyword).length + (if ([] : List Keyword).isEmpty then 0 else 1) < 30)) = true := by rfl)
    (hline : (apos.endLine == cpos.line) = true := by rfl) (hs : starEach (e :: es) X.env = (false, eval e X.env) :: starEach es X.env := by rfl) (hplain : (backTo cpos (starEach es X.env)).any (·.1) = false := by rfl) :
    PE X (.Call (.Attribute o name apos) (e :: es) [] cpos) (tBM K T r to t) := by subst h; exact pe_bm pa slot hty hm ho ha hbase hfew hline hs hplain
end
end Fl

set_option Elab.async false
set_option linter.all false
set_option maxRecDepth 100000
set_option maxHeartbeats 4000000
/-! steps through readings; heaps; data -/
namespace Fl
open PySem PySem.Spec PyProof.Rows L2

/-! ### steps: each reading is what it says -/
section
variable {σ : L2.St} {H : Hp} {D : Ends} {i : Nat} {v x y : V} {Q : VK} {te ta tb tl th : TE} {t u : TS} {c : TT} {g : TG} {K : PySem.W.Frag} {r : R2}
theorem r_seq (h : t { D with nx := u D } σ H) : tSeq t u D σ H := h
theorem r_set (h : te σ H fun x H1 => D.nx (σ.set i (some x)) H1) : tAsg te (gName i) D σ H := h
theorem r_asg (h : te σ H fun x H1 => g x σ H1 D.nx) : tAsg te g D σ H := h
theorem r_if (h : c σ H fun b H1 => if b = true then t D σ H1 else u D σ H1) : tIfS c t u D σ H := h
theorem r_ret (h : te σ H D.rt) : tRet te D σ H := h
theorem r_retN (h : D.rt .non H) : tRetN D σ H := h
theorem r_next (h : D.nx σ H) : tNext D σ H := h
theorem r_brk (h : D.bk σ H) : tBreak D σ H := h
theorem r_cont (h : D.ct σ H) : tCont D σ H := h
theorem r_drop (h : te σ H fun _ H1 => D.nx σ H1) : tDrop te D σ H := h
theorem r_var (e : σ[i]? = some (some v)) (h : Q v H) : tVar i σ H Q := ⟨v, e, h⟩
theorem r_c (h : Q v H) : tC v σ H Q := h
theorem r_op (h : ta σ H fun x H1 => tb σ H1 fun y H2 => r x y H2 Q) : tOp r ta tb σ H Q := h
theorem r_un {r : V → Hp → VK → Prop} (h : ta σ H fun x H1 => r x H1 Q) : tUn r ta σ H Q := h
theorem r_chain {r r' : R2} {tc : TE} (h : ta σ H fun x H1 => tb σ H1 fun y H2 => r x y H2 fun z H3 => ∃ k, z = .bl k ∧ if k = true then tc σ H3 fun w H4 => r' y w H4 Q else Q (.bl false) H3) : tChain r r' ta tb tc σ H Q := h
theorem r_test {Q : Bool → Hp → Prop} (h : te σ H fun x H' => ∃ k, x = .bl k ∧ Q k H') : tTest te σ H Q := h
theorem r_tB {Q : Bool → Hp → Prop} (h : te σ H fun x H1 => ∃ c, x = .bl c ∧ Q c H1) : tB te σ H Q := h
theorem r_and {t u : TT} {Q : Bool → Hp → Prop} (h : t σ H fun c H1 => if c = true then u σ H1 Q else Q false H1) : tAnd t u σ H Q := h
theorem r_or {t u : TT} {Q : Bool → Hp → Prop} (h : t σ H fun c H1 => if c = true then Q true H1 else u σ H1 Q) : tOr t u σ H Q := h
theorem r_not {t : TT} {Q : Bool → Hp → Prop} (h : t σ H fun c H1 => Q (!c) H1) : tNot t σ H Q := h
theorem r_andV (h : ta σ H fun x H1 => ∃ c, x = .bl c ∧ if c = true then tb σ H1 Q else Q (.bl false) H1) : tAndV ta tb σ H Q := h
theorem r_orV (h : ta σ H fun x H1 => ∃ c, x = .bl c ∧ if c = true then Q (.bl true) H1 else tb σ H1 Q) : tOrV ta tb σ H Q := h
theorem r_notV (h : ta σ H fun x H1 => ∃ c, x = .bl c ∧ Q (.bl (!c)) H1) : tNotV ta σ H Q := h
theorem r_ifE {t : TT} (h : t σ H fun c H1 => if c = true then ta σ H1 Q else tb σ H1 Q) : tIf t ta tb σ H Q := h
theorem r_nil {Q : List V → Hp → Prop} (h : Q [] H) : tNil σ H Q := h
theorem r_cons {tr : TA} {Q : List V → Hp → Prop} (h : te σ H fun x H1 => tr σ H1 fun xs H2 => Q (x :: xs) H2) : tCons te tr σ H Q := h
theorem r_cb {r : List V → Hp → VK → Prop} {a : TA} (h : a σ H fun vs H1 => r vs H1 Q) : tCB r a σ H Q := h
theorem r_own {sp : Sp} {E : XK} {a : TA} (h : a σ H fun vs H1 => sp vs H1 Q E) : tCallO sp E a σ H Q := h
theorem r_tup {a : TA} (h : a σ H fun xs H1 => xs.length ≤ sizeLine ∧ ∀ p, H1 p = none → Q (.ref p) (upd H1 p (.tup xs))) : tTup a σ H Q := h
theorem r_lst {a : TA} (h : a σ H fun xs H1 => xs.length ≤ sizeLine ∧ ∀ p, H1 p = none → Q (.ref p) (upd H1 p (.lst xs))) : tLst a σ H Q := h
theorem r_sl {r : V → Option Int → Option Int → Hp → VK → Prop} {a b : TO} (h : te σ H fun x H1 => a σ H1 fun l H2 => b σ H2 fun u H3 => r x l u H3 Q) : tSl r te a b σ H Q := h
theorem r_noPart {Q : Option Int → Hp → Prop} (h : Q none H) : tNoPart σ H Q := h
theorem r_part {Q : Option Int → Hp → Prop} (h : te σ H fun x H1 => ∃ i, x = .int i ∧ Q (some i) H1) : tPart te σ H Q := h
theorem r_bm {T : String} {r : V → List V → Hp → VK → Prop} {a : TA} (h : ta σ H fun x H1 => tyV K T x H1 ∧ a σ H1 fun xs H2 => r x xs H2 Q) : tBM K T r ta a σ H Q := h
theorem r_bm0 {T : String} {r : V → List V → Hp → VK → Prop} (h : ta σ H fun x H1 => tyV K T x H1 ∧ r x [] H1 Q) : tBM0 K T r ta σ H Q := h
-- the operators
theorem q_addI {i j : Int} (h : Q (.int (i + j)) H) : uAdd K (.int i) (.int j) H Q := h
theorem q_addS {i j : Str} (l : i.length + j.length ≤ sizeLine) (h : Q (.str (i ++ j)) H) : uAdd K (.str i) (.str j) H Q := ⟨l, h⟩
theorem q_addL {a b : Addr} {xs zs : List V} (ha : H a = some (.lst xs)) (hb : H b = some (.lst zs)) (l : xs.length + zs.length ≤ sizeLine) (h : ∀ p, H p = none → Q (.ref p) (upd H p (.lst (xs ++ zs)))) : uAdd K (.ref a) (.ref b) H Q :=
  .inl ⟨a, b, xs, zs, rfl, rfl, ha, hb, l, h⟩
theorem q_addT {a b : Addr} {xs zs : List V} (ha : H a = some (.tup xs)) (hb : H b = some (.tup zs)) (l : xs.length + zs.length ≤ sizeLine) (h0 : xs = [] → Q (.ref b) H) (h1 : xs ≠ [] → zs = [] → Q (.ref a) H)
    (h : xs ≠ [] → zs ≠ [] → ∀ p, H p = none → Q (.ref p) (upd H p (.tup (xs ++ zs)))) : uAdd K (.ref a) (.ref b) H Q :=
  .inr ⟨a, b, xs, zs, rfl, rfl, .of ha, .of hb, l, h0, h1, h⟩
theorem q_sub {i j : Int} (h : Q (.int (i - j)) H) : uSub (.int i) (.int j) H Q := h
theorem q_mul {i j : Int} (l : CMul i j) (h : Q (.int (i * j)) H) : uMul (.int i) (.int j) H Q := ⟨l, h⟩
theorem q_div {i j : Int} (l : CDiv i j) (h : Q (.int (i / j)) H) : uDiv (.int i) (.int j) H Q := ⟨l, h⟩
theorem q_mod {i j : Int} (l : 0 < j) (h : Q (.int (i % j)) H) : uMod (.int i) (.int j) H Q := ⟨l, h⟩
theorem q_pow {i j : Int} (l : CPow i j) (h : Q (.int (i ^ j.toNat)) H) : uPow (.int i) (.int j) H Q := ⟨l, h⟩
theorem q_neg {i : Int} (h : Q (.int (-i)) H) : uNeg (.int i) H Q := h
theorem q_cmp {p : Int → Int → Bool} {i j : Int} (h : Q (.bl (p i j)) H) : uCmp p (.int i) (.int j) H Q := h
theorem q_eq (l : scal x y = true) (h : Q (.bl (decide (x = y))) H) : uEq K x y H Q := .inl ⟨l, h⟩
theorem q_ne (l : scal x y = true) (h : Q (.bl (!decide (x = y))) H) : uNe K x y H Q := .inl ⟨l, h⟩
theorem q_ixL {a : Addr} {xs : List V} {i : Int} (ha : H a = some (.lst xs)) (e : atI xs i = some v) (h : Q v H) : rIx K (.ref a) (.int i) H Q := .inl ⟨a, xs, i, v, rfl, rfl, .of ha, e, h⟩
theorem q_ixT {a : Addr} {xs : List V} {i : Int} (ha : H a = some (.tup xs)) (e : atI xs i = some v) (h : Q v H) : rIx K (.ref a) (.int i) H Q := .inr (.inl ⟨a, xs, i, v, rfl, rfl, .of ha, e, h⟩)
theorem q_ixS {z : Str} {i : Int} {c : Nat} (l : z.length ≤ sizeLine) (e : atI z.cps.toList i = some c) (h : Q (.str ⟨#[c]⟩) H) : rIx K (.str z) (.int i) H Q := .inr (.inr ⟨z, i, c, rfl, rfl, l, e, h⟩)
theorem q_lenL {a : Addr} {xs : List V} (ha : H a = some (.lst xs)) (h : Q (.int xs.length) H) : uLen K [.ref a] H Q := ⟨_, _, rfl, .inl ⟨_, .of ha, rfl⟩, h⟩
theorem q_lenT {a : Addr} {xs : List V} (ha : H a = some (.tup xs)) (h : Q (.int xs.length) H) : uLen K [.ref a] H Q := ⟨_, _, rfl, .inr ⟨_, .of ha, rfl⟩, h⟩
theorem q_lenS {z : Str} (l : z.length ≤ sizeLine) (h : Q (.int z.length) H) : uLen K [.str z] H Q := ⟨_, _, rfl, ⟨l, rfl⟩, h⟩
theorem q_intI {i : Int} (h : Q (.int i) H) : uInt [.int i] H Q := h
theorem q_intB {k : Bool} (h : Q (.int (if k then 1 else 0)) H) : uInt [.bl k] H Q := h
theorem q_isi {T T' : String} {b : Bool} (t : TyX K H x (.type T)) (e : kitB T T' = some b) (h : Q (.bl b) H) : rIsi K [x, .ty T'] H Q := ⟨x, .ty T', .type T, .type T', b, rfl, .ty _, t, kit_ty e, h⟩
-- ifs whose answer is known
theorem if_t {b : Bool} {A B : Prop} (e : b = true) (h : A) : if b = true then A else B := by rw [if_pos e]; exact h
theorem if_f {b : Bool} {A B : Prop} (e : b = false) (h : B) : if b = true then A else B := by rw [e]; exact iteF h
theorem if_dt {p : Prop} [Decidable p] {A B : Prop} (e : p) (h : A) : if decide p = true then A else B := by rw [decide_eq_true e]; exact iteT h
theorem if_df {p : Prop} [Decidable p] {A B : Prop} (e : ¬ p) (h : B) : if decide p = true then A else B := by rw [decide_eq_false e]; exact iteF h
theorem if_nt {p : Prop} [Decidable p] {A B : Prop} (e : ¬ p) (h : A) : if (!decide p) = true then A else B := by rw [decide_eq_false e]; exact iteT h
theorem if_nf {p : Prop} [Decidable p] {A B : Prop} (e : p) (h : B) : if (!decide p) = true then A else B := by rw [decide_eq_true e]; exact iteF h
/-- both ways of a test -/
theorem if_d {p : Prop} [Decidable p] {A B : Prop} (h1 : p → A) (h2 : ¬ p → B) : if decide p = true then A else B := by
  by_cases e : p
  · exact if_dt e (h1 e)
  · exact if_df e (h2 e)
theorem if_n {p : Prop} [Decidable p] {A B : Prop} (h1 : ¬ p → A) (h2 : p → B) : if (!decide p) = true then A else B := by
  by_cases e : p
  · exact if_nf e (h2 e)
  · exact if_nt e (h1 e)
theorem if_b {b : Bool} {A B : Prop} (h1 : b = true → A) (h2 : b = false → B) : if b = true then A else B := by
  cases b with
  | true => exact iteT (h1 rfl)
  | false => exact iteF (h2 rfl)
end
/-- the slots at the entry, written out -/
theorem go_start {t : TS} {D : Ends} {σ σ0 : L2.St} {H : Hp} (e : σ = σ0) (h : t D σ0 H) : t D σ H := by rw [e]; exact h
theorem small_of {n : Nat} (h : n ≤ 100000) : n ≤ sizeLine := Nat.le_trans h (by decide)
theorem small_lt {n : Nat} (h : n < 100000) : n < sizeLine := Nat.lt_of_lt_of_le h (by decide)

/-! ### heaps that grow -/
theorem Same.new {H H1 : Hp} {p : Addr} {o : HO} (e : Same H H1) (h : H1 p = none) : Same H (upd H1 p o) := fun b u q => by
  have q' := e b u q
  rw [upd_ne (ne_of_none q' h)]
  exact q'
theorem Same.mut {H H1 : Hp} {p : Addr} {o : HO} (e : Same H H1) (h : H p = none) : Same H (upd H1 p o) := fun b u q => by
  rw [upd_ne (ne_of_none q h)]
  exact e b u q
/-- all but the list at s stands; there stands a list of one number -/
structure Gs (s : Addr) (H H' : Hp) : Prop where
  keep : ∀ b o, b ≠ s → H b = some o → H' b = some o
  st : ∃ y : Int, H' s = some (.lst [.int y])
theorem Gs.trans {s : Addr} {H H1 H2 : Hp} (a : Gs s H H1) (b : Gs s H1 H2) : Gs s H H2 := ⟨fun c o n h => b.keep c o n (a.keep c o n h), b.st⟩
theorem Gs.refl {s : Addr} {H : Hp} {y : Int} (h : H s = some (.lst [.int y])) : Gs s H H := ⟨fun _ _ _ q => q, y, h⟩
theorem Gs.put {s : Addr} {H : Hp} {y : Int} : Gs s H (upd H s (.lst [.int y])) := ⟨fun b o n q => by rw [upd_ne n]; exact q, y, upd_same⟩
theorem Gs.same {s : Addr} {H H1 : Hp} {y : Int} (h : H s = some (.lst [.int y])) (e : Same H H1) : Gs s H H1 := ⟨fun b o _ q => e b o q, y, e _ _ h⟩
theorem Gs.new {s : Addr} {H H1 : Hp} {p : Addr} {o : HO} (e : Gs s H H1) (h : H1 p = none) : Gs s H (upd H1 p o) := ⟨fun b u n q => by
  have q' := e.keep b u n q
  rw [upd_ne (ne_of_none q' h)]
  exact q', by
  obtain ⟨y, q⟩ := e.st
  exact ⟨y, by rw [upd_ne (ne_of_none q h)]; exact q⟩⟩
theorem Gs.then {s : Addr} {H H1 H2 : Hp} (a : Gs s H H1) (b : Same H1 H2) : Gs s H H2 := by
  obtain ⟨y, q⟩ := a.st
  exact a.trans (.same q b)
theorem Gs.mut {s : Addr} {H H1 : Hp} {p : Addr} {o : HO} (e : Gs s H H1) (h : H p = none) (n : s ≠ p) : Gs s H (upd H1 p o) := ⟨fun b u nb q => by
  rw [upd_ne (ne_of_none q h)]
  exact e.keep b u nb q, by
  obtain ⟨y, q⟩ := e.st
  exact ⟨y, by rw [upd_ne n]; exact q⟩⟩
theorem Gs.free {s : Addr} {H H' : Hp} {l : Addr} (e : Gs s H H') (n : l ≠ s) (h : H' l = none) : H l = none := by
  cases q : H l with
  | none => rfl
  | some o =>
    rw [e.keep l o n q] at h
    cases h

/-! ### data -/
mutual
/-- the value v bears the data d (tuples and lists that are tracked; no list of it is of one number) -/
def At (H : Hp) : PyData → V → Prop
  | .none, v => v = .non
  | .bool b, v => v = .bl b
  | .int i, v => v = .int i
  | .str s, v => v = .str s
  | .list ds, v => ∃ a vs, v = .ref a ∧ H a = some (.lst vs) ∧ (∀ x, vs ≠ [.int x]) ∧ AtAll H ds vs
  | .tuple ds, v => ∃ a vs, v = .ref a ∧ H a = some (.tup vs) ∧ AtAll H ds vs
  | .dict _, _ => False
def AtAll (H : Hp) : List PyData → List V → Prop
  | [], vs => vs = []
  | d :: ds, vs => ∃ v r, vs = v :: r ∧ At H d v ∧ AtAll H ds r
end
/-- what data leans on stays -/
def Le (H H' : Hp) : Prop := ∀ b o, H b = some o → (∀ x, o ≠ .lst [.int x]) → H' b = some o
theorem Le.refl (H : Hp) : Le H H := fun _ _ q _ => q
theorem Le.trans {H H1 H2 : Hp} (a : Le H H1) (b : Le H1 H2) : Le H H2 := fun c o h n => b c o (a c o h n) n
theorem Same.le {H H' : Hp} (e : Same H H') : Le H H' := fun b o q _ => e b o q
theorem Gs.le {s : Addr} {H H' : Hp} {x : Int} (h : H s = some (.lst [.int x])) (e : Gs s H H') : Le H H' := fun b o q n => e.keep b o (fun z => by
  subst z
  rw [h] at q
  exact n x (Option.some.inj q).symm) q
theorem Le.new {H H1 : Hp} {p : Addr} {o : HO} (e : Le H H1) (h : H1 p = none) : Le H (upd H1 p o) := fun b u q n => by
  have q' := e b u q n
  rw [upd_ne (ne_of_none q' h)]
  exact q'
theorem Le.mut {H H1 : Hp} {p : Addr} {o : HO} (e : Le H H1) (h : H p = none) : Le H (upd H1 p o) := fun b u q n => by
  rw [upd_ne (ne_of_none q h)]
  exact e b u q n
theorem Le.put {H H1 : Hp} {p : Addr} {o : HO} {x : Int} (e : Le H H1) (h : H1 p = some (.lst [.int x])) : Le H (upd H1 p o) := fun b u q n => by
  have q' := e b u q n
  have ne : b ≠ p := fun z => by
    subst z
    rw [h] at q'
    exact n x (Option.some.inj q').symm
  rw [upd_ne ne]
  exact q'
mutual
theorem At.le {H H' : Hp} (e : Le H H') : ∀ {d : PyData} {v : V}, At H d v → At H' d v
  | .none, _, h => h
  | .bool _, _, h => h
  | .int _, _, h => h
  | .str _, _, h => h
  | .list _, _, ⟨a, vs, q, h, n, r⟩ => ⟨a, vs, q, e _ _ h (fun x z => n x (by injection z)), n, AtAll.le e r⟩
  | .tuple _, _, ⟨a, vs, q, h, r⟩ => ⟨a, vs, q, e _ _ h (fun x z => by cases z), AtAll.le e r⟩
  | .dict _, _, h => h
theorem AtAll.le {H H' : Hp} (e : Le H H') : ∀ {ds : List PyData} {vs : List V}, AtAll H ds vs → AtAll H' ds vs
  | [], _, h => h
  | _ :: _, _, ⟨v, r, q, h, t⟩ => ⟨v, r, q, At.le e h, AtAll.le e t⟩
end
mutual
theorem At.dp {K : PySem.W.Frag} {H : Hp} : ∀ {d : PyData} {v : V}, At H d v → Dp K H v d
  | .none, _, h => by cases (show _ = _ from h); exact .non
  | .bool _, _, h => by cases (show _ = _ from h); exact .bl _
  | .int _, _, h => by cases (show _ = _ from h); exact .int _
  | .str _, _, h => by cases (show _ = _ from h); exact .str _
  | .list _, _, ⟨a, vs, q, h, n, r⟩ => by subst q; exact .lst (.of h) (AtAll.dp r)
  | .tuple _, _, ⟨a, vs, q, h, r⟩ => by subst q; exact .tup (.of h) (AtAll.dp r)
  | .dict _, _, h => h.elim
theorem AtAll.dp {K : PySem.W.Frag} {H : Hp} : ∀ {ds : List PyData} {vs : List V}, AtAll H ds vs → DpAll K H vs ds
  | [], _, h => by cases (show _ = _ from h); exact .nil
  | _ :: _, _, ⟨v, r, q, h, t⟩ => by subst q; exact .cons (At.dp h) (AtAll.dp t)
end
theorem AtAll.length {H : Hp} : ∀ {ds : List PyData} {vs : List V}, AtAll H ds vs → vs.length = ds.length
  | [], _, h => by rw [show _ = _ from h]; rfl
  | _ :: _, _, ⟨v, r, q, _, t⟩ => by rw [q, List.length_cons, List.length_cons, AtAll.length t]
theorem AtAll.get {H : Hp} : ∀ {ds : List PyData} {vs : List V} {i : Nat} {d : PyData}, AtAll H ds vs → ds[i]? = some d → ∃ v, vs[i]? = some v ∧ At H d v
  | [], _, _, _, _, e => by simp at e
  | _ :: _, _, 0, _, ⟨v, r, q, h, t⟩, e => by
    have e := Option.some.inj e
    subst e q
    exact ⟨v, rfl, h⟩
  | _ :: _, _, i + 1, _, ⟨v, r, q, h, t⟩, e => by
    subst q
    obtain ⟨w, h1, h2⟩ := AtAll.get (i := i) t (by simpa using e)
    exact ⟨w, by simpa using h1, h2⟩
theorem AtAll.ix {H : Hp} : ∀ {ds : List PyData} {vs : List V} {i : Nat} {v : V}, AtAll H ds vs → vs[i]? = some v → ∃ d, ds[i]? = some d ∧ At H d v
  | [], _, _, _, h, e => by rw [show _ = _ from h] at e; simp at e
  | d :: _, _, 0, _, ⟨v, r, q, h, t⟩, e => by
    subst q
    have e := Option.some.inj e
    subst e
    exact ⟨d, rfl, h⟩
  | _ :: _, _, i + 1, _, ⟨v, r, q, h, t⟩, e => by
    subst q
    obtain ⟨w, h1, h2⟩ := AtAll.ix (i := i) t (by simpa using e)
    exact ⟨w, by simpa using h1, h2⟩
theorem AtAll.append {H : Hp} : ∀ {ds es : List PyData} {vs ws : List V}, AtAll H ds vs → AtAll H es ws → AtAll H (ds ++ es) (vs ++ ws)
  | [], _, _, _, h, k => by rw [show _ = _ from h]; exact k
  | _ :: _, _, _, _, ⟨v, r, q, h, t⟩, k => by subst q; exact ⟨v, _, rfl, h, AtAll.append t k⟩
theorem AtAll.one {H : Hp} {d : PyData} {v : V} (h : At H d v) : AtAll H [d] [v] := ⟨v, [], rfl, h, rfl⟩
theorem AtAll.take {H : Hp} : ∀ {ds : List PyData} {vs : List V} (n : Nat), AtAll H ds vs → AtAll H (ds.take n) (vs.take n)
  | [], _, n, h => by rw [show _ = _ from h]; simp; exact rfl
  | _ :: _, _, 0, _ => rfl
  | _ :: _, _, n + 1, ⟨v, r, q, h, t⟩ => by subst q; exact ⟨v, _, rfl, h, AtAll.take n t⟩
theorem AtAll.drop {H : Hp} : ∀ {ds : List PyData} {vs : List V} (n : Nat), AtAll H ds vs → AtAll H (ds.drop n) (vs.drop n)
  | _, _, 0, h => h
  | [], _, n + 1, h => by rw [show _ = _ from h]; simp; exact rfl
  | _ :: _, _, n + 1, ⟨v, r, q, h, t⟩ => by subst q; exact AtAll.drop n t

theorem AtAll.ex1 {H : Hp} {ds : List PyData} {vs : List V} (h : AtAll H ds vs) (l : vs.length = 1) : ∃ d0 v0, ds = [d0] ∧ vs = [v0] ∧ At H d0 v0 := by
  match ds, h with
  | [], h => rw [show _ = _ from h] at l; cases l
  | [d0], ⟨v0, r, q, h0, h1⟩ => rw [show _ = _ from h1] at q; exact ⟨d0, v0, rfl, q, h0⟩
  | _ :: _ :: _, ⟨v0, r, q, h0, ⟨v1, r1, q1, _, _⟩⟩ => subst q1 q; simp at l
theorem AtAll.ex2 {H : Hp} {ds : List PyData} {vs : List V} (h : AtAll H ds vs) (l : vs.length = 2) : ∃ d0 d1 v0 v1, ds = [d0, d1] ∧ vs = [v0, v1] ∧ At H d0 v0 ∧ At H d1 v1 := by
  match ds, h with
  | [], h => rw [show _ = _ from h] at l; cases l
  | d0 :: r, ⟨v0, r', q, h0, h1⟩ =>
    subst q
    obtain ⟨d1, v1, e1, e2, h2⟩ := AtAll.ex1 h1 (by simpa using l)
    subst e1 e2
    exact ⟨d0, d1, v0, v1, rfl, rfl, h0, h2⟩
theorem AtAll.ex3 {H : Hp} {ds : List PyData} {vs : List V} (h : AtAll H ds vs) (l : vs.length = 3) : ∃ d0 d1 d2 v0 v1 v2, ds = [d0, d1, d2] ∧ vs = [v0, v1, v2] ∧ At H d0 v0 ∧ At H d1 v1 ∧ At H d2 v2 := by
  match ds, h with
  | [], h => rw [show _ = _ from h] at l; cases l
  | d0 :: r, ⟨v0, r', q, h0, h1⟩ =>
    subst q
    obtain ⟨d1, d2, v1, v2, e1, e2, h2, h3⟩ := AtAll.ex2 h1 (by simpa using l)
    subst e1 e2
    exact ⟨d0, d1, d2, v0, v1, v2, rfl, rfl, h0, h2, h3⟩
theorem AtAll.ex4 {H : Hp} {ds : List PyData} {vs : List V} (h : AtAll H ds vs) (l : vs.length = 4) : ∃ d0 d1 d2 d3 v0 v1 v2 v3, ds = [d0, d1, d2, d3] ∧ vs = [v0, v1, v2, v3] ∧ At H d0 v0 ∧ At H d1 v1 ∧ At H d2 v2 ∧ At H d3 v3 := by
  match ds, h with
  | [], h => rw [show _ = _ from h] at l; cases l
  | d0 :: r, ⟨v0, r', q, h0, h1⟩ =>
    subst q
    obtain ⟨d1, d2, d3, v1, v2, v3, e1, e2, h2, h3, h4⟩ := AtAll.ex3 h1 (by simpa using l)
    subst e1 e2
    exact ⟨d0, d1, d2, d3, v0, v1, v2, v3, rfl, rfl, h0, h2, h3, h4⟩
theorem decInt {i j : Int} : decide (V.int i = V.int j) = decide (i = j) := by
  by_cases e : i = j
  · subst e; simp
  · rw [decide_eq_false e, decide_eq_false (fun z => e (V.int.inj z))]
/-- plain values by themselves -/
theorem q_eqI {K : PySem.W.Frag} {H : Hp} {i j : Int} {Q : VK} (h : Q (.bl (decide (i = j))) H) : uEq K (.int i) (.int j) H Q := q_eq rfl (by rw [decInt]; exact h)
theorem q_neI {K : PySem.W.Frag} {H : Hp} {i j : Int} {Q : VK} (h : Q (.bl (!decide (i = j))) H) : uNe K (.int i) (.int j) H Q := q_ne rfl (by rw [decInt]; exact h)

theorem at1 {H : Hp} {a : Addr} {d0 : PyData} {v0 : V} (h : H a = some (.tup [v0])) (h0 : At H d0 v0) : At H (.tuple [d0]) (.ref a) := ⟨a, _, rfl, h, _, _, rfl, h0, rfl⟩
theorem at2 {H : Hp} {a : Addr} {d0 d1 : PyData} {v0 v1 : V} (h : H a = some (.tup [v0, v1])) (h0 : At H d0 v0) (h1 : At H d1 v1) : At H (.tuple [d0, d1]) (.ref a) := ⟨a, _, rfl, h, _, _, rfl, h0, _, _, rfl, h1, rfl⟩
theorem at3 {H : Hp} {a : Addr} {d0 d1 d2 : PyData} {v0 v1 v2 : V} (h : H a = some (.tup [v0, v1, v2])) (h0 : At H d0 v0) (h1 : At H d1 v1) (h2 : At H d2 v2) : At H (.tuple [d0, d1, d2]) (.ref a) := ⟨a, _, rfl, h, _, _, rfl, h0, _, _, rfl, h1, _, _, rfl, h2, rfl⟩
theorem at4 {H : Hp} {a : Addr} {d0 d1 d2 d3 : PyData} {v0 v1 v2 v3 : V} (h : H a = some (.tup [v0, v1, v2, v3])) (h0 : At H d0 v0) (h1 : At H d1 v1) (h2 : At H d2 v2) (h3 : At H d3 v3) : At H (.tuple [d0, d1, d2, d3]) (.ref a) := ⟨a, _, rfl, h, _, _, rfl, h0, _, _, rfl, h1, _, _, rfl, h2, _, _, rfl, h3, rfl⟩
/-! data of tuples alone -/
mutual
def tupOnly : PyData → Bool
  | .list _ => false
  | .tuple ds => tupsOnly ds
  | _ => true
def tupsOnly : List PyData → Bool
  | [] => true
  | d :: ds => tupOnly d && tupsOnly ds
end
def LeT (H H' : Hp) : Prop := ∀ b xs, H b = some (.tup xs) → H' b = some (.tup xs)
theorem LeT.refl (H : Hp) : LeT H H := fun _ _ q => q
theorem LeT.trans {H H1 H2 : Hp} (a : LeT H H1) (b : LeT H1 H2) : LeT H H2 := fun c o h => b c o (a c o h)
theorem Le.let {H H' : Hp} (e : Le H H') : LeT H H' := fun b xs q => e b _ q (fun x z => by cases z)
mutual
theorem At.leT {H H' : Hp} (e : LeT H H') : ∀ {d : PyData} {v : V}, tupOnly d = true → At H d v → At H' d v
  | .none, _, _, h => h
  | .bool _, _, _, h => h
  | .int _, _, _, h => h
  | .str _, _, _, h => h
  | .list _, _, t, _ => by simp [tupOnly] at t
  | .tuple ds, _, t, ⟨a, vs, q, h, r⟩ => ⟨a, vs, q, e _ _ h, AtAll.leT e (by simpa [tupOnly] using t) r⟩
  | .dict _, _, _, h => h
theorem AtAll.leT {H H' : Hp} (e : LeT H H') : ∀ {ds : List PyData} {vs : List V}, tupsOnly ds = true → AtAll H ds vs → AtAll H' ds vs
  | [], _, _, h => h
  | d :: ds, _, t, ⟨v, r, q, h, k⟩ => by
    have t' : tupOnly d = true ∧ tupsOnly ds = true := by simpa [tupsOnly] using t
    exact ⟨v, r, q, At.leT e t'.1 h, AtAll.leT e t'.2 k⟩
end
theorem tupsOnly_all : ∀ {ds : List PyData}, (∀ d ∈ ds, tupOnly d = true) → tupsOnly ds = true
  | [], _ => rfl
  | d :: ds, h => by
    show (tupOnly d && tupsOnly ds) = true
    rw [h d (by simp), tupsOnly_all fun x hx => h x (by simp [hx])]
    rfl
theorem LeT.new1 {H H1 : Hp} {p : Addr} {o : HO} (h : H1 p = none) (e : LeT H H1) : LeT H (upd H1 p o) := fun b xs q => by
  have q' := e b xs q
  rw [upd_ne (ne_of_none q' h)]
  exact q'
theorem LeT.same1 {H H1 H2 : Hp} (b : Same H1 H2) (a : LeT H H1) : LeT H H2 := a.trans (Same.le b).let
theorem LeT.gs1 {s : Addr} {x : Int} {H H1 H2 : Hp} (b : Gs s H1 H2) (h : H1 s = some (.lst [.int x])) (a : LeT H H1) : LeT H H2 := a.trans (b.le h).let
theorem LeT.put1 {H H1 : Hp} {p : Addr} {o : HO} {xs : List V} (h : H1 p = some (.lst xs)) (e : LeT H H1) : LeT H (upd H1 p o) := fun b ys q => by
  have q' := e b ys q
  rw [upd_ne (ne_of q' h (fun z => by cases z))]
  exact q'
/-! the same with what is sought first ahead -/
theorem hp_ne {H : Hp} {a b : Addr} {o u : HO} (n : b ≠ a) (h : H b = some u) : upd H a o b = some u := (upd_ne n).trans h
theorem hp_new {H : Hp} {a b : Addr} {o u : HO} (n : H a = none) (h : H b = some u) : upd H a o b = some u := (upd_ne (ne_of_none h n)).trans h
theorem hp_put {H : Hp} {a b : Addr} {o u : HO} (_ : H a = none ∨ True) (n : b ≠ a) (h : H b = some u) : upd H a o b = some u := (upd_ne n).trans h
theorem hp_same {H H' : Hp} {b : Addr} {u : HO} (e : Same H H') (h : H b = some u) : H' b = some u := e _ _ h
theorem hp_gs {s : Addr} {H H' : Hp} {b : Addr} {u : HO} (e : Gs s H H') (n : b ≠ s) (h : H b = some u) : H' b = some u := e.keep _ _ n h
theorem at_int {H : Hp} {i : Int} : At H (.int i) (.int i) := rfl
theorem at_bl {H : Hp} {i : Bool} : At H (.bool i) (.bl i) := rfl
theorem at_str {H : Hp} {i : Str} : At H (.str i) (.str i) := rfl
theorem at_non {H : Hp} : At H .none .non := rfl
theorem ne1 {H : Hp} {a b : Addr} {o : HO} (h' : H b = none) (h : H a = some o) : a ≠ b := ne_of_none h h'
theorem ne2 {H : Hp} {a b : Addr} {o : HO} (h' : H b = none) (h : H a = some o) : b ≠ a := (ne_of_none h h').symm
theorem At.le1 {H H' : Hp} {d : PyData} {v : V} (h : At H d v) (e : Le H H') : At H' d v := h.le e
theorem AtAll.le1 {H H' : Hp} {d : List PyData} {v : List V} (h : AtAll H d v) (e : Le H H') : AtAll H' d v := h.le e
theorem Same.free1 {H H' : Hp} {l : Addr} (h : H' l = none) (e : Same H H') : H l = none := L2.Same.free e h
theorem Same.new1 {H H1 : Hp} {p : Addr} {o : HO} (h : H1 p = none) (e : Same H H1) : Same H (upd H1 p o) := Same.new e h
theorem Same.trans1 {H H1 H2 : Hp} (b : Same H1 H2) (a : Same H H1) : Same H H2 := L2.Same.trans a b
theorem Gs.new1 {s : Addr} {H H1 : Hp} {p : Addr} {o : HO} (h : H1 p = none) (e : Gs s H H1) : Gs s H (upd H1 p o) := e.new h
theorem Gs.free1 {s : Addr} {H H' : Hp} {l : Addr} (h : H' l = none) (e : Gs s H H') (n : l ≠ s) : H l = none := e.free n h
theorem Gs.mut1 {s : Addr} {H H1 : Hp} {p : Addr} {o : HO} (h : H p = none) (n : s ≠ p) (e : Gs s H H1) : Gs s H (upd H1 p o) := e.mut h n
theorem Gs.trans1 {s : Addr} {H H1 H2 : Hp} (b : Gs s H1 H2) (a : Gs s H H1) : Gs s H H2 := a.trans b
theorem Gs.then1 {s : Addr} {H H1 H2 : Hp} (b : Same H1 H2) (a : Gs s H H1) : Gs s H H2 := a.then b
theorem Gs.put1 {s : Addr} {H H1 : Hp} {y : Int} (a : Gs s H H1) : Gs s H (upd H1 s (.lst [.int y])) := a.trans .put
theorem Le.new1 {H H1 : Hp} {p : Addr} {o : HO} (h : H1 p = none) (e : Le H H1) : Le H (upd H1 p o) := e.new h
theorem Le.same1 {H H1 H2 : Hp} (b : Same H1 H2) (a : Le H H1) : Le H H2 := a.trans (Same.le b)
theorem Le.gs1 {s : Addr} {x : Int} {H H1 H2 : Hp} (b : Gs s H1 H2) (h : H1 s = some (.lst [.int x])) (a : Le H H1) : Le H H2 := a.trans (b.le h)
theorem Le.put1 {H H1 : Hp} {p : Addr} {o : HO} {x : Int} (h : H1 p = some (.lst [.int x])) (e : Le H H1) : Le H (upd H1 p o) := e.put h

/-- the type of data -/
def tyOf : PyData → String
  | .none => "NoneType"
  | .bool _ => "bool"
  | .int _ => "int"
  | .str _ => "str"
  | .list _ => "list"
  | .tuple _ => "tuple"
  | .dict _ => "dict"
theorem At.ty {K : PySem.W.Frag} {H : Hp} {d : PyData} {v : V} (h : At H d v) : TyX K H v (.type (tyOf d)) := by
  cases d with
  | none => cases (show _ = _ from h); exact .base .non
  | bool b => cases (show _ = _ from h); exact .base (.bl _)
  | int i => cases (show _ = _ from h); exact .base (.int _)
  | str s => cases (show _ = _ from h); exact .base (.str _)
  | list ds => obtain ⟨a, vs, q, h, n, r⟩ := h; subst q; exact .base (.lst h)
  | tuple ds => obtain ⟨a, vs, q, h, r⟩ := h; subst q; exact .base (.tup h)
  | dict _ => exact h.elim

/-! ### isinstance of data -/
def isIntD : PyData → Bool
  | .int _ => true
  | .bool _ => true
  | _ => false
def isBoolD : PyData → Bool
  | .bool _ => true
  | _ => false
def isTupD : PyData → Bool
  | .tuple _ => true
  | _ => false
def isStrD : PyData → Bool
  | .str _ => true
  | _ => false
def isLstD : PyData → Bool
  | .list _ => true
  | _ => false
theorem kb_int : ∀ d : PyData, (∀ k, d ≠ .dict k) → kitB (tyOf d) "int" = some (isIntD d)
  | .none, _ => (by decide +kernel : kitB "NoneType" "int" = some false)
  | .bool _, _ => (by decide +kernel : kitB "bool" "int" = some true)
  | .int _, _ => (by decide +kernel : kitB "int" "int" = some true)
  | .str _, _ => (by decide +kernel : kitB "str" "int" = some false)
  | .list _, _ => (by decide +kernel : kitB "list" "int" = some false)
  | .tuple _, _ => (by decide +kernel : kitB "tuple" "int" = some false)
  | .dict k, h => absurd rfl (h k)
theorem kb_bool : ∀ d : PyData, (∀ k, d ≠ .dict k) → kitB (tyOf d) "bool" = some (isBoolD d)
  | .none, _ => (by decide +kernel : kitB "NoneType" "bool" = some false)
  | .bool _, _ => (by decide +kernel : kitB "bool" "bool" = some true)
  | .int _, _ => (by decide +kernel : kitB "int" "bool" = some false)
  | .str _, _ => (by decide +kernel : kitB "str" "bool" = some false)
  | .list _, _ => (by decide +kernel : kitB "list" "bool" = some false)
  | .tuple _, _ => (by decide +kernel : kitB "tuple" "bool" = some false)
  | .dict k, h => absurd rfl (h k)
theorem kb_tuple : ∀ d : PyData, (∀ k, d ≠ .dict k) → kitB (tyOf d) "tuple" = some (isTupD d)
  | .none, _ => (by decide +kernel : kitB "NoneType" "tuple" = some false)
  | .bool _, _ => (by decide +kernel : kitB "bool" "tuple" = some false)
  | .int _, _ => (by decide +kernel : kitB "int" "tuple" = some false)
  | .str _, _ => (by decide +kernel : kitB "str" "tuple" = some false)
  | .list _, _ => (by decide +kernel : kitB "list" "tuple" = some false)
  | .tuple _, _ => (by decide +kernel : kitB "tuple" "tuple" = some true)
  | .dict k, h => absurd rfl (h k)
theorem kb_str : ∀ d : PyData, (∀ k, d ≠ .dict k) → kitB (tyOf d) "str" = some (isStrD d)
  | .none, _ => (by decide +kernel : kitB "NoneType" "str" = some false)
  | .bool _, _ => (by decide +kernel : kitB "bool" "str" = some false)
  | .int _, _ => (by decide +kernel : kitB "int" "str" = some false)
  | .str _, _ => (by decide +kernel : kitB "str" "str" = some true)
  | .list _, _ => (by decide +kernel : kitB "list" "str" = some false)
  | .tuple _, _ => (by decide +kernel : kitB "tuple" "str" = some false)
  | .dict k, h => absurd rfl (h k)
theorem kb_list : ∀ d : PyData, (∀ k, d ≠ .dict k) → kitB (tyOf d) "list" = some (isLstD d)
  | .none, _ => (by decide +kernel : kitB "NoneType" "list" = some false)
  | .bool _, _ => (by decide +kernel : kitB "bool" "list" = some false)
  | .int _, _ => (by decide +kernel : kitB "int" "list" = some false)
  | .str _, _ => (by decide +kernel : kitB "str" "list" = some false)
  | .list _, _ => (by decide +kernel : kitB "list" "list" = some true)
  | .tuple _, _ => (by decide +kernel : kitB "tuple" "list" = some false)
  | .dict k, h => absurd rfl (h k)
/-! ### steps that are found by their head -/
class Step (g : Prop) (n : outParam Prop) : Prop where
  h : n → g
section
variable {σ : L2.St} {H : Hp} {nx bk ct : L2.St → Hp → Prop} {rt : VK} {i : Nat} {v x y : V} {Q : VK} {te ta tb tl th : TE} {t u : TS} {c : TT} {g : TG} {K : PySem.W.Frag} {r : R2}
instance : Step (tSeq t u ⟨nx, rt, bk, ct⟩ σ H) (t ⟨u ⟨nx, rt, bk, ct⟩, rt, bk, ct⟩ σ H) := ⟨fun h => h⟩
instance : Step (tAsg te (gName i) ⟨nx, rt, bk, ct⟩ σ H) (te σ H fun x H1 => nx (σ.set i (some x)) H1) := ⟨fun h => h⟩
instance (priority := low) : Step (tAsg te g ⟨nx, rt, bk, ct⟩ σ H) (te σ H fun x H1 => g x σ H1 nx) := ⟨fun h => h⟩
instance {P : L2.St → Hp → Prop} : Step (gName i v σ H P) (P (σ.set i (some v)) H) := ⟨fun h => h⟩
instance {P : L2.St → Hp → Prop} {to ti : TE} {s : TSet} : Step (gSub to ti s v σ H P) (to σ H fun o H1 => ti σ H1 fun i H2 => s o i v H2 fun H3 => P σ H3) := ⟨fun h => h⟩
instance : Step (tIfS c t u ⟨nx, rt, bk, ct⟩ σ H) (c σ H fun b H1 => if b = true then t ⟨nx, rt, bk, ct⟩ σ H1 else u ⟨nx, rt, bk, ct⟩ σ H1) := ⟨fun h => h⟩
instance : Step (tRet te ⟨nx, rt, bk, ct⟩ σ H) (te σ H rt) := ⟨fun h => h⟩
instance : Step (tRetN ⟨nx, rt, bk, ct⟩ σ H) (rt .non H) := ⟨fun h => h⟩
instance : Step (tNext ⟨nx, rt, bk, ct⟩ σ H) (nx σ H) := ⟨fun h => h⟩
instance : Step (tBreak ⟨nx, rt, bk, ct⟩ σ H) (bk σ H) := ⟨fun h => h⟩
instance : Step (tCont ⟨nx, rt, bk, ct⟩ σ H) (ct σ H) := ⟨fun h => h⟩
instance : Step (tDrop te ⟨nx, rt, bk, ct⟩ σ H) (te σ H fun _ H1 => nx σ H1) := ⟨fun h => h⟩
instance {i j : Nat} {ta : TA} : Step (tPar i j ta ⟨nx, rt, bk, ct⟩ σ H) (ta σ H fun vs H1 => ∃ v w, vs = [v, w] ∧ nx ((σ.set i (some v)).set j (some w)) H1) := ⟨fun h => h⟩
instance : Step (tC v σ H Q) (Q v H) := ⟨fun h => h⟩
instance : Step (tOp r ta tb σ H Q) (ta σ H fun x H1 => tb σ H1 fun y H2 => r x y H2 Q) := ⟨fun h => h⟩
instance {r : V → Hp → VK → Prop} : Step (tUn r ta σ H Q) (ta σ H fun x H1 => r x H1 Q) := ⟨fun h => h⟩
instance {r r' : R2} {tc : TE} : Step (tChain r r' ta tb tc σ H Q) (ta σ H fun x H1 => tb σ H1 fun y H2 => r x y H2 fun z H3 => ∃ k, z = .bl k ∧ if k = true then tc σ H3 fun w H4 => r' y w H4 Q else Q (.bl false) H3) := ⟨fun h => h⟩
instance {Q : Bool → Hp → Prop} : Step (tTest te σ H Q) (te σ H fun x H' => ∃ k, x = .bl k ∧ Q k H') := ⟨fun h => h⟩
instance {Q : Bool → Hp → Prop} : Step (tB te σ H Q) (te σ H fun x H1 => ∃ c, x = .bl c ∧ Q c H1) := ⟨fun h => h⟩
instance {t u : TT} {Q : Bool → Hp → Prop} : Step (tAnd t u σ H Q) (t σ H fun c H1 => if c = true then u σ H1 Q else Q false H1) := ⟨fun h => h⟩
instance {t u : TT} {Q : Bool → Hp → Prop} : Step (tOr t u σ H Q) (t σ H fun c H1 => if c = true then Q true H1 else u σ H1 Q) := ⟨fun h => h⟩
instance {t : TT} {Q : Bool → Hp → Prop} : Step (tNot t σ H Q) (t σ H fun c H1 => Q (!c) H1) := ⟨fun h => h⟩
instance {Q : Bool → Hp → Prop} : Step (tYes σ H Q) (Q true H) := ⟨fun h => h⟩
instance : Step (tAndV ta tb σ H Q) (ta σ H fun x H1 => ∃ c, x = .bl c ∧ if c = true then tb σ H1 Q else Q (.bl false) H1) := ⟨fun h => h⟩
instance : Step (tOrV ta tb σ H Q) (ta σ H fun x H1 => ∃ c, x = .bl c ∧ if c = true then Q (.bl true) H1 else tb σ H1 Q) := ⟨fun h => h⟩
instance : Step (tNotV ta σ H Q) (ta σ H fun x H1 => ∃ c, x = .bl c ∧ Q (.bl (!c)) H1) := ⟨fun h => h⟩
instance {t : TT} : Step (tIf t ta tb σ H Q) (t σ H fun c H1 => if c = true then ta σ H1 Q else tb σ H1 Q) := ⟨fun h => h⟩
instance {Q : List V → Hp → Prop} : Step (tNil σ H Q) (Q [] H) := ⟨fun h => h⟩
instance {tr : TA} {Q : List V → Hp → Prop} : Step (tCons te tr σ H Q) (te σ H fun x H1 => tr σ H1 fun xs H2 => Q (x :: xs) H2) := ⟨fun h => h⟩
instance {r : List V → Hp → VK → Prop} {a : TA} : Step (tCB r a σ H Q) (a σ H fun vs H1 => r vs H1 Q) := ⟨fun h => h⟩
instance {sp : Sp} {E : XK} {a : TA} : Step (tCallO sp E a σ H Q) (a σ H fun vs H1 => sp vs H1 Q E) := ⟨fun h => h⟩
instance {a : TA} : Step (tTup a σ H Q) (a σ H fun xs H1 => xs.length ≤ sizeLine ∧ ∀ p, H1 p = none → Q (.ref p) (upd H1 p (.tup xs))) := ⟨fun h => h⟩
instance {a : TA} : Step (tLst a σ H Q) (a σ H fun xs H1 => xs.length ≤ sizeLine ∧ ∀ p, H1 p = none → Q (.ref p) (upd H1 p (.lst xs))) := ⟨fun h => h⟩
instance {r : V → Option Int → Option Int → Hp → VK → Prop} {a b : TO} : Step (tSl r te a b σ H Q) (te σ H fun x H1 => a σ H1 fun l H2 => b σ H2 fun u H3 => r x l u H3 Q) := ⟨fun h => h⟩
instance {Q : Option Int → Hp → Prop} : Step (tNoPart σ H Q) (Q none H) := ⟨fun h => h⟩
instance {Q : Option Int → Hp → Prop} : Step (tPart te σ H Q) (te σ H fun x H1 => ∃ i, x = .int i ∧ Q (some i) H1) := ⟨fun h => h⟩
instance {T : String} {r : V → List V → Hp → VK → Prop} {a : TA} : Step (tBM K T r ta a σ H Q) (ta σ H fun x H1 => tyV K T x H1 ∧ a σ H1 fun xs H2 => r x xs H2 Q) := ⟨fun h => h⟩
instance {T : String} {r : V → List V → Hp → VK → Prop} : Step (tBM0 K T r ta σ H Q) (ta σ H fun x H1 => tyV K T x H1 ∧ r x [] H1 Q) := ⟨fun h => h⟩
-- the operators
instance {i j : Int} : Step (uAdd K (.int i) (.int j) H Q) (Q (.int (i + j)) H) := ⟨fun h => h⟩
instance {i j : Str} : Step (uAdd K (.str i) (.str j) H Q) (i.length + j.length ≤ sizeLine ∧ Q (.str (i ++ j)) H) := ⟨fun h => h⟩
instance {i j : Int} : Step (uSub (.int i) (.int j) H Q) (Q (.int (i - j)) H) := ⟨fun h => h⟩
instance {i j : Int} : Step (uMul (.int i) (.int j) H Q) (CMul i j ∧ Q (.int (i * j)) H) := ⟨fun h => h⟩
instance {i j : Int} : Step (uDiv (.int i) (.int j) H Q) (CDiv i j ∧ Q (.int (i / j)) H) := ⟨fun h => h⟩
instance {i j : Int} : Step (uMod (.int i) (.int j) H Q) (0 < j ∧ Q (.int (i % j)) H) := ⟨fun h => h⟩
instance {i j : Int} : Step (uPow (.int i) (.int j) H Q) (CPow i j ∧ Q (.int (i ^ j.toNat)) H) := ⟨fun h => h⟩
instance {i : Int} : Step (uNeg (.int i) H Q) (Q (.int (-i)) H) := ⟨fun h => h⟩
instance {p : Int → Int → Bool} {i j : Int} : Step (uCmp p (.int i) (.int j) H Q) (Q (.bl (p i j)) H) := ⟨fun h => h⟩
instance {i j : Int} : Step (uEq K (.int i) (.int j) H Q) (Q (.bl (decide (i = j))) H) := ⟨q_eqI⟩
instance {i j : Int} : Step (uNe K (.int i) (.int j) H Q) (Q (.bl (!decide (i = j))) H) := ⟨q_neI⟩
instance {i j : Str} : Step (uEq K (.str i) (.str j) H Q) (Q (.bl (decide (i = j))) H) := ⟨fun h => q_eq rfl (by
  have e : decide (V.str i = V.str j) = decide (i = j) := by simp
  rw [e]; exact h)⟩
instance {i j : Str} : Step (uNe K (.str i) (.str j) H Q) (Q (.bl (!decide (i = j))) H) := ⟨fun h => q_ne rfl (by
  have e : decide (V.str i = V.str j) = decide (i = j) := by simp
  rw [e]; exact h)⟩
instance {i j : Bool} : Step (uEq K (.bl i) (.bl j) H Q) (Q (.bl (decide (i = j))) H) := ⟨fun h => q_eq rfl (by
  have e : decide (V.bl i = V.bl j) = decide (i = j) := by simp
  rw [e]; exact h)⟩
instance {i j : Bool} : Step (uNe K (.bl i) (.bl j) H Q) (Q (.bl (!decide (i = j))) H) := ⟨fun h => q_ne rfl (by
  have e : decide (V.bl i = V.bl j) = decide (i = j) := by simp
  rw [e]; exact h)⟩
/-- a list or a tuple that is read -/
def IsSq (K : PySem.W.Frag) (H : Hp) (a : Addr) (xs : List V) : Prop := SqL K H a xs ∨ SqT K H a xs
def HoIt : HO → List V → Prop
  | .lst xs, ys => xs = ys
  | .tup xs, ys => xs = ys
  | _, _ => False
theorem sq_o {a : Addr} {o : HO} {xs : List V} (h : H a = some o) (e : HoIt o xs) : IsSq K H a xs := by
  cases o <;> first | exact e.elim | (cases (show _ = _ from e); first | exact .inl (.of h) | exact .inr (.of h))
theorem sq_l {a : Addr} {xs : List V} (h : H a = some (.lst xs)) : IsSq K H a xs := .inl (.of h)
theorem sq_t {a : Addr} {xs : List V} (h : H a = some (.tup xs)) : IsSq K H a xs := .inr (.of h)
instance {a : Addr} {i : Int} : Step (rIx K (.ref a) (.int i) H Q) (∃ xs, IsSq K H a xs ∧ ∃ v, atI xs i = some v ∧ Q v H) := ⟨fun ⟨xs, h, v, e, q⟩ => by
  rcases h with h | h
  · exact .inl ⟨a, xs, i, v, rfl, rfl, h, e, q⟩
  · exact .inr (.inl ⟨a, xs, i, v, rfl, rfl, h, e, q⟩)⟩
instance {z : Str} {i : Int} : Step (rIx K (.str z) (.int i) H Q) (∃ c, (z.length ≤ sizeLine ∧ atI z.cps.toList i = some c) ∧ Q (.str ⟨#[c]⟩) H) := ⟨fun ⟨c, h, q⟩ => q_ixS h.1 h.2 q⟩
instance {a : Addr} : Step (uLen K [.ref a] H Q) (∃ xs, IsSq K H a xs ∧ Q (.int xs.length) H) := ⟨fun ⟨xs, h, q⟩ => by
  rcases h with h | h
  · exact ⟨_, _, rfl, .inl ⟨xs, h, rfl⟩, q⟩
  · exact ⟨_, _, rfl, .inr ⟨xs, h, rfl⟩, q⟩⟩
instance {z : Str} : Step (uLen K [.str z] H Q) (z.length ≤ sizeLine ∧ Q (.int z.length) H) := ⟨fun h => q_lenS h.1 h.2⟩
instance {i : Int} : Step (uInt [.int i] H Q) (Q (.int i) H) := ⟨fun h => h⟩
instance {k : Bool} : Step (uInt [.bl k] H Q) (Q (.int (if k then 1 else 0)) H) := ⟨fun h => h⟩
/-- the value's type is that of the data -/
def Typ (H : Hp) (x : V) (d : PyData) : Prop := At H d x ∨ (∃ a vs, x = .ref a ∧ H a = some (.lst vs) ∧ d = .list []) ∨ ∃ a vs, x = .ref a ∧ H a = some (.tup vs) ∧ d = .tuple []
theorem typ_at {x : V} {d : PyData} (h : At H d x) : Typ H x d := .inl h
theorem typ_l {a : Addr} {vs : List V} (h : H a = some (.lst vs)) : Typ H (.ref a) (.list []) := .inr (.inl ⟨a, vs, rfl, h, rfl⟩)
theorem typ_t {a : Addr} {vs : List V} (h : H a = some (.tup vs)) : Typ H (.ref a) (.tuple []) := .inr (.inr ⟨a, vs, rfl, h, rfl⟩)
def HoTy : HO → PyData → Prop
  | .lst _, d => d = .list []
  | .tup _, d => d = .tuple []
  | _, _ => False
theorem typ_o {a : Addr} {o : HO} {d : PyData} (h : H a = some o) (e : HoTy o d) : Typ H (.ref a) d := by
  cases o <;> first | exact e.elim | (cases (show _ = _ from e); first | exact typ_l h | exact typ_t h)
theorem Typ.ty {x : V} {d : PyData} (h : Typ H x d) : TyX K H x (.type (tyOf d)) := by
  rcases h with h | ⟨a, vs, rfl, h, rfl⟩ | ⟨a, vs, rfl, h, rfl⟩
  · exact h.ty
  · exact .base (.lst h)
  · exact .base (.tup h)
theorem Typ.nodict {x : V} {d : PyData} (h : Typ H x d) : ∀ k, d ≠ .dict k := fun k e => by
  subst e
  rcases h with h | ⟨_, _, _, _, h⟩ | ⟨_, _, _, _, h⟩ <;> first | exact h.elim | cases h
instance : Step (rIsi K [x, .ty "int"] H Q) (∃ d, Typ H x d ∧ Q (.bl (isIntD d)) H) := ⟨fun ⟨d, h, q⟩ => q_isi h.ty (kb_int d h.nodict) q⟩
instance : Step (rIsi K [x, .ty "bool"] H Q) (∃ d, Typ H x d ∧ Q (.bl (isBoolD d)) H) := ⟨fun ⟨d, h, q⟩ => q_isi h.ty (kb_bool d h.nodict) q⟩
instance : Step (rIsi K [x, .ty "tuple"] H Q) (∃ d, Typ H x d ∧ Q (.bl (isTupD d)) H) := ⟨fun ⟨d, h, q⟩ => q_isi h.ty (kb_tuple d h.nodict) q⟩
instance : Step (rIsi K [x, .ty "str"] H Q) (∃ d, Typ H x d ∧ Q (.bl (isStrD d)) H) := ⟨fun ⟨d, h, q⟩ => q_isi h.ty (kb_str d h.nodict) q⟩
instance : Step (rIsi K [x, .ty "list"] H Q) (∃ d, Typ H x d ∧ Q (.bl (isLstD d)) H) := ⟨fun ⟨d, h, q⟩ => q_isi h.ty (kb_list d h.nodict) q⟩
-- answers that are there
instance {b : Bool} {R : Bool → Prop} : Step (∃ k, V.bl b = V.bl k ∧ R k) (R b) := ⟨fun h => ⟨b, rfl, h⟩⟩
instance {j : Int} {R : Int → Prop} : Step (∃ i, V.int j = V.int i ∧ R i) (R j) := ⟨fun h => ⟨j, rfl, h⟩⟩
instance {a : Addr} {R : Addr → Prop} : Step (∃ b, V.ref a = V.ref b ∧ R b) (R a) := ⟨fun h => ⟨a, rfl, h⟩⟩
instance {a b : V} {R : V → V → Prop} : Step (∃ v w, [a, b] = [v, w] ∧ R v w) (R a b) := ⟨fun h => ⟨a, b, rfl, h⟩⟩
instance {a : V} {R : V → Prop} : Step (∃ v, [a] = [v] ∧ R v) (R a) := ⟨fun h => ⟨a, rfl, h⟩⟩
instance {A B : Prop} : Step (if true = true then A else B) A := ⟨iteT⟩
instance {A B : Prop} : Step (if false = true then A else B) B := ⟨iteF⟩
instance {A B : Prop} : Step (if (!true) = true then A else B) B := ⟨iteF⟩
instance {A B : Prop} : Step (if (!false) = true then A else B) A := ⟨iteT⟩
-- own defs
instance {g : Sp1} {E : XK} {a : V} : Step (sp1 g [a] H Q E) (g a H Q E) := ⟨fun h => ⟨_, rfl, h⟩⟩
instance {g : Sp2} {E : XK} {a b : V} : Step (sp2 g [a, b] H Q E) (g a b H Q E) := ⟨fun h => ⟨_, _, rfl, h⟩⟩
instance {g : Sp3} {E : XK} {a b c : V} : Step (sp3 g [a, b, c] H Q E) (g a b c H Q E) := ⟨fun h => ⟨_, _, _, rfl, h⟩⟩
instance {g : Sp4} {E : XK} {a b c d : V} : Step (sp4 g [a, b, c, d] H Q E) (g a b c d H Q E) := ⟨fun h => ⟨_, _, _, _, rfl, h⟩⟩
instance {g : Sp5} {E : XK} {a b c d e : V} : Step (sp5 g [a, b, c, d, e] H Q E) (g a b c d e H Q E) := ⟨fun h => ⟨_, _, _, _, _, rfl, h⟩⟩
instance {g : Sp7} {E : XK} {a b c d e i j : V} : Step (sp7 g [a, b, c, d, e, i, j] H Q E) (g a b c d e i j H Q E) := ⟨fun h => ⟨_, _, _, _, _, _, _, rfl, h⟩⟩
end
theorem step {g n : Prop} [s : Step g n] (h : n) : g := s.h h
theorem ex_sq {K : PySem.W.Frag} {H : Hp} {a : Addr} {xs : List V} {S : List V → Prop} (h : IsSq K H a xs) (s : S xs) : ∃ xs, IsSq K H a xs ∧ S xs := ⟨xs, h, s⟩
theorem ex_v {o : Option V} {v : V} {S : V → Prop} (h : o = some v) (s : S v) : ∃ v, o = some v ∧ S v := ⟨v, h, s⟩
theorem ex_typ {H : Hp} {x : V} {d : PyData} {S : PyData → Prop} (h : Typ H x d) (s : S d) : ∃ d, Typ H x d ∧ S d := ⟨d, h, s⟩
theorem ex_at {H : Hp} {x : V} {d : PyData} {S : PyData → Prop} (h : At H d x) (s : S d) : ∃ d, At H d x ∧ S d := ⟨d, h, s⟩
theorem and_new {n : Nat} {H : Hp} {R : Addr → Prop} (l : n ≤ sizeLine) (h : ∀ p, H p = none → R p) : n ≤ sizeLine ∧ ∀ p, H p = none → R p := ⟨l, h⟩

/-! ### the body's context -/
section
variable {P : Program} {w : World} {K : PySem.W.Frag} {mg : Str → Option Value} {base : Heap} {N : List Str} {x : Str} {st : Stmt} {f : Addr} {cdv : Value} {A : Around} {outer : List Env} {s : Shared} {H : Hp} {E : XK}
theorem t_body : Takes (cx P w K mg base N x st f cdv A outer s H E) (fun cls d _ H => E cls d H) := takes_of rfl rfl rfl rfl
theorem p_body : Passes (L2.CX P w) (cx P w K mg base N x st f cdv A outer s H E) E := passes_call (W := fun cls d _ H => E cls d H) t_body fun _ _ _ _ h => h
theorem own_p : PassesOwn (model P w) (cx P w K mg base N x st f cdv A outer s H E).A (cx P w K mg base N x st f cdv A outer s H E).env (cx P w K mg base N x st f cdv A outer s H E).xe := passes_of rfl
end
instance {i j : Int} : Decidable (CPow i j) := by unfold CPow; infer_instance
end Fl

set_option Elab.async false
set_option linter.all false
set_option maxRecDepth 100000
set_option maxHeartbeats 4000000
/-! loops and comprehensions -/
namespace Fl
open PySem PySem.Spec PyProof.Rows L2 RZ
section
variable {σ : L2.St} {H : Hp} {nx bk ct : L2.St → Hp → Prop} {rt : VK} {Q : VK} {te tl : TE} {tb : TS} {g : TG} {tt : TT} {K : PySem.W.Frag} {wi : TI} {vs : List Nat}
/-- what a for asks of its iterator -/
def forG (g : TG) (tb : TS) (D : Ends) (σ : L2.St) : It → Hp → Prop := fun J H1 => ∃ W : Nat → Nat → L2.St → Hp → Prop, (∃ m, W 0 m σ H1) ∧ ∀ i m σ H, W i m σ H →
  (J.stop i H ∧ D.nx σ H) ∨ (J.go i H ∧ ∃ N : L2.St → Hp → Prop, (∀ σ' H', N σ' H' → ∃ m', m' < m ∧ W (i + 1) m' σ' H') ∧ ∀ x H', J.yld i H x H' → g x σ H' fun σ2 H2 => tb { D with nx := N, ct := N, bk := D.nx } σ2 H2)
instance {D : Ends} : Step (tFor wi g tb D σ H) (wi σ H (forG g tb D σ)) := ⟨fun h => h⟩
/-- what a comprehension asks of its iterator -/
def lcG (g : TG) (tt : TT) (te : TE) (vs : List Nat) (σ : L2.St) (Q : VK) : It → Hp → Prop := fun J H1 => ∀ D, H1 D = none → ∃ W : Nat → Nat → Hp → Prop, (∃ m, W 0 m (upd H1 D (.lst []))) ∧ ∀ i m H, W i m H →
  (J.stop i H ∧ Q (.ref D) H) ∨ (J.go i H ∧ ∃ Nx : Hp → Prop, (∀ H', Nx H' → ∃ m', m' < m ∧ W (i + 1) m' H') ∧ ∀ x H', J.yld i H x H' → g x (wipe σ vs) H' fun σ2 H2 => wipe σ2 vs = wipe σ vs ∧ tt σ2 H2 fun b H3 =>
    if b = true then te σ2 H3 fun y H4 => ∃ acc, H4 D = some (.lst acc) ∧ acc.length < sizeLine ∧ Nx (upd H4 D (.lst (acc ++ [y]))) else Nx H3)
instance : Step (tLc wi g tt te vs σ H Q) (wi σ H (lcG g tt te vs σ Q)) := ⟨fun h => h⟩
/-- the iterator of a list, a tuple -/
def ItOf (K : PySem.W.Frag) (x : V) (H : Hp) (R : It → Hp → Prop) : Prop := ∃ a, x = .ref a ∧ (((∃ xs, SqL K H a xs) ∧ R (Itl K a) H) ∨ ((∃ xs, SqT K H a xs) ∧ R (Itt K a) H))
instance {R : It → Hp → Prop} : Step (uIter K tl σ H R) (tl σ H fun x H1 => ItOf K x H1 R) := ⟨fun h => h⟩
instance {ta : TA} {R : It → Hp → Prop} : Step (iRng1 ta σ H R) (ta σ H fun vs H1 => ∃ v, vs = [v] ∧ ∃ j, v = .int j ∧ (-(2 ^ 62) ≤ j ∧ j < 2 ^ 62) ∧ R (Itr 0 j.toNat) H1) := ⟨fun h => by
  have e : (fun (vs : List V) (H1 : Hp) => ∃ v, vs = [v] ∧ ∃ j, v = .int j ∧ (-(2 ^ 62) ≤ j ∧ j < 2 ^ 62) ∧ R (Itr 0 j.toNat) H1) = (fun vs H1 => ∃ j : Int, vs = [.int j] ∧ -(2 ^ 62) ≤ j ∧ j < 2 ^ 62 ∧ R (Itr 0 j.toNat) H1) := by
    funext vs H1
    exact propext ⟨fun ⟨v, e, j, e2, ⟨a, b⟩, r⟩ => ⟨j, by rw [e, e2], a, b, r⟩, fun ⟨j, e, a, b, r⟩ => ⟨_, e, j, rfl, ⟨a, b⟩, r⟩⟩
  show ta σ H _
  rw [← e]
  exact h⟩
instance {ta : TA} {R : It → Hp → Prop} : Step (iRng2 ta σ H R) (ta σ H fun vs H1 => ∃ v w, vs = [v, w] ∧ ∃ i, v = .int i ∧ ∃ j, w = .int j ∧ (-(2 ^ 62) ≤ i ∧ i < 2 ^ 62 ∧ -(2 ^ 62) ≤ j ∧ j < 2 ^ 62) ∧ R (Itr i (j - i).toNat) H1) := ⟨fun h => by
  have e : (fun (vs : List V) (H1 : Hp) => ∃ v w, vs = [v, w] ∧ ∃ i, v = .int i ∧ ∃ j, w = .int j ∧ (-(2 ^ 62) ≤ i ∧ i < 2 ^ 62 ∧ -(2 ^ 62) ≤ j ∧ j < 2 ^ 62) ∧ R (Itr i (j - i).toNat) H1) =
      (fun vs H1 => ∃ i j : Int, vs = [.int i, .int j] ∧ (-(2 ^ 62) ≤ i ∧ i < 2 ^ 62 ∧ -(2 ^ 62) ≤ j ∧ j < 2 ^ 62) ∧ R (Itr i (j - i).toNat) H1) := by
    funext vs H1
    exact propext ⟨fun ⟨v, w, e, i, e2, j, e3, b, r⟩ => ⟨i, j, by rw [e, e2, e3], b, r⟩, fun ⟨i, j, e, b, r⟩ => ⟨_, _, e, i, rfl, j, rfl, b, r⟩⟩
  show ta σ H _
  rw [← e]
  exact h⟩
/-- zip -/
def ZipOf (K : PySem.W.Frag) (x y : V) (H : Hp) (R : It → Hp → Prop) : Prop := ∃ a b xs ys, x = .ref a ∧ y = .ref b ∧ ((SqL K H a xs ∧ SqL K H b ys ∧ R (Itz K a b) H) ∨ (SqT K H a xs ∧ SqT K H b ys ∧ R (ItzT K a b) H))
instance {ta : TA} {R : It → Hp → Prop} : Step (iZipA K ta σ H R) (ta σ H fun vs H1 => ∃ v w, vs = [v, w] ∧ ZipOf K v w H1 R) := ⟨fun h => by
  have e : (fun (vs : List V) (H1 : Hp) => ∃ v w, vs = [v, w] ∧ ZipOf K v w H1 R) = (fun vs H1 => ∃ a b xs ys, vs = [.ref a, .ref b] ∧ ((SqL K H1 a xs ∧ SqL K H1 b ys ∧ R (Itz K a b) H1) ∨ (SqT K H1 a xs ∧ SqT K H1 b ys ∧ R (ItzT K a b) H1))) := by
    funext vs H1
    exact propext ⟨fun ⟨v, w, e, a, b, xs, ys, e1, e2, r⟩ => ⟨a, b, xs, ys, by rw [e, e1, e2], r⟩, fun ⟨a, b, xs, ys, e, r⟩ => ⟨_, _, e, a, b, xs, ys, rfl, rfl, r⟩⟩
  show ta σ H _
  rw [← e]
  exact h⟩
/-- a for over a list that stays -/
theorem for_lst {a : Addr} {xs : List V} (Pv : Nat → L2.St → Hp → Prop) (ha : H a = some (.lst xs)) (h0 : Pv 0 σ H) (hl : ∀ i σ H, i ≤ xs.length → Pv i σ H → H a = some (.lst xs))
    (hs : ∀ i x σ H, xs[i]? = some x → Pv i σ H → g x σ H fun σ2 H2 => tb ⟨Pv (i + 1), rt, nx, Pv (i + 1)⟩ σ2 H2) (hd : ∀ σ H, Pv xs.length σ H → nx σ H) : ItOf K (.ref a) H (forG g tb ⟨nx, rt, bk, ct⟩ σ) :=
  ⟨a, rfl, .inl ⟨⟨xs, .of ha⟩, for_list Pv h0 (fun i σ H hi p => .of (hl i σ H hi p)) hs hd⟩⟩
theorem for_tpl {a : Addr} {xs : List V} (Pv : Nat → L2.St → Hp → Prop) (ha : H a = some (.tup xs)) (h0 : Pv 0 σ H) (hl : ∀ i σ H, i ≤ xs.length → Pv i σ H → H a = some (.tup xs))
    (hs : ∀ i x σ H, xs[i]? = some x → Pv i σ H → g x σ H fun σ2 H2 => tb ⟨Pv (i + 1), rt, nx, Pv (i + 1)⟩ σ2 H2) (hd : ∀ σ H, Pv xs.length σ H → nx σ H) : ItOf K (.ref a) H (forG g tb ⟨nx, rt, bk, ct⟩ σ) :=
  ⟨a, rfl, .inr ⟨⟨xs, .of ha⟩, for_tup Pv h0 (fun i σ H hi p => .of (hl i σ H hi p)) hs hd⟩⟩
theorem for_rng {lo : Int} {n : Nat} (Pv : Nat → L2.St → Hp → Prop) (h0 : Pv 0 σ H)
    (hs : ∀ (i : Nat) σ H, i < n → Pv i σ H → g (.int (lo + i)) σ H fun σ2 H2 => tb ⟨Pv (i + 1), rt, nx, Pv (i + 1)⟩ σ2 H2) (hd : ∀ σ H, Pv n σ H → nx σ H) : forG g tb ⟨nx, rt, bk, ct⟩ σ (Itr lo n) H :=
  for_range Pv h0 hs hd
/-- a comprehension over a list, a tuple, a range; te may change the heap; D is the list that is made -/
theorem lc_lst {a : Addr} {xs : List V} (Pv : Addr → Nat → Hp → Prop) (ha : H a = some (.lst xs)) (h0 : ∀ D, H D = none → Pv D 0 (upd H D (.lst []))) (hl : ∀ D i H', H D = none → i ≤ xs.length → Pv D i H' → H' a = some (.lst xs))
    (hs : ∀ D i x H', H D = none → xs[i]? = some x → Pv D i H' → g x (wipe σ vs) H' fun σ2 H2 => wipe σ2 vs = wipe σ vs ∧ tt σ2 H2 fun b H3 =>
      if b = true then te σ2 H3 fun y H4 => ∃ acc, H4 D = some (.lst acc) ∧ acc.length < sizeLine ∧ Pv D (i + 1) (upd H4 D (.lst (acc ++ [y]))) else Pv D (i + 1) H3)
    (hd : ∀ D H', H D = none → Pv D xs.length H' → Q (.ref D) H') : ItOf K (.ref a) H (lcG g tt te vs σ Q) :=
  ⟨a, rfl, .inl ⟨⟨xs, .of ha⟩, fun D hD => lc_list (Pv D) (h0 D hD) (fun i H' hi p => .of (hl D i H' hD hi p)) (fun i x H' e p => hs D i x H' hD e p) fun H' p => hd D H' hD p⟩⟩
theorem lc_tpl {a : Addr} {xs : List V} (Pv : Addr → Nat → Hp → Prop) (ha : H a = some (.tup xs)) (h0 : ∀ D, H D = none → Pv D 0 (upd H D (.lst []))) (hl : ∀ D i H', H D = none → i ≤ xs.length → Pv D i H' → H' a = some (.tup xs))
    (hs : ∀ D i x H', H D = none → xs[i]? = some x → Pv D i H' → g x (wipe σ vs) H' fun σ2 H2 => wipe σ2 vs = wipe σ vs ∧ tt σ2 H2 fun b H3 =>
      if b = true then te σ2 H3 fun y H4 => ∃ acc, H4 D = some (.lst acc) ∧ acc.length < sizeLine ∧ Pv D (i + 1) (upd H4 D (.lst (acc ++ [y]))) else Pv D (i + 1) H3)
    (hd : ∀ D H', H D = none → Pv D xs.length H' → Q (.ref D) H') : ItOf K (.ref a) H (lcG g tt te vs σ Q) :=
  ⟨a, rfl, .inr ⟨⟨xs, .of ha⟩, fun D hD => lc_tup (Pv D) (h0 D hD) (fun i H' hi p => .of (hl D i H' hD hi p)) (fun i x H' e p => hs D i x H' hD e p) fun H' p => hd D H' hD p⟩⟩
theorem lc_rng {lo : Int} {n : Nat} (Pv : Addr → Nat → Hp → Prop) (h0 : ∀ D, H D = none → Pv D 0 (upd H D (.lst [])))
    (hs : ∀ D (i : Nat) H', H D = none → i < n → Pv D i H' → g (.int (lo + i)) (wipe σ vs) H' fun σ2 H2 => wipe σ2 vs = wipe σ vs ∧ tt σ2 H2 fun b H3 =>
      if b = true then te σ2 H3 fun y H4 => ∃ acc, H4 D = some (.lst acc) ∧ acc.length < sizeLine ∧ Pv D (i + 1) (upd H4 D (.lst (acc ++ [y]))) else Pv D (i + 1) H3)
    (hd : ∀ D H', H D = none → Pv D n H' → Q (.ref D) H') : lcG g tt te vs σ Q (Itr lo n) H :=
  fun D hD => lc_range (Pv D) (h0 D hD) (fun i H' hi p => hs D i H' hD hi p) fun H' p => hd D H' hD p
/-- .. each item by a function of its place, nothing changed: ys is what comes -/
def Pure (te : TE) (σ : L2.St) (H : Hp) (y : V) : Prop := ∀ Q : VK, (∀ H2, Same H H2 → Q y H2) → te σ H Q
theorem take_snoc {α : Type} {ys : List α} {i : Nat} {y : α} (h : ys[i]? = some y) : ys.take i ++ [y] = ys.take (i + 1) := by
  rw [List.take_add_one, h]
  rfl
section
variable {j : Nat} {xs ys : List V} {a : Addr}
theorem pure_step (hl : ys.length < 100000) (hw : ∀ x, wipe ((wipe σ vs).set j (some x)) vs = wipe σ vs) {D : Addr} {i : Nat} {x y : V} {H' : Hp} (hD : H D = none) (hy : ys[i]? = some y) (p : H' D = some (.lst (ys.take i)) ∧ Same H H')
    (hp : Pure te ((wipe σ vs).set j (some x)) H' y) : gName j x (wipe σ vs) H' fun σ2 H2 => wipe σ2 vs = wipe σ vs ∧ tYes σ2 H2 fun b H3 =>
      if b = true then te σ2 H3 fun y H4 => ∃ acc, H4 D = some (.lst acc) ∧ acc.length < sizeLine ∧ (upd H4 D (.lst (acc ++ [y]))) D = some (.lst (ys.take (i + 1))) ∧ Same H (upd H4 D (.lst (acc ++ [y]))) else H3 D = some (.lst (ys.take (i + 1))) ∧ Same H H3 := by
  refine ⟨hw x, ?_⟩
  refine Step.h (n := if true = true then _ else _) ?_
  rw [if_pos rfl]
  refine hp _ fun H2 e => ⟨_, e _ _ p.1, ?_, ?_, ?_⟩
  · refine small_lt (Nat.lt_of_le_of_lt ?_ hl)
    rw [List.length_take]
    exact Nat.min_le_right _ _
  · rw [upd_same, take_snoc hy]
  · exact Same.mut (L2.Same.trans p.2 e) hD
theorem lc_seqL (ys : List V) (ha : H a = some (.lst xs)) (hy : ys.length = xs.length) (hl : ys.length < 100000) (hw : ∀ x, wipe ((wipe σ vs).set j (some x)) vs = wipe σ vs)
    (hs : ∀ (i : Nat) x y H', xs[i]? = some x → ys[i]? = some y → Same H H' → Pure te ((wipe σ vs).set j (some x)) H' y) (hd : ∀ D H', H D = none → Same H H' → H' D = some (.lst ys) → Q (.ref D) H') : ItOf K (.ref a) H (lcG (gName j) tYes te vs σ Q) := by
  refine lc_lst (fun D i H' => H' D = some (.lst (ys.take i)) ∧ Same H H') ha (fun D hD => ⟨upd_same, Same.new (.refl _) hD⟩) (fun D i H' _ _ p => p.2 _ _ ha) (fun D i x H' hD e p => ?_) fun D H' hD p => ?_
  · have hi : i < ys.length := by
      rw [hy]
      exact (List.getElem?_eq_some_iff.mp e).1
    exact pure_step hl hw hD (List.getElem?_eq_getElem hi) p (hs i x _ H' e (List.getElem?_eq_getElem hi) p.2)
  · refine hd D H' hD p.2 ?_
    rw [← hy, List.take_length] at p
    exact p.1
theorem lc_seqT (ys : List V) (ha : H a = some (.tup xs)) (hy : ys.length = xs.length) (hl : ys.length < 100000) (hw : ∀ x, wipe ((wipe σ vs).set j (some x)) vs = wipe σ vs)
    (hs : ∀ (i : Nat) x y H', xs[i]? = some x → ys[i]? = some y → Same H H' → Pure te ((wipe σ vs).set j (some x)) H' y) (hd : ∀ D H', H D = none → Same H H' → H' D = some (.lst ys) → Q (.ref D) H') : ItOf K (.ref a) H (lcG (gName j) tYes te vs σ Q) := by
  refine lc_tpl (fun D i H' => H' D = some (.lst (ys.take i)) ∧ Same H H') ha (fun D hD => ⟨upd_same, Same.new (.refl _) hD⟩) (fun D i H' _ _ p => p.2 _ _ ha) (fun D i x H' hD e p => ?_) fun D H' hD p => ?_
  · have hi : i < ys.length := by
      rw [hy]
      exact (List.getElem?_eq_some_iff.mp e).1
    exact pure_step hl hw hD (List.getElem?_eq_getElem hi) p (hs i x _ H' e (List.getElem?_eq_getElem hi) p.2)
  · refine hd D H' hD p.2 ?_
    rw [← hy, List.take_length] at p
    exact p.1
theorem lc_seqR {lo : Int} {n : Nat} (ys : List V) (hy : ys.length = n) (hl : ys.length < 100000) (hw : ∀ x, wipe ((wipe σ vs).set j (some x)) vs = wipe σ vs)
    (hs : ∀ (i : Nat) y H', i < n → ys[i]? = some y → Same H H' → Pure te ((wipe σ vs).set j (some (.int (lo + i)))) H' y) (hd : ∀ D H', H D = none → Same H H' → H' D = some (.lst ys) → Q (.ref D) H') : lcG (gName j) tYes te vs σ Q (Itr lo n) H := by
  refine lc_rng (fun D i H' => H' D = some (.lst (ys.take i)) ∧ Same H H') (fun D hD => ⟨upd_same, Same.new (.refl _) hD⟩) (fun D i H' hD hi p => ?_) fun D H' hD p => ?_
  · have hi' : i < ys.length := by rw [hy]; exact hi
    exact pure_step hl hw hD (List.getElem?_eq_getElem hi') p (hs i _ H' hi (List.getElem?_eq_getElem hi') p.2)
  · refine hd D H' hD p.2 ?_
    rw [← hy, List.take_length] at p
    exact p.1
end
/-- .. with a test: which items stay, and what comes of each -/
def PureT (tt : TT) (σ : L2.St) (H : Hp) (b : Bool) : Prop := ∀ Q : Bool → Hp → Prop, (∀ H2, Same H H2 → Q b H2) → tt σ H Q
theorem filterMap_snoc {α β : Type} {xs : List α} {f : α → Option β} {i : Nat} {x : α} (h : xs[i]? = some x) : (xs.take (i + 1)).filterMap f = (xs.take i).filterMap f ++ (f x).toList := by
  rw [← take_snoc h, List.filterMap_append]
  cases e : f x <;> simp [List.filterMap, e]
theorem filt_step {f : V → Option V} {j : Nat} {xs : List V} (hl : xs.length < 100000) (hw : ∀ x, wipe ((wipe σ vs).set j (some x)) vs = wipe σ vs) {D : Addr} {i : Nat} {x : V} {H' : Hp} (hD : H D = none) (e : xs[i]? = some x)
    (p : H' D = some (.lst ((xs.take i).filterMap f)) ∧ Same H H') (ht : PureT tt ((wipe σ vs).set j (some x)) H' (f x).isSome) (hp : ∀ y H2, f x = some y → Same H' H2 → Pure te ((wipe σ vs).set j (some x)) H2 y) :
    gName j x (wipe σ vs) H' fun σ2 H2 => wipe σ2 vs = wipe σ vs ∧ tt σ2 H2 fun b H3 =>
      if b = true then te σ2 H3 fun y H4 => ∃ acc, H4 D = some (.lst acc) ∧ acc.length < sizeLine ∧ (upd H4 D (.lst (acc ++ [y]))) D = some (.lst ((xs.take (i + 1)).filterMap f)) ∧ Same H (upd H4 D (.lst (acc ++ [y])))
      else H3 D = some (.lst ((xs.take (i + 1)).filterMap f)) ∧ Same H H3 := by
  refine ⟨hw x, ht _ fun H2 e2 => ?_⟩
  cases ex : f x with
  | none =>
    refine iteF ⟨?_, L2.Same.trans p.2 e2⟩
    rw [filterMap_snoc e, ex]
    rw [show ((xs.take i).filterMap f ++ (none : Option V).toList) = (xs.take i).filterMap f by simp]
    exact e2 _ _ p.1
  | some y =>
    refine iteT (hp y H2 ex e2 _ fun H3 e3 => ⟨_, e3 _ _ (e2 _ _ p.1), ?_, ?_, ?_⟩)
    · refine small_lt (Nat.lt_of_le_of_lt (Nat.le_trans (List.length_filterMap_le _ _) ?_) hl)
      rw [List.length_take]
      exact Nat.min_le_right _ _
    · rw [upd_same, filterMap_snoc e, ex]
      rfl
    · exact Same.mut (L2.Same.trans p.2 (L2.Same.trans e2 e3)) hD
theorem lc_filtL {j : Nat} {xs : List V} {a : Addr} (f : V → Option V) (ha : H a = some (.lst xs)) (hl : xs.length < 100000) (hw : ∀ x, wipe ((wipe σ vs).set j (some x)) vs = wipe σ vs)
    (ht : ∀ x H', x ∈ xs → Same H H' → PureT tt ((wipe σ vs).set j (some x)) H' (f x).isSome) (hp : ∀ x y H', x ∈ xs → f x = some y → Same H H' → Pure te ((wipe σ vs).set j (some x)) H' y)
    (hd : ∀ D H', H D = none → Same H H' → H' D = some (.lst (xs.filterMap f)) → Q (.ref D) H') : ItOf K (.ref a) H (lcG (gName j) tt te vs σ Q) := by
  refine lc_lst (fun D i H' => H' D = some (.lst ((xs.take i).filterMap f)) ∧ Same H H') ha (fun D hD => ⟨by rw [upd_same]; rfl, Same.new (.refl _) hD⟩) (fun D i H' _ _ p => p.2 _ _ ha) (fun D i x H' hD e p => ?_) fun D H' hD p => ?_
  · have hm := List.mem_of_getElem? e
    exact filt_step hl hw hD e p (ht x H' hm p.2) fun y H2 ey e2 => hp x y H2 hm ey (L2.Same.trans p.2 e2)
  · rw [List.take_length] at p
    exact hd D H' hD p.2 p.1
theorem lc_filtR {j : Nat} {n : Nat} {lo : Int} (f : V → Option V) (hl : n < 100000) (hw : ∀ x, wipe ((wipe σ vs).set j (some x)) vs = wipe σ vs)
    (ht : ∀ (i : Nat) H', i < n → Same H H' → PureT tt ((wipe σ vs).set j (some (.int (lo + i)))) H' (f (.int (lo + i))).isSome) (hp : ∀ (i : Nat) y H', i < n → f (.int (lo + i)) = some y → Same H H' → Pure te ((wipe σ vs).set j (some (.int (lo + i)))) H' y)
    (hd : ∀ D H', H D = none → Same H H' → H' D = some (.lst (((List.range n).map fun (i : Nat) => V.int (lo + i)).filterMap f)) → Q (.ref D) H') : lcG (gName j) tt te vs σ Q (Itr lo n) H := by
  have hlen : ((List.range n).map fun (i : Nat) => V.int (lo + i)).length = n := by simp
  refine lc_rng (fun D i H' => H' D = some (.lst (((((List.range n).map fun (i : Nat) => V.int (lo + i))).take i).filterMap f)) ∧ Same H H') (fun D hD => ⟨by rw [upd_same]; rfl, Same.new (.refl _) hD⟩) (fun D i H' hD hi p => ?_) fun D H' hD p => ?_
  · have e : ((List.range n).map fun (i : Nat) => V.int (lo + i))[i]? = some (.int (lo + i)) := by simp [hi]
    exact filt_step (by rw [hlen]; exact hl) hw hD e p (ht i H' hi p.2) fun y H2 ey e2 => hp i y H2 hi ey (L2.Same.trans p.2 e2)
  · refine hd D H' hD p.2 ?_
    rw [List.take_of_length_le (by rw [hlen]; exact Nat.le_refl _)] at p
    exact p.1
/-- .. each item new data -/
def PureD (te : TE) (σ : L2.St) (H : Hp) (d : PyData) : Prop := ∀ R : VK, (∀ y H2, Same H H2 → At H2 d y → R y H2) → te σ H R
theorem tupsOnly_take : ∀ {ds : List PyData} (n : Nat), tupsOnly ds = true → tupsOnly (ds.take n) = true
  | [], n, _ => by simp [tupsOnly]
  | _ :: _, 0, _ => rfl
  | d :: ds, n + 1, h => by
    have t' : tupOnly d = true ∧ tupsOnly ds = true := by simpa [tupsOnly] using h
    show (tupOnly d && tupsOnly (ds.take n)) = true
    rw [t'.1, tupsOnly_take n t'.2]
    rfl
theorem dat_step {j : Nat} {ds : List PyData} (hl : ds.length < 100000) (tup : tupsOnly ds = true) (hw : ∀ x, wipe ((wipe σ vs).set j (some x)) vs = wipe σ vs) {D : Addr} {i : Nat} {x : V} {d : PyData} {H' : Hp} (hD : H D = none) (hy : ds[i]? = some d)
    (p : ∃ ys, H' D = some (.lst ys) ∧ AtAll H' (ds.take i) ys ∧ Same H H') (hp : PureD te ((wipe σ vs).set j (some x)) H' d) : gName j x (wipe σ vs) H' fun σ2 H2 => wipe σ2 vs = wipe σ vs ∧ tYes σ2 H2 fun b H3 =>
      if b = true then te σ2 H3 fun y H4 => ∃ acc, H4 D = some (.lst acc) ∧ acc.length < sizeLine ∧ ∃ ys, (upd H4 D (.lst (acc ++ [y]))) D = some (.lst ys) ∧ AtAll (upd H4 D (.lst (acc ++ [y]))) (ds.take (i + 1)) ys ∧ Same H (upd H4 D (.lst (acc ++ [y])))
      else ∃ ys, H3 D = some (.lst ys) ∧ AtAll H3 (ds.take (i + 1)) ys ∧ Same H H3 := by
  obtain ⟨ys, p1, p2, p3⟩ := p
  refine ⟨hw x, ?_⟩
  refine Step.h (n := if true = true then _ else _) ?_
  rw [if_pos rfl]
  refine hp _ fun y H2 e at2 => ⟨_, e _ _ p1, ?_, _, upd_same, ?_, ?_⟩
  · have l := p2.length
    rw [List.length_take] at l
    exact small_lt (by omega)
  · have lt : LeT H2 (upd H2 D (.lst (ys ++ [y]))) := LeT.put1 (e _ _ p1) (.refl _)
    rw [← take_snoc hy]
    refine AtAll.append (AtAll.leT ((Same.le e).let.trans lt) (tupsOnly_take i tup) p2) (AtAll.one (At.leT lt ?_ at2))
    have q := List.mem_of_getElem? hy
    have all : ∀ {es : List PyData} {z : PyData}, tupsOnly es = true → z ∈ es → tupOnly z = true := by
      intro es
      induction es with
      | nil => intro z _ h; cases h
      | cons a r ih =>
        intro z h hz
        have t' : tupOnly a = true ∧ tupsOnly r = true := by simpa [tupsOnly] using h
        rcases List.mem_cons.mp hz with h1 | h1
        · rw [h1]; exact t'.1
        · exact ih t'.2 h1
    exact all tup q
  · exact Same.mut (L2.Same.trans p3 e) hD
theorem lc_datR {lo : Int} {n j : Nat} (ds : List PyData) (hy : ds.length = n) (hl : ds.length < 100000) (tup : tupsOnly ds = true) (hw : ∀ x, wipe ((wipe σ vs).set j (some x)) vs = wipe σ vs)
    (hs : ∀ (i : Nat) d H', i < n → ds[i]? = some d → Same H H' → PureD te ((wipe σ vs).set j (some (.int (lo + i)))) H' d) (hd : ∀ D H' ys, H D = none → Same H H' → H' D = some (.lst ys) → AtAll H' ds ys → Q (.ref D) H') : lcG (gName j) tYes te vs σ Q (Itr lo n) H := by
  refine lc_rng (fun D i H' => ∃ ys, H' D = some (.lst ys) ∧ AtAll H' (ds.take i) ys ∧ Same H H') (fun D hD => ⟨[], upd_same, by rw [List.take_zero]; rfl, Same.new (.refl _) hD⟩) (fun D i H' hD hi p => ?_) fun D H' hD p => ?_
  · have hi' : i < ds.length := by rw [hy]; exact hi
    obtain ⟨ys, p1, p2, p3⟩ := p
    exact dat_step hl tup hw hD (List.getElem?_eq_getElem hi') ⟨ys, p1, p2, p3⟩ (hs i _ H' hi (List.getElem?_eq_getElem hi') p3)
  · obtain ⟨ys, p1, p2, p3⟩ := p
    rw [← hy, List.take_length] at p2
    exact hd D H' ys hD p3 p1 p2
/-- a comprehension over zip of two tuples, two lists; the pair is a new tuple each time -/
theorem lc_zipR {It0 : It} {xs zs : List V} (Sq : Hp → Prop) (hgo : ∀ (i : Nat) H' x z, Sq H' → xs[i]? = some x → zs[i]? = some z → It0.go i H') (hyld : ∀ (i : Nat) H' x z v H2, Sq H' → xs[i]? = some x → zs[i]? = some z → It0.yld i H' v H2 → ∃ T, v = .ref T ∧ H' T = none ∧ H2 = upd H' T (.tup [x, z]))
    (hstop : ∀ (i : Nat) H', Sq H' → xs.length ≤ i → It0.stop i H') (hsq : ∀ H', Same H H' → Sq H') {j1 j2 : Nat} (hlen : xs.length = zs.length) (ys : List V) (hy : ys.length = xs.length) (hl : ys.length < 100000)
    (hw : ∀ x z, wipe (((wipe σ vs).set j1 (some x)).set j2 (some z)) vs = wipe σ vs)
    (hs : ∀ (i : Nat) x z y H', xs[i]? = some x → zs[i]? = some z → ys[i]? = some y → Same H H' → Pure te (((wipe σ vs).set j1 (some x)).set j2 (some z)) H' y) (hd : ∀ D H', H D = none → Same H H' → H' D = some (.lst ys) → Q (.ref D) H') :
    lcG (gTup K 2 (gCons (gName j1) (gCons (gName j2) gNil))) tYes te vs σ Q It0 H := by
  intro D hD
  refine ⟨fun i m H' => m = xs.length - i ∧ i ≤ xs.length ∧ H' D = some (.lst (ys.take i)) ∧ Same H H', ⟨_, rfl, Nat.zero_le _, upd_same, Same.new (.refl _) hD⟩, ?_⟩
  rintro i m H' ⟨rfl, hi, p1, p2⟩
  by_cases hlt : i < xs.length
  · have ex : xs[i]? = some xs[i] := List.getElem?_eq_getElem hlt
    have ez : zs[i]? = some (zs[i]'(hlen ▸ hlt)) := List.getElem?_eq_getElem _
    have ey : ys[i]? = some (ys[i]'(hy ▸ hlt)) := List.getElem?_eq_getElem _
    refine .inr ⟨hgo i H' _ _ (hsq _ p2) ex ez, fun H3 => H3 D = some (.lst (ys.take (i + 1))) ∧ Same H H3, fun H3 q => ⟨xs.length - (i + 1), by omega, rfl, hlt, q.1, q.2⟩, fun v H2 hv => ?_⟩
    obtain ⟨T, rfl, hT, rfl⟩ := hyld i H' _ _ v H2 (hsq _ p2) ex ez hv
    refine ⟨T, _, rfl, .of upd_same, rfl, _, _, rfl, _, _, rfl, rfl, hw _ _, ?_⟩
    refine Step.h (n := if true = true then _ else _) ?_
    rw [if_pos rfl]
    refine hs i _ _ _ (upd H' T (.tup [xs[i], zs[i]'(hlen ▸ hlt)])) ex ez ey (Same.new p2 hT) _ fun H3 e3 => ?_
    have hDT : D ≠ T := ne_of_none p1 hT
    have pD : H3 D = some (.lst (ys.take i)) := e3 _ _ (by rw [upd_ne hDT]; exact p1)
    refine ⟨_, pD, ?_, ?_, ?_⟩
    · refine small_lt (Nat.lt_of_le_of_lt ?_ hl)
      rw [List.length_take]
      exact Nat.min_le_right _ _
    · rw [upd_same, take_snoc ey]
    · exact Same.mut (L2.Same.trans (Same.new p2 hT) e3) hD
  · have e : i = xs.length := by omega
    subst e
    rw [← hy, List.take_length] at p1
    exact .inl ⟨hstop _ H' (hsq _ p2) (Nat.le_refl _), hd D H' hD p2 p1⟩
theorem sqT_inj {K : PySem.W.Frag} {H : Hp} {a : Addr} {i : Nat} {xs : List V} {x : V} (f : ∀ xs, SqT K H a xs → xs[i]? = some x) (h : H a = some (.tup xs)) : xs[i]? = some x := f xs (.of h)
theorem lc_zipT {a b : Addr} {xs zs : List V} {j1 j2 : Nat} (ys : List V) (ha : H a = some (.tup xs)) (hb : H b = some (.tup zs)) (hlen : xs.length = zs.length) (hy : ys.length = xs.length) (hl : ys.length < 100000)
    (hw : ∀ x z, wipe (((wipe σ vs).set j1 (some x)).set j2 (some z)) vs = wipe σ vs)
    (hs : ∀ (i : Nat) x z y H', xs[i]? = some x → zs[i]? = some z → ys[i]? = some y → Same H H' → Pure te (((wipe σ vs).set j1 (some x)).set j2 (some z)) H' y) (hd : ∀ D H', H D = none → Same H H' → H' D = some (.lst ys) → Q (.ref D) H') :
    ZipOf K (.ref a) (.ref b) H (lcG (gTup K 2 (gCons (gName j1) (gCons (gName j2) gNil))) tYes te vs σ Q) := by
  refine ⟨a, b, xs, zs, rfl, rfl, .inr ⟨.of ha, .of hb, lc_zipR (It0 := ItzT K a b) (xs := xs) (zs := zs) (fun H' => H' a = some (.tup xs) ∧ H' b = some (.tup zs)) (fun i H' x z h e1 e2 => ⟨xs, zs, x, z, .of h.1, .of h.2, e1, e2⟩) (fun i H' x z v H2 h e1 e2 hv => ?_)
    (fun i H' h hi => ⟨xs, zs, .of h.1, .of h.2, .inl hi⟩) (fun H' e => ⟨e _ _ ha, e _ _ hb⟩) hlen ys hy hl hw hs hd⟩⟩
  obtain ⟨T, x', z', rfl, hT, rfl, f1, f2⟩ := hv
  have q1 : x' = x := Option.some.inj ((f1 _ (.of h.1)).symm.trans e1)
  have q2 : z' = z := Option.some.inj ((f2 _ (.of h.2)).symm.trans e2)
  subst q1 q2
  exact ⟨T, rfl, hT, rfl⟩
theorem lc_zipL {a b : Addr} {xs zs : List V} {j1 j2 : Nat} (ys : List V) (ha : H a = some (.lst xs)) (hb : H b = some (.lst zs)) (hlen : xs.length = zs.length) (hy : ys.length = xs.length) (hl : ys.length < 100000)
    (hw : ∀ x z, wipe (((wipe σ vs).set j1 (some x)).set j2 (some z)) vs = wipe σ vs)
    (hs : ∀ (i : Nat) x z y H', xs[i]? = some x → zs[i]? = some z → ys[i]? = some y → Same H H' → Pure te (((wipe σ vs).set j1 (some x)).set j2 (some z)) H' y) (hd : ∀ D H', H D = none → Same H H' → H' D = some (.lst ys) → Q (.ref D) H') :
    ZipOf K (.ref a) (.ref b) H (lcG (gTup K 2 (gCons (gName j1) (gCons (gName j2) gNil))) tYes te vs σ Q) := by
  refine ⟨a, b, xs, zs, rfl, rfl, .inl ⟨.of ha, .of hb, lc_zipR (It0 := Itz K a b) (xs := xs) (zs := zs) (fun H' => H' a = some (.lst xs) ∧ H' b = some (.lst zs)) (fun i H' x z h e1 e2 => ⟨xs, zs, x, z, .of h.1, .of h.2, e1, e2⟩) (fun i H' x z v H2 h e1 e2 hv => ?_)
    (fun i H' h hi => ⟨xs, zs, .of h.1, .of h.2, .inl hi⟩) (fun H' e => ⟨e _ _ ha, e _ _ hb⟩) hlen ys hy hl hw hs hd⟩⟩
  obtain ⟨T, x', z', rfl, hT, rfl, f1, f2⟩ := hv
  have q1 : x' = x := Option.some.inj ((f1 _ (.of h.1)).symm.trans e1)
  have q2 : z' = z := Option.some.inj ((f2 _ (.of h.2)).symm.trans e2)
  subst q1 q2
  exact ⟨T, rfl, hT, rfl⟩
/-- while, by a word with its measure -/
theorem while_go {c : TT} (W : Nat → L2.St → Hp → Prop) (m : Nat) (h0 : W m σ H) (turn : ∀ m σ H, W m σ H → c σ H fun b H1 => if b = true then ∃ N : L2.St → Hp → Prop, (∀ σ' H', N σ' H' → ∃ m', m' < m ∧ W m' σ' H') ∧ tb ⟨N, rt, nx, N⟩ σ H1 else nx σ H1) : tWhile c tb ⟨nx, rt, bk, ct⟩ σ H :=
  ⟨W, ⟨m, h0⟩, turn⟩
theorem while_turn {W : Nat → L2.St → Hp → Prop} {m : Nat} (h : tb ⟨fun σ' H' => ∃ m', m' < m ∧ W m' σ' H', rt, nx, fun σ' H' => ∃ m', m' < m ∧ W m' σ' H'⟩ σ H) :
    ∃ N : L2.St → Hp → Prop, (∀ σ' H', N σ' H' → ∃ m', m' < m ∧ W m' σ' H') ∧ tb ⟨N, rt, nx, N⟩ σ H := ⟨_, fun _ _ n => n, h⟩
end

/-! ### more steps -/
section
variable {σ : L2.St} {H : Hp} {Q : VK} {K : PySem.W.Frag} {a b l p : Addr} {v x y : V}
/-- what comes of a thing that is made, of a call that changes nothing, of one that draws -/
def NewQ (H : Hp) (R : Addr → Prop) : Prop := ∀ p, H p = none → R p
def SameQ (H : Hp) (o : HO) (R : Addr → Hp → Prop) : Prop := ∀ a H', Same H H' → H' a = some o → R a H'
def SmQ (H : Hp) (R : Hp → Prop) : Prop := ∀ H', Same H H' → R H'
def GsQ (s : Addr) (H : Hp) (R : Hp → Prop) : Prop := ∀ H', Gs s H H' → R H'
/-- what comes of a draw below n -/
def NextQ (s : Addr) (n : Int) (H : Hp) (R : Int → Hp → Prop) : Prop := ∀ y r : Int, 0 ≤ r → r < n → R r (upd H s (.lst [.int y]))
theorem in_next {n : Int} {R : Int → Hp → Prop} (h : ∀ y r : Int, 0 ≤ r → r < n → R r (upd H l (.lst [.int y]))) : NextQ l n H R := h
/-- what comes of a number that is drawn -/
def NumQ (s : Addr) (H : Hp) (R : Int → Hp → Prop) : Prop := ∀ (z : Int) H', -1000000000 ≤ z → z ≤ 1000000000 → Gs s H H' → R z H'
theorem in_num {R : Int → Hp → Prop} (h : ∀ (z : Int) H', -1000000000 ≤ z → z ≤ 1000000000 → Gs l H H' → R z H') : NumQ l H R := h
/-- what comes of a thing that is drawn -/
def DrwQ {α : Type} (s : Addr) (H : Hp) (F : α → V → Hp → Prop) (R : α → V → Hp → Prop) : Prop := ∀ a v H', Gs s H H' → F a v H' → R a v H'
theorem in_drw {α : Type} {F R : α → V → Hp → Prop} (h : ∀ a v H', Gs l H H' → F a v H' → R a v H') : DrwQ l H F R := h
/-- what comes of a thing that is made -/
def MadQ {α : Type} (H : Hp) (F : α → V → Hp → Prop) (R : α → V → Hp → Prop) : Prop := ∀ a v H', Same H H' → F a v H' → R a v H'
theorem in_mad {α : Type} {F R : α → V → Hp → Prop} (h : ∀ a v H', Same H H' → F a v H' → R a v H') : MadQ H F R := h
/-- the script: known to its object, or the top's own -/
def Scr (K : PySem.W.Frag) (H : Hp) (a : Addr) (ns : List Int) : Prop := (∃ o, H a = some (.frz o (.lst (ns.map V.int)))) ∨ ∀ H', SqL K H' a (ns.map V.int)
theorem Scr.sq {ns : List Int} (h : Scr K H a ns) : SqL K H a (ns.map V.int) := by
  rcases h with ⟨o, h⟩ | h
  · exact .inl (.inr ⟨o, h⟩)
  · exact h H
theorem Scr.le1 {H' : Hp} {ns : List Int} (h : Scr K H a ns) (e : Le H H') : Scr K H' a ns := by
  rcases h with ⟨o, h⟩ | h
  · exact .inl ⟨o, e _ _ h (fun x z => by cases z)⟩
  · exact .inr h
theorem Scr.of {ns : List Int} (o : Only H) (h : SqL K H a (ns.map V.int)) : Scr K H a ns := by
  rcases h with (h | h) | h
  · rcases o a with z | ⟨ob, xs, z⟩
    · rw [h] at z; cases z
    · rw [h] at z; cases z
  · exact .inl h
  · exact .inr fun _ => .inr h
def IntQ (R : Int → Prop) : Prop := ∀ z : Int, R z
theorem in_int {R : Int → Prop} (h : ∀ z : Int, R z) : IntQ R := h
def MixQ (R : Int → Prop) : Prop := ∀ z : Int, 0 ≤ z → z < 2147483647 → R z
theorem in_mix {R : Int → Prop} (h : ∀ z : Int, 0 ≤ z → z < 2147483647 → R z) : MixQ R := h
theorem ex_scr {ns : List Int} {S : List Int → Prop} (h : Scr K H a ns) (s : S ns) : ∃ ns, Scr K H a ns ∧ S ns := ⟨ns, h, s⟩
theorem in_same {o : HO} {R : Addr → Hp → Prop} (h : ∀ a H', Same H H' → H' a = some o → R a H') : SameQ H o R := h
theorem in_new {R : Addr → Prop} (h : ∀ a, H a = none → R a) : NewQ H R := h
theorem in_sm {R : Hp → Prop} (h : ∀ H', Same H H' → R H') : SmQ H R := h
theorem in_gs {R : Hp → Prop} (h : ∀ H', Gs l H H' → R H') : GsQ l H R := h
theorem ex_o {R : HO → Prop} {o : HO} (h : H a = some o) (r : R o) : ∃ o, H a = some o ∧ R o := ⟨o, h, r⟩
theorem ex_xs {R : List V → Prop} {xs : List V} (h : H a = some (.lst xs)) (r : R xs) : ∃ xs, H a = some (.lst xs) ∧ R xs := ⟨xs, h, r⟩
theorem ex_bs {R : List Bool → Prop} {xs : List Bool} (h : H a = some (.lst (xs.map V.bl))) (r : R xs) : ∃ xs : List Bool, H a = some (.lst (xs.map V.bl)) ∧ R xs := ⟨xs, h, r⟩
theorem ex_ns {R : List Int → Prop} {xs : List Int} (h : H a = some (.lst (xs.map V.int))) (r : R xs) : ∃ xs : List Int, H a = some (.lst (xs.map V.int)) ∧ R xs := ⟨xs, h, r⟩
instance : Step (rAll K [.ref a] H Q) (∃ bs : List Bool, H a = some (.lst (bs.map V.bl)) ∧ Q (.bl (bs.all id)) H) := ⟨fun ⟨bs, h, q⟩ => ⟨a, bs, rfl, .of h, q⟩⟩
instance : Step (rAny K [.ref a] H Q) (∃ bs : List Bool, H a = some (.lst (bs.map V.bl)) ∧ Q (.bl (bs.any id)) H) := ⟨fun ⟨bs, h, q⟩ => ⟨a, bs, rfl, .of h, q⟩⟩
instance : Step (rSum K [.ref a] H Q) (∃ ns : List Int, H a = some (.lst (ns.map V.int)) ∧ Q (.int ns.sum) H) := ⟨fun ⟨bs, h, q⟩ => ⟨a, bs, rfl, .of h, q⟩⟩
instance : Step (rSortedI K [.ref a] H Q) (∃ ns : List Int, H a = some (.lst (ns.map V.int)) ∧ ∀ (ns' : List Int) (p : Addr), ns'.Perm ns → ns'.Pairwise (· ≤ ·) → H p = none → Q (.ref p) (upd H p (.lst (ns'.map V.int)))) := ⟨fun ⟨bs, h, q⟩ => ⟨a, bs, rfl, .of h, q⟩⟩
/-- slices -/
def SlQ (o : HO) (lo hi : Option Int) (H : Hp) (Q : VK) : Prop := match o with
  | .tup xs => ∀ a H', Same H H' → H' a = some (.tup (cutV xs lo hi)) → Q (.ref a) H'
  | .lst xs => ∀ a, H a = none → Q (.ref a) (upd H a (.lst (cutV xs lo hi)))
  | _ => False
theorem cut_whole {xs : List V} {lo hi : Option Int} (h : HT.sIx xs.length 0 lo = 0 ∧ HT.sIx xs.length xs.length hi = xs.length) : cutV xs lo hi = xs := by
  unfold cutV
  rw [h.1, h.2, Nat.sub_zero, List.drop_zero, List.take_length]
instance {lo hi : Option Int} : Step (uSl K (.ref a) lo hi H Q) (∃ o, H a = some o ∧ SlQ o lo hi H Q) := ⟨fun ⟨o, h, q⟩ => by
  cases o <;> first | exact q.elim | skip
  · exact .inl ⟨a, _, rfl, .of h, q⟩
  · refine .inr (.inl ⟨a, _, rfl, .of h, fun w => ?_, fun w p hp => ?_⟩)
    · exact q a H (.refl _) (by rw [cut_whole w]; exact h)
    · exact q p _ (Same.new (.refl _) hp) upd_same⟩
instance {z : Str} {lo hi : Option Int} : Step (uSl K (.str z) lo hi H Q) (z.length ≤ sizeLine ∧ Q (.str (cutS z lo hi)) H) := ⟨fun h => .inr (.inr ⟨z, rfl, h.1, h.2⟩)⟩
instance {xs : List V} {lo hi : Option Int} : Step (SlQ (.tup xs) lo hi H Q) (SameQ H (.tup (cutV xs lo hi)) fun a H' => Q (.ref a) H') := ⟨fun h => h⟩
instance {xs : List V} {lo hi : Option Int} : Step (SlQ (.lst xs) lo hi H Q) (NewQ H fun a => Q (.ref a) (upd H a (.lst (cutV xs lo hi)))) := ⟨fun h => h⟩
/-- + -/
def CatQ (o u : HO) (H : Hp) (Q : VK) : Prop := match o, u with
  | .tup xs, .tup ys => xs.length + ys.length ≤ sizeLine ∧ ∀ a H', Same H H' → H' a = some (.tup (xs ++ ys)) → Q (.ref a) H'
  | .lst xs, .lst ys => xs.length + ys.length ≤ sizeLine ∧ ∀ a, H a = none → Q (.ref a) (upd H a (.lst (xs ++ ys)))
  | _, _ => False
instance : Step (uAdd K (.ref a) (.ref b) H Q) (∃ o, H a = some o ∧ ∃ u, H b = some u ∧ CatQ o u H Q) := ⟨fun ⟨o, h, u, k, q⟩ => by
  cases o <;> cases u <;> first | exact q.elim | skip
  · exact q_addL h k q.1 q.2
  · rename_i xs ys
    refine q_addT h k q.1 (fun e => ?_) (fun e1 e2 => ?_) fun _ _ p hp => q.2 p _ (Same.new (.refl _) hp) upd_same
    · exact q.2 b H (.refl _) (by rw [e]; exact k)
    · exact q.2 a H (.refl _) (by rw [e2, List.append_nil]; exact h)⟩
instance {xs ys : List V} : Step (CatQ (.tup xs) (.tup ys) H Q) (xs.length + ys.length ≤ sizeLine ∧ SameQ H (.tup (xs ++ ys)) fun a H' => Q (.ref a) H') := ⟨fun h => h⟩
instance {xs ys : List V} : Step (CatQ (.lst xs) (.lst ys) H Q) (xs.length + ys.length ≤ sizeLine ∧ NewQ H fun a => Q (.ref a) (upd H a (.lst (xs ++ ys)))) := ⟨fun h => h⟩
/-- list * n -/
instance {n : Int} : Step (uMul (.ref a) (.int n) H Q) (∃ xs, H a = some (.lst xs) ∧ (-(2 ^ 63) ≤ n ∧ n < 2 ^ 63 ∧ xs.length * n.toNat ≤ sizeLine) ∧ NewQ H fun p => Q (.ref p) (upd H p (.lst (List.replicate n.toNat xs).flatten))) := ⟨fun ⟨xs, h, k, q⟩ => ⟨a, n, xs, rfl, rfl, h, k.1, k.2.1, k.2.2, q⟩⟩
/-- list(x), tuple(x) -/
def LstQ (o : HO) (H : Hp) (Q : VK) : Prop := match o with
  | .tup xs => ∀ a, H a = none → Q (.ref a) (upd H a (.lst xs))
  | .lst xs => ∀ a, H a = none → Q (.ref a) (upd H a (.lst xs))
  | _ => False
def TupQ (o : HO) (H : Hp) (Q : VK) : Prop := match o with
  | .tup xs => ∀ a H', Same H H' → H' a = some (.tup xs) → Q (.ref a) H'
  | .lst xs => ∀ a H', Same H H' → H' a = some (.tup xs) → Q (.ref a) H'
  | _ => False
instance : Step (uLst K [.ref a] H Q) (∃ o, H a = some o ∧ LstQ o H Q) := ⟨fun ⟨o, h, q⟩ => by
  cases o <;> first | exact q.elim | skip
  · exact ⟨a, _, rfl, .inl (.of h), q⟩
  · exact ⟨a, _, rfl, .inr (.of h), q⟩⟩
instance : Step (uTup K [.ref a] H Q) (∃ o, H a = some o ∧ TupQ o H Q) := ⟨fun ⟨o, h, q⟩ => by
  cases o <;> first | exact q.elim | skip
  · exact ⟨a, _, rfl, .inl ⟨.of h, fun l hl => q l _ (Same.new (.refl _) hl) upd_same⟩⟩
  · exact ⟨a, _, rfl, .inr ⟨.of h, q a H (.refl _) h⟩⟩⟩
instance {xs : List V} : Step (LstQ (.tup xs) H Q) (NewQ H fun a => Q (.ref a) (upd H a (.lst xs))) := ⟨fun h => h⟩
instance {xs : List V} : Step (LstQ (.lst xs) H Q) (NewQ H fun a => Q (.ref a) (upd H a (.lst xs))) := ⟨fun h => h⟩
instance {xs : List V} : Step (TupQ (.tup xs) H Q) (SameQ H (.tup xs) fun a H' => Q (.ref a) H') := ⟨fun h => h⟩
instance {xs : List V} : Step (TupQ (.lst xs) H Q) (SameQ H (.tup xs) fun a H' => Q (.ref a) H') := ⟨fun h => h⟩
/-- methods of lists -/
instance : Step (rAppend (.ref l) [y] H Q) (∃ xs, H l = some (.lst xs) ∧ xs.length < sizeLine ∧ Q .non (upd H l (.lst (xs ++ [y])))) := ⟨fun ⟨xs, h, k, q⟩ => ⟨l, xs, y, rfl, rfl, h, k, q⟩⟩
instance : Step (rPop (.ref l) [] H Q) (∃ xs, H l = some (.lst xs) ∧ ∃ y, xs[xs.length - 1]? = some y ∧ Q y (upd H l (.lst xs.dropLast))) := ⟨fun ⟨xs, h, y, k, q⟩ => ⟨l, xs, y, rfl, rfl, h, k, q⟩⟩
instance : Step (rReverse (.ref l) [] H Q) (∃ xs, H l = some (.lst xs) ∧ Q .non (upd H l (.lst xs.reverse))) := ⟨fun ⟨xs, h, q⟩ => ⟨l, xs, rfl, rfl, h, q⟩⟩
instance : Step (rClear (.ref l) [] H Q) (∃ xs, H l = some (.lst xs) ∧ Q .non (upd H l (.lst []))) := ⟨fun ⟨xs, h, q⟩ => ⟨l, xs, rfl, rfl, h, q⟩⟩
instance {k : Int} {R : Hp → Prop} : Step (rSetL (.ref l) (.int k) v H R) (∃ xs, H l = some (.lst xs) ∧ ∃ j, ixN xs.length k = some j ∧ R (upd H l (.lst (xs.set j v)))) := ⟨fun ⟨xs, h, j, k, q⟩ => ⟨l, xs, _, j, rfl, rfl, h, k, q⟩⟩
theorem ex_j {o : Option Nat} {R : Nat → Prop} {j : Nat} (h : o = some j) (r : R j) : ∃ j, o = some j ∧ R j := ⟨j, h, r⟩
theorem ty_list (h : H l = some (.lst xs)) : tyV K "list" (.ref l) H := .inl ⟨rfl, _, .of h⟩
end

/-! ### ways that meet -/
theorem meet {t u : TS} {nx bk ct : L2.St → Hp → Prop} {rt : VK} {σ : L2.St} {H : Hp} (M : L2.St → Hp → Prop) (h1 : t ⟨M, rt, bk, ct⟩ σ H) (h2 : ∀ σ' H', M σ' H' → u ⟨nx, rt, bk, ct⟩ σ' H') : tCutF t u ⟨nx, rt, bk, ct⟩ σ H := ⟨M, h1, h2⟩
/-! ### items at a drawn place -/
theorem atI_range {α : Type} {xs : List α} {i : Int} (h0 : 0 ≤ i) (h1 : i < xs.length) : ∃ v, atI xs i = some v ∧ xs[i.toNat]? = some v ∧ v ∈ xs := by
  have e : i = ((i.toNat : Nat) : Int) := by omega
  have hl : i.toNat < xs.length := by omega
  have q : xs[i.toNat]? = some xs[i.toNat] := List.getElem?_eq_getElem hl
  refine ⟨xs[i.toNat], ?_, q, List.getElem_mem hl⟩
  have z := atI_nat q
  rw [← e] at z
  exact z
theorem ex_pick {xs : List V} {i : Int} {R : V → Prop} (F : V → Prop) (h0 : 0 ≤ i) (h1 : i < xs.length) (all : ∀ v ∈ xs, F v) (k : ∀ v, F v → R v) : ∃ v, atI xs i = some v ∧ R v := by
  obtain ⟨v, e, _, hm⟩ := atI_range h0 h1
  exact ⟨v, e, k v (all v hm)⟩
theorem four {r : Int} (h0 : 0 ≤ r) (h1 : r < 4) : r = 0 ∨ r = 1 ∨ r = 2 ∨ r = 3 := by omega
theorem three {r : Int} (h0 : 0 ≤ r) (h1 : r < 3) : r = 0 ∨ r = 1 ∨ r = 2 := by omega
theorem two {r : Int} (h0 : 0 ≤ r) (h1 : r < 2) : r = 0 ∨ r = 1 := by omega
/-! ### cuts -/
theorem cut_init (xs : List V) : cutV xs none (some (-1)) = xs.take (xs.length - 1) := by
  unfold cutV HT.sIx
  simp only [List.drop_zero]
  rw [if_pos (by decide), show ((-1 : Int) + (xs.length : Int)).toNat = xs.length - 1 by omega, Nat.sub_zero]
theorem cut_from (xs : List V) (k : Nat) : cutV xs (some (k : Int)) none = xs.drop k := by
  unfold cutV HT.sIx
  simp only []
  rw [if_neg (by omega), Int.toNat_natCast]
  by_cases h : k ≤ xs.length
  · rw [Nat.min_eq_left h, List.take_of_length_le (by rw [List.length_drop]; exact Nat.le_refl _)]
  · rw [Nat.min_eq_right (by omega), List.drop_eq_nil_of_le (Nat.le_refl _), List.drop_eq_nil_of_le (by omega), List.take_nil]
theorem cut_from1 (xs : List V) (k : Nat) : cutV xs (some ((k : Int) + 1)) none = xs.drop (k + 1) := cut_from xs (k + 1)
theorem cut_tail (xs : List V) : cutV xs (some 1) none = xs.drop 1 := cut_from xs 1
theorem cut_to (xs : List V) (k : Nat) : cutV xs none (some (k : Int)) = xs.take k := by
  unfold cutV HT.sIx
  simp only [List.drop_zero]
  rw [if_neg (by omega), Int.toNat_natCast, Nat.sub_zero]
  by_cases h : k ≤ xs.length
  · rw [Nat.min_eq_left h]
  · rw [Nat.min_eq_right (by omega), List.take_length, List.take_of_length_le (by omega)]
/-! ### data, piece by piece -/
theorem AtAll.nil {H : Hp} : AtAll H [] [] := rfl
theorem AtAll.cons {H : Hp} {d : PyData} {v : V} {ds : List PyData} {vs : List V} (h : At H d v) (t : AtAll H ds vs) : AtAll H (d :: ds) (v :: vs) := ⟨v, vs, rfl, h, t⟩
theorem at_tup {H : Hp} {a : Addr} {ds : List PyData} {vs : List V} (h : H a = some (.tup vs)) (r : AtAll H ds vs) : At H (.tuple ds) (.ref a) := ⟨a, _, rfl, h, r⟩
theorem at_lst {H : Hp} {a : Addr} {ds : List PyData} {vs : List V} (h : H a = some (.lst vs)) (n : ∀ x, vs ≠ [.int x]) (r : AtAll H ds vs) : At H (.list ds) (.ref a) := ⟨a, _, rfl, h, n, r⟩
end Fl

/-! words of my own, for the steps -/
-- what stands at an address
local macro_rules | `(tactic| walk_at "ne") => `(tactic| first
  | with_reducible assumption
  | (apply Ne.symm; with_reducible assumption)
  | (apply Fl.ne1; · with_reducible assumption
     · walk_at "hp")
  | (apply Fl.ne2; · with_reducible assumption
     · walk_at "hp"))
local macro_rules | `(tactic| walk_at "hp") => `(tactic| first
  | with_reducible assumption
  | with_reducible apply L2.upd_same
  | ((with_reducible apply Fl.hp_new); · with_reducible assumption
     · walk_at "hp")
  | ((with_reducible apply Fl.hp_put); · ((fail_if_success (apply Or.inl; with_reducible assumption)); exact Or.inr True.intro)
     · walk_at "ne"
     · walk_at "hp")
  | ((with_reducible apply Fl.hp_same); · with_reducible assumption
     · walk_at "hp")
  | ((with_reducible apply Fl.hp_gs); · with_reducible assumption
     · walk_at "ne"
     · walk_at "hp"))
-- heaps that grow
local macro_rules | `(tactic| walk_at "fr") => `(tactic| first
  | with_reducible assumption
  | (apply Fl.Same.free1; · with_reducible assumption
     · walk_at "sm")
  | (apply Fl.Gs.free1; · with_reducible assumption
     · walk_at "gs"
     · walk_at "ne"))
local macro_rules | `(tactic| walk_at "sm") => `(tactic| first
  | with_reducible assumption
  | with_reducible apply L2.Same.refl
  | ((with_reducible apply Fl.Same.new1); · with_reducible assumption
     · walk_at "sm")
  | ((with_reducible apply Fl.Same.mut); · walk_at "sm"
     · walk_at "fr")
  | ((with_reducible apply Fl.Same.trans1); · with_reducible assumption
     · walk_at "sm"))
local macro_rules | `(tactic| walk_at "gs") => `(tactic| first
  | with_reducible assumption
  | ((with_reducible apply Fl.Gs.refl); · walk_at "hp")
  | ((with_reducible apply Fl.Gs.put1); · walk_at "gs")
  | ((with_reducible apply Fl.Gs.new1); · with_reducible assumption
     · walk_at "gs")
  | ((with_reducible apply Fl.Gs.trans1); · with_reducible assumption
     · walk_at "gs")
  | ((with_reducible apply Fl.Gs.then1); · with_reducible assumption
     · walk_at "gs")
  | ((with_reducible apply Fl.Gs.mut1); · walk_at "fr"
     · walk_at "ne"
     · walk_at "gs"))
local macro_rules | `(tactic| walk_at "le") => `(tactic| first
  | with_reducible assumption
  | with_reducible apply Fl.Le.refl
  | ((with_reducible apply Fl.Le.new1); · with_reducible assumption
     · walk_at "le")
  | ((with_reducible apply Fl.Le.same1); · with_reducible assumption
     · walk_at "le")
  | ((with_reducible apply Fl.Le.gs1); · with_reducible assumption
     · walk_at "hp"
     · walk_at "le")
  | ((with_reducible apply Fl.Le.put1); · walk_at "hp"
     · walk_at "le"))
local macro_rules | `(tactic| walk_at "lt") => `(tactic| first
  | with_reducible assumption
  | with_reducible apply Fl.LeT.refl
  | ((with_reducible apply Fl.LeT.new1); · with_reducible assumption
     · walk_at "lt")
  | ((with_reducible apply Fl.LeT.same1); · with_reducible assumption
     · walk_at "lt")
  | ((with_reducible apply Fl.LeT.gs1); · with_reducible assumption
     · walk_at "hp"
     · walk_at "lt")
  | ((with_reducible apply Fl.LeT.put1); · walk_at "hp"
     · walk_at "lt"))
local macro_rules | `(tactic| walk_at "at") => `(tactic| first
  | with_reducible assumption
  | with_reducible apply Fl.at_int
  | with_reducible apply Fl.at_bl
  | with_reducible apply Fl.at_str
  | with_reducible apply Fl.at_non
  | ((with_reducible apply Fl.At.le1); · with_reducible assumption
     · walk_at "le"))
local macro_rules | `(tactic| walk_at "scr") => `(tactic| first
  | with_reducible assumption
  | ((with_reducible apply Fl.Scr.le1); · with_reducible assumption
     · walk_at "le"))
-- one step of a reading
local macro_rules | `(tactic| walk_at "cm") => `(tactic| first | exact Or.inr ⟨by decide, by decide⟩ | exact Or.inl ⟨by decide, by decide⟩ | (refine Or.inr ⟨?_, ?_⟩ <;> omega) | (refine Or.inl ⟨?_, ?_⟩ <;> omega) | (refine ⟨?_, ?_, ?_⟩ <;> (first | omega | (simp; done) | (apply Fl.small_of; simp; omega))))
local macro_rules | `(tactic| walk_at "side") => `(tactic| first
  | exact ⟨_, rfl⟩
  | with_reducible assumption
  | ((with_reducible apply Fl.ty_list); walk_at "hp")
  | ((with_reducible apply Fl.small_lt); first | (simp; done) | (simp; omega) | omega)
  | ((with_reducible apply Fl.small_of); first | (simp; done) | (simp; omega) | omega)
  | decide
  | omega
  | exact ⟨by decide, by decide⟩
  | (refine ⟨?_, ?_⟩ <;> omega)
  | walk_at "cm")
local macro_rules | `(tactic| walk_at "sq") => `(tactic| first
  | with_reducible assumption
  | ((with_reducible apply Fl.sq_o); · walk_at "hp"
     · rfl))
local macro_rules | `(tactic| walk_at "typ") => `(tactic| first
  | with_reducible assumption
  | ((with_reducible apply Fl.typ_at); · walk_at "at")
  | ((with_reducible apply Fl.typ_o); · walk_at "hp"
     · rfl))
local macro_rules | `(tactic| walk_at "s1") => `(tactic| first
  | with_reducible apply Fl.step
  | ((with_reducible apply Fl.r_var); · rfl)
  | ((with_reducible apply Fl.and_new); · (apply Fl.small_of; simp; done)
     intro _ _)
  | ((with_reducible apply Fl.ex_sq); · walk_at "sq")
  | ((with_reducible apply Fl.ex_v); · rfl)
  | ((with_reducible apply Fl.ex_typ); · walk_at "typ")
  | ((with_reducible apply Fl.ex_xs); · walk_at "hp")
  | ((with_reducible apply Fl.ex_bs); · walk_at "hp")
  | ((with_reducible apply Fl.ex_ns); · walk_at "hp")
  | ((with_reducible apply Fl.ex_o); · walk_at "hp")
  | ((with_reducible apply Fl.ex_at); · walk_at "at")
  | ((with_reducible apply Fl.ex_j); · rfl)
  | ((with_reducible apply And.intro); · walk_at "side")
  | ((with_reducible apply Fl.in_same); intro _ _ _ _)
  | ((with_reducible apply Fl.in_new); intro _ _)
  | ((with_reducible apply Fl.in_sm); intro _ _)
  | ((with_reducible apply Fl.in_gs); intro _ _; obtain ⟨_, _⟩ := Fl.Gs.st (by with_reducible assumption : Fl.Gs _ _ _))
  | ((with_reducible apply Fl.in_num); intro _ _ _ _ _; obtain ⟨_, _⟩ := Fl.Gs.st (by with_reducible assumption : Fl.Gs _ _ _))
  | ((with_reducible apply Fl.in_drw); intro _ _ _ _ _; obtain ⟨_, _⟩ := Fl.Gs.st (by with_reducible assumption : Fl.Gs _ _ _))
  | ((with_reducible apply Fl.in_mad); intro _ _ _ _ _)
  | ((with_reducible apply Fl.in_mix); intro _ _ _)
  | ((with_reducible apply Fl.in_int); intro _)
  | ((with_reducible apply Fl.ex_scr); · walk_at "scr")
  | ((with_reducible apply Fl.in_next); intro _ _ _ _)
  | ((with_reducible apply Fl.if_t); · rfl)
  | ((with_reducible apply Fl.if_f); · rfl))
local macro_rules | `(tactic| walk_at "s") => `(tactic| repeat walk_at "s1")
-- an if whose answer omega knows
local macro_rules | `(tactic| walk_at "yes") => `(tactic| first | refine Fl.if_dt (by first | with_reducible assumption | omega | decide) ?_ | refine Fl.if_nt (by first | with_reducible assumption | omega | decide) ?_)
local macro_rules | `(tactic| walk_at "no") => `(tactic| first | refine Fl.if_df (by first | with_reducible assumption | omega | decide) ?_ | refine Fl.if_nf (by first | with_reducible assumption | omega | decide) ?_)
-- data, piece by piece
local macro_rules | `(tactic| walk_at "at2") => `(tactic| first
  | walk_at "at"
  | ((with_reducible apply Fl.at_tup); · walk_at "hp"
     · walk_at "al")
  | ((with_reducible apply Fl.at_lst); · walk_at "hp"
     · intro z hz; simp at hz; done
     · walk_at "al"))
local macro_rules | `(tactic| walk_at "al") => `(tactic| first
  | with_reducible assumption
  | exact Fl.AtAll.nil
  | ((with_reducible apply Fl.AtAll.cons); · walk_at "at2"
     · walk_at "al")
  | ((with_reducible apply Fl.AtAll.le1); · with_reducible assumption
     · walk_at "le"))
/-! the text by places -/
namespace Fl
open PySem PySem.Spec PyProof.Rows L2
def topS (i : Nat) : Stmt := PySem.Challenge.pw_formlines_k09_whole_choices.main.body.getD i (.Pass ⟨0, 0, 0, 0⟩)
end Fl
-- after:
namespace Fl
open PySem PySem.Spec PyProof.Rows L2 RZ
/-! ### what the tables' defs say -/
def isWhole (d : PyData) (lo hi : Int) : Bool := match d with
  | .int i => decide (lo ≤ i) && decide (i ≤ hi)
  | _ => false
def big : Int := 1000000000
def isNumber (d : PyData) : Bool := isWhole d (-1000000000) 1000000000
section
variable {P : Program} {w : World} {K : PySem.W.Frag} {mg : Str → Option Value} {base : Heap}
abbrev s_is_whole : Stmt := topS 14
theorem sc_is_whole : FnScope ["thing", "least", "most"] ["thing", "least", "most"] (defScope s_is_whole) := ⟨rfl, rfl, rfl, by decide +kernel, rfl, by decide +kernel, by decide +kernel⟩
def sp_is_whole : Sp3 := fun a b c H Q _ => ∃ d lo hi, At H d a ∧ b = .int lo ∧ c = .int hi ∧ Q (.bl (isWhole d lo hi)) H
theorem ok_is_whole (M : Mg mg) (D : DefAt K mg "is_whole" s_is_whole ["thing", "least", "most"]) : Has P w K mg base "is_whole" ["thing", "least", "most"] 1 (sp3 sp_is_whole) := by
  refine .mk3 D sc_is_whole fun f cdv A outer s H a b c Q E hr h => ⟨_, (pss_one (ps_ret (pe_and (pe_callB (k_isi K rfl) (by rfl) M.isinstance (by decide +kernel) (pa_cons (pv 0) (pa_cons (pe_bltn (v := .ty "int") (by rfl) M.int (by decide +kernel) rfl) pa_nil))) (pe_and (pe_not (pe_callB (k_isi K rfl) (by rfl) M.isinstance (by decide +kernel) (pa_cons (pv 0) (pa_cons (pe_bltn (v := .ty "bool") (by rfl) M.bool (by decide +kernel) rfl) pa_nil)))) (pe_one (pe_chain o_le o_le (pv 1) (pv 0) (pv 2))))))), ?_⟩
  obtain ⟨d, lo, hi, hd, rfl, rfl, q⟩ := h
  refine Fl.go_start (σ0 := [some _, some _, some _]) rfl ?_
  cases d <;> first | exact hd.elim | skip
  all_goals try (cases (show _ = _ from hd))
  case int =>
    rename_i i
    walk_at "s"
    refine if_d (fun c1 => ?_) (fun c1 => ?_)
    · walk_at "s"
      have e : isWhole (.int i) lo hi = decide (i ≤ hi) := by simp [isWhole, c1]
      rw [e] at q
      exact q
    · have e : isWhole (.int i) lo hi = false := by simp [isWhole, c1]
      rw [e] at q
      exact q
  all_goals (walk_at "s"; exact q)
instance {H : Hp} {Q : VK} {E : XK} {v : V} {lo hi : Int} : Step (sp_is_whole v (.int lo) (.int hi) H Q E) (∃ d, At H d v ∧ Q (.bl (isWhole d lo hi)) H) := ⟨fun ⟨d, h, q⟩ => ⟨d, _, _, h, rfl, rfl, q⟩⟩
abbrev s_is_number : Stmt := topS 15
theorem sc_is_number : FnScope ["thing"] ["thing"] (defScope s_is_number) := ⟨rfl, rfl, rfl, by decide +kernel, rfl, by decide +kernel, by decide +kernel⟩
def sp_is_number : Sp1 := fun a H Q _ => ∃ d, At H d a ∧ Q (.bl (isNumber d)) H
theorem ok_is_number (M : Mg mg) (c_GREATEST : ∃ t, mg "GREATEST" = some (.int 1000000000 t)) (G_is_whole : Has P w K mg base "is_whole" ["thing", "least", "most"] 1 (sp3 sp_is_whole)) (D : DefAt K mg "is_number" s_is_number ["thing"]) :
    Has P w K mg base "is_number" ["thing"] 2 (sp1 sp_is_number) := by
  refine .mk1 D sc_is_number fun f cdv A outer s H a Q E hr h => ⟨_, (pss_one (ps_ret (pe_own G_is_whole (hr.mono (by first | decide | omega)) (by rfl) p_body (pa_cons (pv 0) (pa_cons (pe_un o_neg (pe_gi (by rfl) c_GREATEST)) (pa_cons (pe_gi (by rfl) c_GREATEST) pa_nil)))))), ?_⟩
  obtain ⟨d, hd, q⟩ := h
  refine Fl.go_start (σ0 := [some _]) rfl ?_
  walk_at "s"
  exact q
instance {H : Hp} {Q : VK} {E : XK} {v : V} : Step (sp_is_number v H Q E) (∃ d, At H d v ∧ Q (.bl (isNumber d)) H) := ⟨fun h => h⟩
end
end Fl

-- after:
namespace Fl
open PySem PySem.Spec PyProof.Rows L2 RZ
/-! ### texts, walked; lists against the empty list -/
section
variable {σ : L2.St} {H : Hp} {nx bk ct : L2.St → Hp → Prop} {rt : VK} {Q : VK} {te : TE} {tb : TS} {g : TG} {tt : TT} {K : PySem.W.Frag} {vs : List Nat}
def uInSign : R2 := fun x y H Q => match x, y with
  | .str a, .str z => ∃ c : Nat, a = ⟨#[c]⟩ ∧ Q (.bl (decide (c ∈ z.cps.toList))) H
  | _, _ => False
theorem o_in_sign {X : Cx} : OpR X (compareOp .In) uInSign := by
  intro pins s σ H x y v u Q I rx ry h
  cases x <;> first | exact h.elim | skip
  cases y <;> first | exact h.elim | skip
  obtain ⟨c, rfl, q⟩ := h
  exact op_in_sign pins s σ H _ _ v u Q I rx ry ⟨c, _, rfl, rfl, q⟩
def uNotInSign : R2 := fun x y H Q => match x, y with
  | .str a, .str z => ∃ c : Nat, a = ⟨#[c]⟩ ∧ Q (.bl (!decide (c ∈ z.cps.toList))) H
  | _, _ => False
theorem o_notIn_sign {X : Cx} : OpR X (compareOp .NotIn) uNotInSign := by
  intro pins s σ H x y v u Q I rx ry h
  cases x <;> first | exact h.elim | skip
  cases y <;> first | exact h.elim | skip
  obtain ⟨c, rfl, q⟩ := h
  exact op_notIn_sign pins s σ H _ _ v u Q I rx ry ⟨c, _, rfl, rfl, q⟩
instance {c : Nat} {z : Str} : Step (uInSign (.str ⟨#[c]⟩) (.str z) H Q) (Q (.bl (decide (c ∈ z.cps.toList))) H) := ⟨fun h => ⟨c, rfl, h⟩⟩
instance {c : Nat} {z : Str} : Step (uNotInSign (.str ⟨#[c]⟩) (.str z) H Q) (Q (.bl (!decide (c ∈ z.cps.toList))) H) := ⟨fun h => ⟨c, rfl, h⟩⟩
/-- a list against the empty list, at any depth -/
def uNeE (K : PySem.W.Frag) : R2 := fun x y H Q => ∃ a b ds vs, x = .ref a ∧ y = .ref b ∧ H b = some (.lst []) ∧ H a = some (.lst vs) ∧ DpAll K H vs ds ∧ PyData.canLayAll0 ds = true ∧ Q (.bl (!vs.isEmpty)) H
theorem eqv_nil (ds : List PyData) : PyData.eqv (.list ds) (.list []) = ds.isEmpty := by
  cases ds <;> simp [PyData.eqv, PyData.eqvAll]
theorem dpAll_empty {vs : List V} {ds : List PyData} (h : DpAll K H vs ds) : vs.isEmpty = ds.isEmpty := by
  cases h <;> rfl
theorem k_neE (K : PySem.W.Frag) {X : Cx} (h : X.K = K) {k : Nat} (hr : Room k X.A) : OpR X (compareOp .NotEq) (uNeE K) := by
  subst h
  intro pins s σ H x y v u Q I rx ry h
  obtain ⟨a, b, ds, vs, rfl, rfl, hb, ha, hd, hl, q⟩ := h
  obtain ⟨as, r1⟩ := Dp.reads I (.list ds) (.ref a) v (.lst (.of ha) hd) rx
  obtain ⟨bs, r2⟩ := Dp.reads I (.list []) (.ref b) u (.lst (.of hb) .nil) ry
  have hu := hr.units
  refine SeqAt.compareNe_reads r1 r2 (by simpa [PyData.canLay0] using hl) (by simp [PyData.canLay0, PyData.canLayAll0]) ?_ ⟨.bl _, H, I, rfl, ?_⟩
  · have : min (PyData.depth (.list ds)) (PyData.depth (.list [])) ≤ PyData.depth (.list []) := Nat.min_le_right _ _
    have e : PyData.depth (.list []) = 1 := by simp [PyData.depth, PyData.depthAll]
    omega
  · rw [eqv_nil, ← dpAll_empty hd]
    exact q
theorem ne_e {a b : Addr} {ds : List PyData} {vs : List V} (hb : H b = some (.lst [])) (ha : H a = some (.lst vs)) (hd : DpAll K H vs ds) (hl : PyData.canLayAll0 ds = true) (q : Q (.bl (!vs.isEmpty)) H) : uNeE K (.ref a) (.ref b) H Q :=
  ⟨a, b, ds, vs, rfl, rfl, hb, ha, hd, hl, q⟩
def uEqE (K : PySem.W.Frag) : R2 := fun x y H Q => ∃ a b ds vs, x = .ref a ∧ y = .ref b ∧ H b = some (.lst []) ∧ H a = some (.lst vs) ∧ DpAll K H vs ds ∧ PyData.canLayAll0 ds = true ∧ Q (.bl vs.isEmpty) H
theorem k_eqE (K : PySem.W.Frag) {X : Cx} (h : X.K = K) {k : Nat} (hr : Room k X.A) : OpR X (compareOp .Eq) (uEqE K) := by
  subst h
  intro pins s σ H x y v u Q I rx ry h
  obtain ⟨a, b, ds, vs, rfl, rfl, hb, ha, hd, hl, q⟩ := h
  obtain ⟨as, r1⟩ := Dp.reads I (.list ds) (.ref a) v (.lst (.of ha) hd) rx
  obtain ⟨bs, r2⟩ := Dp.reads I (.list []) (.ref b) u (.lst (.of hb) .nil) ry
  have hu := hr.units
  refine SeqAt.compareEq_reads r1 r2 (by simpa [PyData.canLay0] using hl) (by simp [PyData.canLay0, PyData.canLayAll0]) ?_ ⟨.bl _, H, I, rfl, ?_⟩
  · have : min (PyData.depth (.list ds)) (PyData.depth (.list [])) ≤ PyData.depth (.list []) := Nat.min_le_right _ _
    have e : PyData.depth (.list []) = 1 := by simp [PyData.depth, PyData.depthAll]
    omega
  · rw [eqv_nil, ← dpAll_empty hd]
    exact q
theorem eq_e {a b : Addr} {ds : List PyData} {vs : List V} (hb : H b = some (.lst [])) (ha : H a = some (.lst vs)) (hd : DpAll K H vs ds) (hl : PyData.canLayAll0 ds = true) (q : Q (.bl vs.isEmpty) H) : uEqE K (.ref a) (.ref b) H Q :=
  ⟨a, b, ds, vs, rfl, rfl, hb, ha, hd, hl, q⟩
theorem dpAll_ints : ∀ ns : List Int, DpAll K H (ns.map V.int) (ns.map PyData.int)
  | [] => .nil
  | n :: r => .cons (.int n) (dpAll_ints r)
theorem lay_ints : ∀ ns : List Int, PyData.canLayAll0 (ns.map PyData.int) = true
  | [] => rfl
  | n :: r => by simp [PyData.canLayAll0, PyData.canLay0, lay_ints r]
theorem eq_eI {a b : Addr} {ns : List Int} (hb : H b = some (.lst [])) (ha : H a = some (.lst (ns.map V.int))) (q : Q (.bl ns.isEmpty) H) : uEqE K (.ref a) (.ref b) H Q :=
  eq_e hb ha (dpAll_ints ns) (lay_ints ns) (by rw [List.isEmpty_map]; exact q)
theorem ne_eI {a b : Addr} {ns : List Int} (hb : H b = some (.lst [])) (ha : H a = some (.lst (ns.map V.int))) (q : Q (.bl (!ns.isEmpty)) H) : uNeE K (.ref a) (.ref b) H Q :=
  ne_e hb ha (dpAll_ints ns) (lay_ints ns) (by rw [List.isEmpty_map]; exact q)
instance {z : Str} {S : Str → Prop} : Step (∃ x, V.str z = .str x ∧ S x) (S z) := ⟨fun h => ⟨_, rfl, h⟩⟩
theorem atI_0 {x : V} {xs : List V} : atI (x :: xs) 0 = some x := atI_nat (j := 0) rfl
theorem atI_1 {x y : V} {xs : List V} : atI (x :: y :: xs) 1 = some y := atI_nat (j := 1) rfl
theorem atI_2 {x y z : V} {xs : List V} : atI (x :: y :: z :: xs) 2 = some z := atI_nat (j := 2) rfl
theorem atI_3 {x y z u : V} {xs : List V} : atI (x :: y :: z :: u :: xs) 3 = some u := atI_nat (j := 3) rfl
instance {x : V} {xs : List V} {S : V → Prop} : Step (∃ v, atI (x :: xs) 0 = some v ∧ S v) (S x) := ⟨fun h => ⟨_, atI_0, h⟩⟩
instance {x y : V} {xs : List V} {S : V → Prop} : Step (∃ v, atI (x :: y :: xs) 1 = some v ∧ S v) (S y) := ⟨fun h => ⟨_, atI_1, h⟩⟩
instance {x y z : V} {xs : List V} {S : V → Prop} : Step (∃ v, atI (x :: y :: z :: xs) 2 = some v ∧ S v) (S z) := ⟨fun h => ⟨_, atI_2, h⟩⟩
instance {x y z u : V} {xs : List V} {S : V → Prop} : Step (∃ v, atI (x :: y :: z :: u :: xs) 3 = some v ∧ S v) (S u) := ⟨fun h => ⟨_, atI_3, h⟩⟩
instance {n : Nat} {t : TGs} {a : Addr} {R : L2.St → Hp → Prop} : Step (gTup K n t (.ref a) σ H R) (∃ o, H a = some o ∧ ∃ xs, o = .tup xs ∧ xs.length = n ∧ t xs σ H R) := ⟨fun ⟨o, h, xs, e, l, q⟩ => ⟨a, xs, rfl, .of (by rw [h, e]), l, q⟩⟩
instance {xs : List V} {S : List V → Prop} : Step (∃ ys, HO.tup xs = HO.tup ys ∧ S ys) (S xs) := ⟨fun h => ⟨_, rfl, h⟩⟩
instance {t : TG} {u : TGs} {v : V} {r : List V} {R : L2.St → Hp → Prop} : Step (gCons t u (v :: r) σ H R) (t v σ H fun σ' H' => u r σ' H' R) := ⟨fun h => ⟨v, r, rfl, h⟩⟩
instance {R : L2.St → Hp → Prop} : Step (gNil [] σ H R) (R σ H) := ⟨fun h => ⟨rfl, h⟩⟩
instance {R : It → Hp → Prop} : Step (iStr te σ H R) (te σ H fun v H1 => ∃ x, v = .str x ∧ R (Its x) H1) := ⟨fun h => h⟩
theorem for_str {x : Str} (Pv : Nat → L2.St → Hp → Prop) (h0 : Pv 0 σ H)
    (hs : ∀ (i c : Nat) σ H, x.cps[i]? = some c → Pv i σ H → g (.str ⟨#[c]⟩) σ H fun σ2 H2 => tb ⟨Pv (i + 1), rt, nx, Pv (i + 1)⟩ σ2 H2) (hd : ∀ σ H, Pv x.cps.size σ H → nx σ H) : forG g tb ⟨nx, rt, bk, ct⟩ σ (Its x) H := by
  refine ⟨fun i m σ H => m = x.cps.size - i ∧ i ≤ x.cps.size ∧ Pv i σ H, ⟨x.cps.size, by simp, Nat.zero_le _, h0⟩, ?_⟩
  rintro i m σ H ⟨rfl, hi, p⟩
  by_cases hlt : i < x.cps.size
  · refine .inr ⟨hlt, Pv (i + 1), fun σ' H' p' => ⟨x.cps.size - (i + 1), by omega, rfl, hlt, p'⟩, fun y H' z => ?_⟩
    obtain ⟨e, c, ec, z⟩ := z
    subst e z
    exact hs i c σ _ ec p
  · have e : i = x.cps.size := by omega
    subst e
    exact .inl ⟨Nat.le_refl _, hd σ H p⟩
theorem lc_str {x : Str} (Pv : Addr → Nat → Hp → Prop) (h0 : ∀ D, H D = none → Pv D 0 (upd H D (.lst [])))
    (hs : ∀ D (i c : Nat) H', H D = none → x.cps[i]? = some c → Pv D i H' → g (.str ⟨#[c]⟩) (wipe σ vs) H' fun σ2 H2 => wipe σ2 vs = wipe σ vs ∧ tt σ2 H2 fun b H3 =>
      if b = true then te σ2 H3 fun y H4 => ∃ acc, H4 D = some (.lst acc) ∧ acc.length < sizeLine ∧ Pv D (i + 1) (upd H4 D (.lst (acc ++ [y]))) else Pv D (i + 1) H3)
    (hd : ∀ D H', H D = none → Pv D x.cps.size H' → Q (.ref D) H') : lcG g tt te vs σ Q (Its x) H := by
  intro D hD
  refine ⟨fun i m H => m = x.cps.size - i ∧ i ≤ x.cps.size ∧ Pv D i H, ⟨x.cps.size, by simp, Nat.zero_le _, h0 D hD⟩, ?_⟩
  rintro i m H' ⟨rfl, hi, p⟩
  by_cases hlt : i < x.cps.size
  · refine .inr ⟨hlt, Pv D (i + 1), fun H' p' => ⟨x.cps.size - (i + 1), by omega, rfl, hlt, p'⟩, fun y H' z => ?_⟩
    obtain ⟨e, c, ec, z⟩ := z
    subst e z
    exact hs D i c _ hD ec p
  · have e : i = x.cps.size := by omega
    subst e
    exact .inl ⟨Nat.le_refl _, hd D H' hD p⟩
theorem lc_seqS {x : Str} {j : Nat} (ys : List V) (hy : ys.length = x.cps.size) (hl : ys.length < 100000) (hw : ∀ x, wipe ((wipe σ vs).set j (some x)) vs = wipe σ vs)
    (hs : ∀ (i c : Nat) y H', x.cps[i]? = some c → ys[i]? = some y → Same H H' → Pure te ((wipe σ vs).set j (some (.str ⟨#[c]⟩))) H' y) (hd : ∀ D H', H D = none → Same H H' → H' D = some (.lst ys) → Q (.ref D) H') : lcG (gName j) tYes te vs σ Q (Its x) H := by
  refine lc_str (fun D i H' => H' D = some (.lst (ys.take i)) ∧ Same H H') (fun D hD => ⟨upd_same, Same.new (.refl _) hD⟩) (fun D i c H' hD e p => ?_) fun D H' hD p => ?_
  · have hi : i < ys.length := by
      rw [hy]
      exact (Array.getElem?_eq_some_iff.mp e).1
    exact pure_step hl hw hD (List.getElem?_eq_getElem hi) p (hs i c _ H' e (List.getElem?_eq_getElem hi) p.2)
  · refine hd D H' hD p.2 ?_
    rw [← hy, List.take_length] at p
    exact p.1
/-- min, max of two; list(range(..)) -/
def uMin2 : List V → Hp → VK → Prop := fun xs H Q => ∃ i j, xs = [.int i, .int j] ∧ Q (.int (if j < i then j else i)) H
theorem c_min2 {X : Cx} (hc : X.calm = true) : CallR X (.builtin "min") uMin2 := call_min2 hc
instance {i j : Int} : Step (uMin2 [.int i, .int j] H Q) (Q (.int (if j < i then j else i)) H) := ⟨fun h => ⟨_, _, rfl, h⟩⟩
def uMax2 : List V → Hp → VK → Prop := fun xs H Q => ∃ i j, xs = [.int i, .int j] ∧ Q (.int (if j > i then j else i)) H
theorem c_max2 {X : Cx} (hc : X.calm = true) : CallR X (.builtin "max") uMax2 := call_max2 hc
instance {i j : Int} : Step (uMax2 [.int i, .int j] H Q) (Q (.int (if j > i then j else i)) H) := ⟨fun h => ⟨_, _, rfl, h⟩⟩
instance {tr : L2.St → Hp → (Int → Int → Hp → Prop) → Prop} : Step (tLstRg tr σ H Q) (tr σ H fun a b H1 => RgOk a b ∧ ∀ q, H1 q = none → Q (.ref q) (upd H1 q (.lst (rgV a b)))) := ⟨fun h => h⟩
instance {R : Int → Int → Hp → Prop} : Step (tRg1 te σ H R) (te σ H fun x H1 => ∃ n, x = .int n ∧ R 0 n H1) := ⟨fun h => h⟩
instance {tf : TE} {R : Int → Int → Hp → Prop} : Step (tRg2 te tf σ H R) (te σ H fun x H1 => tf σ H1 fun y H2 => ∃ i j, x = .int i ∧ y = .int j ∧ R i j H2) := ⟨fun h => h⟩
/-- a statement that is never come to -/
def tNo : TS := fun _ _ _ => False
theorem ps_no {X : Cx} {st : Stmt} : PS X st tNo := ⟨fun _ _ _ _ _ _ h => h.elim⟩
end
end Fl

-- after: wn.tpl ext.tpl
namespace Fl
open PySem PySem.Spec PyProof.Rows L2 RZ
/-! ### rules as data -/
def letters : Str := "abcdefghijklmnopqrstuvwxyz"
def isWord : PyData → Bool
  | .str x => decide (1 ≤ x.length) && decide (x.length ≤ 8) && x.cps.toList.all fun c => decide (c ∈ letters.cps.toList)
  | _ => false
/-! data of short texts -/
mutual
def okD : PyData → Bool
  | .none | .bool _ | .int _ => true
  | .str x => (PyData.str x).canLay0 && decide (x.length ≤ 1000)
  | .list ds | .tuple ds => okAll ds
  | .dict _ => false
def okAll : List PyData → Bool
  | [] => true
  | d :: ds => okD d && okAll ds
end
mutual
theorem okD_lay : ∀ d : PyData, okD d = true → d.canLay0 = true
  | .none, _ | .bool _, _ | .int _, _ => by simp [PyData.canLay0]
  | .str x, h => by
    simp only [okD, Bool.and_eq_true] at h
    exact h.1
  | .list ds, h | .tuple ds, h => by
    simp only [okD] at h
    simp only [PyData.canLay0]
    exact okAll_lay ds h
  | .dict _, h => by simp [okD] at h
theorem okAll_lay : ∀ ds : List PyData, okAll ds = true → PyData.canLayAll0 ds = true
  | [], _ => rfl
  | d :: ds, h => by
    simp only [okAll, Bool.and_eq_true] at h
    simp only [PyData.canLayAll0, Bool.and_eq_true]
    exact ⟨okD_lay d h.1, okAll_lay ds h.2⟩
end
theorem okAll_mem {ds : List PyData} (h : okAll ds = true) {d : PyData} (m : d ∈ ds) : okD d = true := by
  induction ds with
  | nil => cases m
  | cons e r ih =>
    simp only [okAll, Bool.and_eq_true] at h
    rcases List.mem_cons.mp m with z | z
    · rw [z]; exact h.1
    · exact ih h.2 z
theorem okAll_of {ds : List PyData} (h : ∀ d ∈ ds, okD d = true) : okAll ds = true := by
  induction ds with
  | nil => rfl
  | cons e r ih =>
    simp only [okAll, Bool.and_eq_true]
    exact ⟨h e (List.mem_cons_self ..), ih fun d m => h d (List.mem_cons_of_mem _ m)⟩
theorem okD_len {x : Str} (h : okD (.str x) = true) : x.length ≤ 1000 := by
  simp only [okD, Bool.and_eq_true] at h
  exact of_decide_eq_true h.2
/-- which parts of a rule are rules (counted in the whole, the word being 0) -/
def placesOf (T C : Int) (w : Str) (ds : List PyData) : Option (List Int) :=
  if (w = "add" ∨ w = "take" ∨ w = "least" ∨ w = "most") ∧ ds.length = 2 then some [1, 2]
  else if w = "part" ∧ ds.length = 2 ∧ isWhole (ds.getD 1 .none) 0 100 = true then some [1]
  else if w = "table" ∧ ds.length = 2 ∧ isWhole (ds.getD 0 .none) 0 (T - 1) = true then some [2]
  else if w = "where" ∧ ds.length = 3 then some [1, 2, 3]
  else if w = "choose" ∧ ds.length = 3 ∧ isWhole (ds.getD 0 .none) 0 (C - 1) = true then some [2, 3]
  else none
def isPlain (L : Int) (w : Str) (ds : List PyData) : Bool :=
  if w = "number" then decide (ds.length = 1) && isNumber (ds.getD 0 .none)
  else if w = "paper" then decide (ds.length = 1) && isWord (ds.getD 0 .none)
  else (decide (w = "line") || decide (w = "earlier")) && decide (ds.length = 1) && isWhole (ds.getD 0 .none) 0 (L - 1)
theorem inV_str {w a : Str} {xs : List V} : inV (.str w) (.str a :: xs) = (decide (w = a) || inV (.str w) xs) := by
  have e : (a == w) = decide (w = a) := by
    by_cases h : w = a
    · subst h; simp
    · rw [decide_eq_false h]
      exact beq_false_of_ne (Ne.symm h)
  show (eqV (.str a) (.str w) || inV (.str w) xs) = _
  rw [← e]
  rfl
theorem inV_nil {x : V} : inV x [] = false := rfl
section
variable {P : Program} {w : World} {K : PySem.W.Frag} {mg : Str → Option Value} {base : Heap}
instance {H : Hp} {Q : VK} {w : Str} {p : Addr} : Step (uIn K (.str w) (.ref p) H Q) (∃ xs, IsSq K H p xs ∧ xs.all flatV = true ∧ Q (.bl (inV (.str w) xs)) H) := ⟨fun ⟨xs, h, f, q⟩ => .inl ⟨p, xs, rfl, h, rfl, f, q⟩⟩
instance {H : Hp} {Q : VK} {w : Str} {p : Addr} : Step (uNotIn K (.str w) (.ref p) H Q) (∃ xs, IsSq K H p xs ∧ xs.all flatV = true ∧ Q (.bl (!inV (.str w) xs)) H) := ⟨fun ⟨xs, h, f, q⟩ => .inl ⟨p, xs, rfl, h, rfl, f, q⟩⟩
abbrev s_is_word : Stmt := topS 23
theorem sc_is_word : FnScope ["thing", "sign"] ["thing"] (defScope s_is_word) := ⟨rfl, rfl, rfl, by decide +kernel, rfl, by decide +kernel, by decide +kernel⟩
def sp_is_word : Sp1 := fun a H Q _ => ∃ d, At H d a ∧ okD d = true ∧ ∀ H', Same H H' → Q (.bl (isWord d)) H'
instance {H : Hp} {Q : VK} {E : XK} {v : V} : Step (sp_is_word v H Q E) (∃ d, At H d v ∧ okD d = true ∧ SmQ H fun H' => Q (.bl (isWord d)) H') := ⟨fun h => h⟩
theorem ok_is_word (M : Mg mg) (c_LONGEST : ∃ t, mg "LONGEST" = some (.int 8 t)) (c_LETTERS : ∃ t, mg "LETTERS" = some (.str letters t)) (D : DefAt K mg "is_word" s_is_word ["thing"]) :
    Has P w K mg base "is_word" ["thing"] 1 (sp1 sp_is_word) := by
  refine .mk1 D sc_is_word fun f cdv A outer s H a Q E hr h => ⟨_, (pss_cons (ps_if (PW.pt (pw_or (pt_not (pt_val (pe_callB (k_isi K rfl) (by rfl) M.isinstance (by decide +kernel) (pa_cons (pv 0) (pa_cons (pe_bltn (v := .ty "str") (by rfl) M.str (by decide +kernel) rfl) pa_nil))))) (pw_or (pt_cmpR o_lt (pe_callB (k_len K rfl) (by rfl) M.len (by decide +kernel) (pa_cons (pv 0) pa_nil)) pe_int (nomark _)) (pw_or1 (pt_cmpR o_gt (pe_callB (k_len K rfl) (by rfl) M.len (by decide +kernel) (pa_cons (pv 0) pa_nil)) (pe_gi (by rfl) c_LONGEST) (nomark _)))))) (pss_one (ps_ret pe_bl)) pss_nil)
    (pss_one (ps_ret (pe_callB (k_all K rfl rfl) (by rfl) M.all (by decide +kernel) (pa_cons (pe_lc (own := [("sign", 1)]) (g := gName 1) (by rfl) sc_is_word.nd (pi_str (pv 0)) (blkOk_by (N := ["thing", "sign"]) (sc := (defScope s_is_word)) (own := [("sign", 1)]) (by decide +kernel)) (fun _ _ _ _ _ => (pg_name (i := 1) sc_is_word.nd rfl (by first | exact Or.inl rfl | exact Or.inr rfl))) (fun _ _ _ _ _ => pts_nil) (fun _ _ _ _ _ => (pe_cmpR o_in_sign (pv 1) (pe_gs (by rfl) c_LETTERS) (by rfl)))) pa_nil))))), ?_⟩
  obtain ⟨d, hd, ok, q⟩ := h
  refine Fl.go_start (σ0 := [some _, none]) rfl ?_
  cases d <;> first | exact hd.elim | skip
  all_goals try (cases (show _ = _ from hd))
  case str =>
    rename_i x
    have l := okD_len ok
    have l2 : x.length ≤ sizeLine := small_of (by omega)
    walk_at "s"
    refine if_d (fun c => ?_) (fun c => ?_)
    · walk_at "s"
      have e : isWord (.str x) = false := by simp [isWord, show ¬ 1 ≤ x.length by omega]
      rw [e] at q
      exact q _ (.refl _)
    walk_at "s"
    refine if_d (fun c => ?_) (fun c => ?_)
    · walk_at "s"
      have e : isWord (.str x) = false := by simp [isWord, show ¬ x.length ≤ 8 by omega]
      rw [e] at q
      exact q _ (.refl _)
    walk_at "s"
    have lx : x.length = x.cps.toList.length := by simp [Str.length]
    refine lc_seqS ((x.cps.toList.map fun c => decide (c ∈ letters.cps.toList)).map V.bl) (by simp) (by simp; simp at lx; omega) (fun _ => rfl) (fun i c y H' ex ey sm R hR => ?_) (fun D1 H1 hD1 sm1 eD1 => ?_)
    · have e : y = .bl (decide (c ∈ letters.cps.toList)) := by
        rw [List.getElem?_map, List.getElem?_map, Array.getElem?_toList, ex] at ey
        exact (Option.some.inj ey).symm
      subst e
      walk_at "s"
      exact hR _ (.refl _)
    walk_at "s"
    have e : isWord (.str x) = (x.cps.toList.map fun c => decide (c ∈ letters.cps.toList)).all id := by
      simp [isWord, show 1 ≤ x.length by omega, show x.length ≤ 8 by omega, List.all_map]
    rw [e] at q
    exact q _ sm1
  all_goals (walk_at "s"; exact q _ (.refl _))
abbrev s_is_plain : Stmt := topS 24
theorem sc_is_plain : FnScope ["rule", "lines"] ["rule", "lines"] (defScope s_is_plain) := ⟨rfl, rfl, rfl, by decide +kernel, rfl, by decide +kernel, by decide +kernel⟩
/-- a tuple with a text first -/
def WRule (H : Hp) (a : V) (w : Str) (ds : List PyData) : Prop := ∃ p vs, a = .ref p ∧ H p = some (.tup (.str w :: vs)) ∧ AtAll H ds vs ∧ okAll ds = true
def sp_is_plain : Sp2 := fun a b H Q _ => ∃ w ds L, WRule H a w ds ∧ b = .int L ∧ ∀ H', Same H H' → Q (.bl (isPlain L w ds)) H'
theorem ok_is_plain (M : Mg mg) (G_is_whole : Has P w K mg base "is_whole" ["thing", "least", "most"] 1 (sp3 sp_is_whole)) (G_is_number : Has P w K mg base "is_number" ["thing"] 2 (sp1 sp_is_number)) (G_is_word : Has P w K mg base "is_word" ["thing"] 1 (sp1 sp_is_word))
    (D : DefAt K mg "is_plain" s_is_plain ["rule", "lines"]) : Has P w K mg base "is_plain" ["rule", "lines"] 3 (sp2 sp_is_plain) := by
  refine .mk2 D sc_is_plain fun f cdv A outer s H a b Q E hr h => ⟨_, (pss_cons (ps_if (pt_cmpR (k_eq K rfl hr) (pe_ix (k_ix K rfl) (pv 0) pe_int (fun _ _ => rfl)) pe_str (nomark _)) (pss_one (ps_ret (pe_and (pe_cmpR (k_eq K rfl hr) (pe_callB (k_len K rfl) (by rfl) M.len (by decide +kernel) (pa_cons (pv 0) pa_nil)) pe_int (nomark _)) (pe_one (pe_own G_is_number (hr.mono (by first | decide | omega)) (by rfl) p_body (pa_cons (pe_ix (k_ix K rfl) (pv 0) pe_int (fun _ _ => rfl)) pa_nil)))))) pss_nil)
    (pss_cons (ps_if (pt_cmpR (k_eq K rfl hr) (pe_ix (k_ix K rfl) (pv 0) pe_int (fun _ _ => rfl)) pe_str (nomark _)) (pss_one (ps_ret (pe_and (pe_cmpR (k_eq K rfl hr) (pe_callB (k_len K rfl) (by rfl) M.len (by decide +kernel) (pa_cons (pv 0) pa_nil)) pe_int (nomark _)) (pe_one (pe_own G_is_word (hr.mono (by first | decide | omega)) (by rfl) p_body (pa_cons (pe_ix (k_ix K rfl) (pv 0) pe_int (fun _ _ => rfl)) pa_nil)))))) pss_nil)
    (pss_one (ps_ret (pe_and (pe_cmpR (k_in K rfl hr) (pe_ix (k_ix K rfl) (pv 0) pe_int (fun _ _ => rfl)) (pe_lst (pa_cons pe_str (pa_cons pe_str pa_nil))) (by rfl)) (pe_and (pe_cmpR (k_eq K rfl hr) (pe_callB (k_len K rfl) (by rfl) M.len (by decide +kernel) (pa_cons (pv 0) pa_nil)) pe_int (nomark _)) (pe_one (pe_own G_is_whole (hr.mono (by first | decide | omega)) (by rfl) p_body (pa_cons (pe_ix (k_ix K rfl) (pv 0) pe_int (fun _ _ => rfl)) (pa_cons pe_int (pa_cons (pe_op o_sub (pv 1) pe_int) pa_nil))))))))))), ?_⟩
  obtain ⟨w, ds, L, ⟨p, vs, rfl, hp, hvs, ok⟩, rfl, q⟩ := h
  have l := hvs.length
  refine Fl.go_start (σ0 := [some _, some _]) rfl ?_
  walk_at "s"
  refine if_d (fun c => ?_) (fun c => ?_)
  · walk_at "s"
    refine if_d (fun c1 => ?_) (fun c1 => ?_)
    · obtain ⟨d0, v0, rfl, rfl, h0⟩ := hvs.ex1 (by simp at c1; omega)
      walk_at "s"
      have e : isPlain L w [d0] = isNumber d0 := by simp [isPlain, c]
      rw [e] at q
      exact q _ (.refl _)
    · walk_at "s"
      have e : isPlain L w ds = false := by
        have : ¬ ds.length = 1 := by simp at c1; omega
        simp [isPlain, c, this]
      rw [e] at q
      exact q _ (.refl _)
  walk_at "s"
  refine if_d (fun c0 => ?_) (fun c0 => ?_)
  · walk_at "s"
    refine if_d (fun c1 => ?_) (fun c1 => ?_)
    · obtain ⟨d0, v0, rfl, rfl, h0⟩ := hvs.ex1 (by simp at c1; omega)
      have ok0 : okD d0 = true := okAll_mem ok (List.mem_singleton.mpr rfl)
      walk_at "s"
      have e : isPlain L w [d0] = isWord d0 := by unfold isPlain; rw [if_neg c, if_pos c0]; simp
      rw [e] at q
      exact q _ (by walk_at "sm")
    · walk_at "s"
      have e : isPlain L w ds = false := by
        have : ¬ ds.length = 1 := by simp at c1; omega
        unfold isPlain; rw [if_neg c, if_pos c0]; simp [this]
      rw [e] at q
      exact q _ (.refl _)
  walk_at "s"
  rename_i pl hpl
  rw [inV_str, inV_str, inV_nil, Bool.or_false]
  refine if_b (fun c2 => ?_) (fun c2 => ?_)
  · walk_at "s"
    refine if_d (fun c1 => ?_) (fun c1 => ?_)
    · obtain ⟨d0, v0, rfl, rfl, h0⟩ := hvs.ex1 (by simp at c1; omega)
      walk_at "s"
      have e : isPlain L w [d0] = isWhole d0 0 (L - 1) := by simp [isPlain, c, c0, c2]
      rw [e] at q
      exact q _ (by walk_at "sm")
    · walk_at "s"
      have e : isPlain L w ds = false := by
        have : ¬ ds.length = 1 := by simp at c1; omega
        simp [isPlain, c, c0, this]
      rw [e] at q
      exact q _ (by walk_at "sm")
  · walk_at "s"
    have e : isPlain L w ds = false := by
      simp [isPlain, c, c0, c2]
    rw [e] at q
    exact q _ (by walk_at "sm")
instance {H : Hp} {Q : VK} {E : XK} {a : V} {L : Int} : Step (sp_is_plain a (.int L) H Q E) (∃ w ds, WRule H a w ds ∧ SmQ H fun H' => Q (.bl (isPlain L w ds)) H') := ⟨fun ⟨w, ds, h, q⟩ => ⟨w, ds, L, h, rfl, q⟩⟩
abbrev s_places_of : Stmt := topS 25
theorem sc_places_of : FnScope ["rule", "tables", "choices"] ["rule", "tables", "choices"] (defScope s_places_of) := ⟨rfl, rfl, rfl, by decide +kernel, rfl, by decide +kernel, by decide +kernel⟩
/-- what places_of hands back -/
def PlQ (o : Option (List Int)) (H : Hp) (Q : V → Hp → Prop) : Prop := match o with
  | none => ∀ H', Same H H' → Q .non H'
  | some ns => ∀ p H', Same H H' → H' p = some (.lst (ns.map V.int)) → Q (.ref p) H'
theorem plq_none {H H' : Hp} {Q : V → Hp → Prop} (q : PlQ none H Q) (e : Same H H') : Q .non H' := q _ e
theorem plq_some {H H' : Hp} {Q : V → Hp → Prop} {ns : List Int} {p : Addr} {vs : List V} (q : PlQ (some ns) H Q) (e : Same H H') (h : H' p = some (.lst vs)) (z : vs = ns.map V.int) : Q (.ref p) H' := q p _ e (by rw [h, z])
def sp_places_of : Sp3 := fun a b c H Q _ => ∃ w ds T C, WRule H a w ds ∧ b = .int T ∧ c = .int C ∧ PlQ (placesOf T C w ds) H Q
theorem ok_places_of (M : Mg mg) (G_is_whole : Has P w K mg base "is_whole" ["thing", "least", "most"] 1 (sp3 sp_is_whole)) (D : DefAt K mg "places_of" s_places_of ["rule", "tables", "choices"]) : Has P w K mg base "places_of" ["rule", "tables", "choices"] 2 (sp3 sp_places_of) := by
  refine .mk3 D sc_places_of fun f cdv A outer s H a b c Q E hr h => ⟨_, (pss_cons (ps_if (PW.pt (pw_and (pt_cmpR (k_in K rfl hr) (pe_ix (k_ix K rfl) (pv 0) pe_int (fun _ _ => rfl)) (pe_lst (pa_cons pe_str (pa_cons pe_str (pa_cons pe_str (pa_cons pe_str pa_nil))))) (by rfl)) (pw_and1 (pt_cmpR (k_eq K rfl hr) (pe_callB (k_len K rfl) (by rfl) M.len (by decide +kernel) (pa_cons (pv 0) pa_nil)) pe_int (nomark _))))) (pss_one (ps_ret (pe_lst (pa_cons pe_int (pa_cons pe_int pa_nil))))) pss_nil)
    (pss_cons (ps_if (PW.pt (pw_and (pt_cmpR (k_eq K rfl hr) (pe_ix (k_ix K rfl) (pv 0) pe_int (fun _ _ => rfl)) pe_str (nomark _)) (pw_and (pt_cmpR (k_eq K rfl hr) (pe_callB (k_len K rfl) (by rfl) M.len (by decide +kernel) (pa_cons (pv 0) pa_nil)) pe_int (nomark _)) (pw_and1 (pt_val (pe_own G_is_whole (hr.mono (by first | decide | omega)) (by rfl) p_body (pa_cons (pe_ix (k_ix K rfl) (pv 0) pe_int (fun _ _ => rfl)) (pa_cons pe_int (pa_cons pe_int pa_nil))))))))) (pss_one (ps_ret (pe_lst (pa_cons pe_int pa_nil)))) pss_nil)
    (pss_cons (ps_if (PW.pt (pw_and (pt_cmpR (k_eq K rfl hr) (pe_ix (k_ix K rfl) (pv 0) pe_int (fun _ _ => rfl)) pe_str (nomark _)) (pw_and (pt_cmpR (k_eq K rfl hr) (pe_callB (k_len K rfl) (by rfl) M.len (by decide +kernel) (pa_cons (pv 0) pa_nil)) pe_int (nomark _)) (pw_and1 (pt_val (pe_own G_is_whole (hr.mono (by first | decide | omega)) (by rfl) p_body (pa_cons (pe_ix (k_ix K rfl) (pv 0) pe_int (fun _ _ => rfl)) (pa_cons pe_int (pa_cons (pe_op o_sub (pv 1) pe_int) pa_nil))))))))) (pss_one (ps_ret (pe_lst (pa_cons pe_int pa_nil)))) pss_nil)
    (pss_cons (ps_if (PW.pt (pw_and (pt_cmpR (k_eq K rfl hr) (pe_ix (k_ix K rfl) (pv 0) pe_int (fun _ _ => rfl)) pe_str (nomark _)) (pw_and1 (pt_cmpR (k_eq K rfl hr) (pe_callB (k_len K rfl) (by rfl) M.len (by decide +kernel) (pa_cons (pv 0) pa_nil)) pe_int (nomark _))))) (pss_one (ps_ret (pe_lst (pa_cons pe_int (pa_cons pe_int (pa_cons pe_int pa_nil)))))) pss_nil)
    (pss_cons (ps_if (PW.pt (pw_and (pt_cmpR (k_eq K rfl hr) (pe_ix (k_ix K rfl) (pv 0) pe_int (fun _ _ => rfl)) pe_str (nomark _)) (pw_and (pt_cmpR (k_eq K rfl hr) (pe_callB (k_len K rfl) (by rfl) M.len (by decide +kernel) (pa_cons (pv 0) pa_nil)) pe_int (nomark _)) (pw_and1 (pt_val (pe_own G_is_whole (hr.mono (by first | decide | omega)) (by rfl) p_body (pa_cons (pe_ix (k_ix K rfl) (pv 0) pe_int (fun _ _ => rfl)) (pa_cons pe_int (pa_cons (pe_op o_sub (pv 2) pe_int) pa_nil))))))))) (pss_one (ps_ret (pe_lst (pa_cons pe_int (pa_cons pe_int pa_nil))))) pss_nil)
    (pss_one (ps_ret pe_non))))))), ?_⟩
  obtain ⟨w, ds, T, C, ⟨p, vs, rfl, hp, hvs, ok⟩, rfl, rfl, q⟩ := h
  have l := hvs.length
  unfold placesOf at q
  refine Fl.go_start (σ0 := [some _, some _, some _]) rfl ?_
  walk_at "s"
  rename_i p1 hp1
  rw [inV_str, inV_str, inV_str, inV_str, inV_nil, Bool.or_false]
  have w1 : (decide (w = "add") || (decide (w = "take") || (decide (w = "least") || decide (w = "most")))) = decide (w = "add" ∨ w = "take" ∨ w = "least" ∨ w = "most") := by simp
  rw [w1]
  by_cases g1 : (w = "add" ∨ w = "take" ∨ w = "least" ∨ w = "most")
  · have n1 : ¬ w = "part" := by rintro rfl; exact absurd g1 (by decide +kernel)
    have n2 : ¬ w = "table" := by rintro rfl; exact absurd g1 (by decide +kernel)
    have n3 : ¬ w = "where" := by rintro rfl; exact absurd g1 (by decide +kernel)
    have n4 : ¬ w = "choose" := by rintro rfl; exact absurd g1 (by decide +kernel)
    refine if_d (fun _ => ?_) (fun c => absurd g1 c)
    walk_at "s"
    refine if_d (fun c2 => ?_) (fun c2 => ?_)
    · have l2 : ds.length = 2 := by simp at c2; omega
      rw [if_pos ⟨g1, l2⟩] at q
      walk_at "s"
      exact plq_some q (by walk_at "sm") (by walk_at "hp") (by rfl)
    · have l2 : ¬ ds.length = 2 := by simp at c2; omega
      simp only [l2, n1, n2, n3, n4, and_false, false_and, if_false] at q
      walk_at "s"
      walk_at "no"
      walk_at "s"
      walk_at "no"
      walk_at "s"
      walk_at "no"
      walk_at "s"
      walk_at "no"
      walk_at "s"
      exact plq_none q (by walk_at "sm")
  refine if_d (fun c => absurd c g1) (fun _ => ?_)
  simp only [g1, false_and, if_false] at q
  walk_at "s"
  by_cases g2 : w = "part"
  · have n2 : ¬ w = "table" := by rw [g2]; decide +kernel
    have n3 : ¬ w = "where" := by rw [g2]; decide +kernel
    have n4 : ¬ w = "choose" := by rw [g2]; decide +kernel
    walk_at "yes"
    walk_at "s"
    simp only [g2, n2, n3, n4, true_and, false_and, if_false] at q
    refine if_d (fun c2 => ?_) (fun c2 => ?_)
    · obtain ⟨d0, d1, v0, v1, rfl, rfl, h0, h1⟩ := hvs.ex2 (by simp at c2; omega)
      walk_at "s"
      simp only [List.getD_cons_succ, List.getD_cons_zero, List.length_cons, List.length_nil, true_and] at q
      refine if_b (fun c3 => ?_) (fun c3 => ?_)
      · rw [if_pos c3] at q
        walk_at "s"
        exact plq_some q (by walk_at "sm") (by walk_at "hp") (by rfl)
      rw [c3] at q
      simp only [if_false, Bool.false_eq_true] at q
      walk_at "s"
      walk_at "no"
      walk_at "s"
      walk_at "no"
      walk_at "s"
      walk_at "no"
      walk_at "s"
      exact plq_none q (by walk_at "sm")
    have l2 : ¬ ds.length = 2 := by simp at c2; omega
    simp only [l2, and_false, false_and, if_false] at q
    walk_at "s"
    walk_at "no"
    walk_at "s"
    walk_at "no"
    walk_at "s"
    walk_at "no"
    walk_at "s"
    exact plq_none q (by walk_at "sm")
  walk_at "no"
  simp only [g2, false_and, if_false] at q
  walk_at "s"
  by_cases g3 : w = "table"
  · have n3 : ¬ w = "where" := by rw [g3]; decide +kernel
    have n4 : ¬ w = "choose" := by rw [g3]; decide +kernel
    walk_at "yes"
    walk_at "s"
    simp only [g3, n3, n4, true_and, false_and, if_false] at q
    refine if_d (fun c2 => ?_) (fun c2 => ?_)
    · obtain ⟨d0, d1, v0, v1, rfl, rfl, h0, h1⟩ := hvs.ex2 (by simp at c2; omega)
      walk_at "s"
      simp only [List.getD_cons_succ, List.getD_cons_zero, List.length_cons, List.length_nil, true_and] at q
      refine if_b (fun c3 => ?_) (fun c3 => ?_)
      · rw [if_pos c3] at q
        walk_at "s"
        exact plq_some q (by walk_at "sm") (by walk_at "hp") (by rfl)
      rw [c3] at q
      simp only [if_false, Bool.false_eq_true] at q
      walk_at "s"
      walk_at "no"
      walk_at "s"
      walk_at "no"
      walk_at "s"
      exact plq_none q (by walk_at "sm")
    have l2 : ¬ ds.length = 2 := by simp at c2; omega
    simp only [l2, and_false, false_and, if_false] at q
    walk_at "s"
    walk_at "no"
    walk_at "s"
    walk_at "no"
    walk_at "s"
    exact plq_none q (by walk_at "sm")
  walk_at "no"
  simp only [g3, false_and, if_false] at q
  walk_at "s"
  by_cases g4 : w = "where"
  · have n4 : ¬ w = "choose" := by rw [g4]; decide +kernel
    walk_at "yes"
    walk_at "s"
    simp only [g4, n4, true_and, false_and, if_false] at q
    refine if_d (fun c2 => ?_) (fun c2 => ?_)
    · have l2 : ds.length = 3 := by simp at c2; omega
      rw [if_pos l2] at q
      walk_at "s"
      exact plq_some q (by walk_at "sm") (by walk_at "hp") (by rfl)
    have l2 : ¬ ds.length = 3 := by simp at c2; omega
    simp only [l2, and_false, false_and, if_false] at q
    walk_at "s"
    walk_at "no"
    walk_at "s"
    exact plq_none q (by walk_at "sm")
  walk_at "no"
  simp only [g4, false_and, if_false] at q
  walk_at "s"
  by_cases g5 : w = "choose"
  · walk_at "yes"
    walk_at "s"
    simp only [g5, true_and] at q
    refine if_d (fun c2 => ?_) (fun c2 => ?_)
    · obtain ⟨d0, d1, d2, v0, v1, v2, rfl, rfl, h0, h1, h2⟩ := hvs.ex3 (by simp at c2; omega)
      walk_at "s"
      simp only [List.getD_cons_succ, List.getD_cons_zero, List.length_cons, List.length_nil, true_and] at q
      refine if_b (fun c3 => ?_) (fun c3 => ?_)
      · rw [if_pos c3] at q
        walk_at "s"
        exact plq_some q (by walk_at "sm") (by walk_at "hp") (by rfl)
      rw [c3] at q
      simp only [if_false, Bool.false_eq_true] at q
      walk_at "s"
      exact plq_none q (by walk_at "sm")
    have l2 : ¬ ds.length = 3 := by simp at c2; omega
    simp only [l2, and_false, false_and, if_false] at q
    walk_at "s"
    exact plq_none q (by walk_at "sm")
  walk_at "no"
  simp only [g5, false_and, if_false] at q
  walk_at "s"
  exact plq_none q (by walk_at "sm")
instance {H : Hp} {Q : VK} {E : XK} {a : V} {T C : Int} : Step (sp_places_of a (.int T) (.int C) H Q E) (∃ w ds, WRule H a w ds ∧ PlQ (placesOf T C w ds) H Q) := ⟨fun ⟨w, ds, h, q⟩ => ⟨w, ds, T, C, h, rfl, rfl, q⟩⟩
end
end Fl

-- after: rl.tpl
namespace Fl
open PySem PySem.Spec PyProof.Rows L2 RZ
/-! ### is_rule -/
mutual
def sz : PyData → Nat
  | .tuple ds | .list ds => 1 + szAll ds
  | _ => 1
def szAll : List PyData → Nat
  | [] => 0
  | d :: ds => sz d + szAll ds
end
theorem sz_pos (d : PyData) : 1 ≤ sz d := by cases d <;> simp [sz]
/-- the parts of a rule that are rules -/
def kids (ds : List PyData) (ps : List Int) : List PyData := ps.map fun i => ds.getD (i.toNat - 1) .none
def isR1 (L T C : Int) (k : PyData → Bool) : PyData → Bool
  | .tuple (.str w :: ds) => decide (1 ≤ ds.length) && match placesOf T C w ds with
    | none => isPlain L w ds
    | some ps => (kids ds ps).all k
  | _ => false
def isR (L T C : Int) : Nat → PyData → Bool
  | 0, _ => false
  | n + 1, d => isR1 L T C (isR L T C n) d
theorem isR_none {L T C : Int} {n : Nat} {d : PyData} (h : ∀ w ds, d ≠ .tuple (.str w :: ds)) : isR L T C n d = false := by
  cases n with
  | zero => rfl
  | succ n =>
    unfold isR isR1
    split
    · exact absurd rfl (h _ _)
    · rfl
theorem isR_short {L T C : Int} {n : Nat} {ds : List PyData} (h : ds.length < 2) : isR L T C n (.tuple ds) = false := by
  cases n with
  | zero => rfl
  | succ n =>
    cases ds with
    | nil => rfl
    | cons d r =>
      have e : r = [] := List.eq_nil_of_length_eq_zero (by simp at h; omega)
      subst e
      cases d <;> rfl
theorem places_cases {T C : Int} {w : Str} {ds : List PyData} {ps : List Int} (h : placesOf T C w ds = some ps) :
    (ps = [1, 2] ∧ ∃ a b, ds = [a, b]) ∨ (ps = [1] ∧ ∃ a b, ds = [a, b]) ∨ (ps = [2] ∧ ∃ a b, ds = [a, b]) ∨ (ps = [1, 2, 3] ∧ ∃ a b c, ds = [a, b, c]) ∨ (ps = [2, 3] ∧ ∃ a b c, ds = [a, b, c]) := by
  have two : ds.length = 2 → ∃ a b, ds = [a, b] := fun l => by
    match ds, l with
    | [a, b], _ => exact ⟨a, b, rfl⟩
  have three : ds.length = 3 → ∃ a b c, ds = [a, b, c] := fun l => by
    match ds, l with
    | [a, b, c], _ => exact ⟨a, b, c, rfl⟩
  unfold placesOf at h
  split at h
  · rename_i g
    exact .inl ⟨(Option.some.inj h).symm, two g.2⟩
  split at h
  · rename_i g
    exact .inr (.inl ⟨(Option.some.inj h).symm, two g.2.1⟩)
  split at h
  · rename_i g
    exact .inr (.inr (.inl ⟨(Option.some.inj h).symm, two g.2.1⟩))
  split at h
  · rename_i g
    exact .inr (.inr (.inr (.inl ⟨(Option.some.inj h).symm, three g.2⟩)))
  split at h
  · rename_i g
    exact .inr (.inr (.inr (.inr ⟨(Option.some.inj h).symm, three g.2.1⟩)))
  · cases h
theorem kids_sz {T C : Int} {w : Str} {ds : List PyData} {ps : List Int} (h : placesOf T C w ds = some ps) : szAll (kids ds ps) < sz (.tuple (.str w :: ds)) := by
  rcases places_cases h with ⟨rfl, a, b, rfl⟩ | ⟨rfl, a, b, rfl⟩ | ⟨rfl, a, b, rfl⟩ | ⟨rfl, a, b, c, rfl⟩ | ⟨rfl, a, b, c, rfl⟩ <;> simp [kids, sz, szAll] <;> omega
theorem kids_mem {T C : Int} {w : Str} {ds : List PyData} {ps : List Int} (h : placesOf T C w ds = some ps) {d : PyData} (m : d ∈ kids ds ps) : d ∈ ds := by
  rcases places_cases h with ⟨rfl, a, b, rfl⟩ | ⟨rfl, a, b, rfl⟩ | ⟨rfl, a, b, rfl⟩ | ⟨rfl, a, b, c, rfl⟩ | ⟨rfl, a, b, c, rfl⟩ <;> simp [kids] at m ⊢ <;> grind
theorem place_at {T C : Int} {w : Str} {ds : List PyData} {ns : List Int} {H : Hp} {us : List V} {i : Nat} {n : Int} (h : placesOf T C w ds = some ns) (e : ns[i]? = some n) (a : AtAll H ds us) :
    ∃ u, atI (.str w :: us) n = some u ∧ At H (ds.getD (n.toNat - 1) .none) u := by
  have m := List.mem_of_getElem? e
  have l := a.length
  rcases places_cases h with ⟨rfl, x, y, rfl⟩ | ⟨rfl, x, y, rfl⟩ | ⟨rfl, x, y, rfl⟩ | ⟨rfl, x, y, z, rfl⟩ | ⟨rfl, x, y, z, rfl⟩
  iterate 3
    · obtain ⟨u0, t, rfl, h0, u1, t', rfl, h1, h2⟩ := a
      simp only [List.mem_cons, List.not_mem_nil, or_false] at m
      first
        | (rcases m with rfl | rfl; exact ⟨u0, atI_1, h0⟩; exact ⟨u1, atI_2, h1⟩)
        | (subst m; exact ⟨u0, atI_1, h0⟩)
        | (subst m; exact ⟨u1, atI_2, h1⟩)
  iterate 2
    · obtain ⟨u0, t, rfl, h0, u1, t', rfl, h1, u2, t2, rfl, h2, h3⟩ := a
      simp only [List.mem_cons, List.not_mem_nil, or_false] at m
      first
        | (rcases m with rfl | rfl | rfl; exact ⟨u0, atI_1, h0⟩; exact ⟨u1, atI_2, h1⟩; exact ⟨u2, atI_3, h2⟩)
        | (rcases m with rfl | rfl; exact ⟨u1, atI_2, h1⟩; exact ⟨u2, atI_3, h2⟩)
theorem szAll_append {a b : List PyData} : szAll (a ++ b) = szAll a + szAll b := by
  induction a with
  | nil => simp [szAll]
  | cons x r ih => simp [szAll, ih]; omega
theorem szAll_len {a : List PyData} : a.length ≤ szAll a := by
  induction a with
  | nil => simp
  | cons x r ih =>
    have := sz_pos x
    simp [szAll]; omega
/-! the work list -/
def PrOne (H0 H : Hp) (x : PyData × Nat) (v : V) : Prop := ∃ p u, v = .ref p ∧ H p = some (.tup [u, .int x.2]) ∧ At H0 x.1 u
def PrAll (H0 H : Hp) : List (PyData × Nat) → List V → Prop
  | [], vs => vs = []
  | x :: r, vs => ∃ v t, vs = v :: t ∧ PrOne H0 H x v ∧ PrAll H0 H r t
theorem PrOne.mono {H0 H H' : Hp} {x : PyData × Nat} {v : V} (h : PrOne H0 H x v) (e : ∀ p xs, H p = some (.tup xs) → H' p = some (.tup xs)) : PrOne H0 H' x v := by
  obtain ⟨p, u, q, hp, hu⟩ := h
  exact ⟨p, u, q, e _ _ hp, hu⟩
theorem PrAll.mono {H0 H H' : Hp} (e : ∀ p xs, H p = some (.tup xs) → H' p = some (.tup xs)) : ∀ {ps : List (PyData × Nat)} {vs : List V}, PrAll H0 H ps vs → PrAll H0 H' ps vs
  | [], _, h => h
  | _ :: _, _, ⟨v, t, q, h, r⟩ => ⟨v, t, q, h.mono e, PrAll.mono e r⟩
theorem PrAll.append {H0 H : Hp} : ∀ {ps qs : List (PyData × Nat)} {vs ws : List V}, PrAll H0 H ps vs → PrAll H0 H qs ws → PrAll H0 H (ps ++ qs) (vs ++ ws)
  | [], _, _, _, h, k => by rw [show _ = _ from h]; exact k
  | _ :: _, _, _, _, ⟨v, t, q, h, r⟩, k => by subst q; exact ⟨v, _, rfl, h, PrAll.append r k⟩
theorem PrAll.length {H0 H : Hp} : ∀ {ps : List (PyData × Nat)} {vs : List V}, PrAll H0 H ps vs → vs.length = ps.length
  | [], _, h => by rw [show _ = _ from h]; rfl
  | _ :: _, _, ⟨v, t, q, _, r⟩ => by rw [q, List.length_cons, List.length_cons, PrAll.length r]
theorem PrAll.last {H0 H : Hp} : ∀ {ps : List (PyData × Nat)} {vs : List V}, PrAll H0 H ps vs → vs ≠ [] → ∃ qs x ws v, ps = qs ++ [x] ∧ vs = ws ++ [v] ∧ PrAll H0 H qs ws ∧ PrOne H0 H x v
  | [], _, h, n => absurd h n
  | [x], _, ⟨v, t, q, h, r⟩, _ => ⟨[], x, [], v, rfl, by rw [q, show t = [] from r]; rfl, rfl, h⟩
  | x :: y :: l, _, ⟨v, t, q, h, r⟩, _ => by
    obtain ⟨qs, z, ws, w, e1, e2, r1, r2⟩ := PrAll.last r (by obtain ⟨_, _, z, _⟩ := r; rw [z]; simp)
    exact ⟨x :: qs, z, v :: ws, w, by rw [e1]; rfl, by rw [q, e2]; rfl, ⟨v, ws, rfl, h, r1⟩, r2⟩
theorem PrAll.dp {K : PySem.W.Frag} {H0 H : Hp} (e : Same H0 H) : ∀ {ps : List (PyData × Nat)} {vs : List V}, PrAll H0 H ps vs → DpAll K H vs (ps.map fun x => .tuple [x.1, .int x.2])
  | [], _, h => by rw [show _ = _ from h]; exact .nil
  | x :: _, _, ⟨v, t, q, ⟨p, u, z, hp, hu⟩, r⟩ => by
    subst z q
    exact .cons (.tup (.of hp) (.cons (At.dp (hu.le (Same.le e))) (.cons (.int _) .nil))) (PrAll.dp e r)
theorem PrAll.lay {ps : List (PyData × Nat)} (h : ∀ x ∈ ps, okD x.1 = true) : PyData.canLayAll0 (ps.map fun x => .tuple [x.1, .int x.2]) = true := by
  induction ps with
  | nil => rfl
  | cons x r ih =>
    simp only [List.map_cons, PyData.canLayAll0, PyData.canLay0, Bool.and_true, Bool.and_eq_true]
    exact ⟨okD_lay _ (h x (List.mem_cons_self ..)), ih fun y m => h y (List.mem_cons_of_mem _ m)⟩
section
variable {P : Program} {w : World} {K : PySem.W.Frag} {mg : Str → Option Value} {base : Heap}
abbrev s_is_rule : Stmt := topS 26
theorem sc_is_rule : FnScope ["thing", "lines", "tables", "choices", "rest", "rule", "deep", "places", "place"] ["thing", "lines", "tables", "choices"] (defScope s_is_rule) := ⟨rfl, rfl, rfl, by decide +kernel, rfl, by decide +kernel, by decide +kernel⟩
def sp_is_rule : Sp4 := fun a b c e H Q _ => ∃ d L T C, At H d a ∧ (okD d = true ∧ sz d ≤ 50000) ∧ b = .int L ∧ c = .int T ∧ e = .int C ∧ ∀ H', Same H H' → Q (.bl (isR L T C 8 d)) H'
theorem ok_is_rule (M : Mg mg) (c_DEEPEST : ∃ t, mg "DEEPEST" = some (.int 8 t)) (G_places_of : Has P w K mg base "places_of" ["rule", "tables", "choices"] 2 (sp3 sp_places_of)) (G_is_plain : Has P w K mg base "is_plain" ["rule", "lines"] 3 (sp2 sp_is_plain))
    (D : DefAt K mg "is_rule" s_is_rule ["thing", "lines", "tables", "choices"]) : Has P w K mg base "is_rule" ["thing", "lines", "tables", "choices"] 4 (sp4 sp_is_rule) := by
  refine .mk4 D sc_is_rule fun f cdv A outer s H a b c e Q E hr h => ⟨_, (pss_cons (ps_set (i := 4) sc_is_rule.nd rfl (by first | exact Or.inl rfl | exact Or.inr rfl) (pe_lst (pa_cons (pe_tup (pa_cons (pv 0) (pa_cons pe_int pa_nil))) pa_nil)))
    (pss_cons (ps_while own_p (pt_cmpR (k_neE K rfl hr) (pv 4) (pe_lst pa_nil) (nomark _)) (pss_cons (ps_asg (k_bm0 K rfl PySem.F.plainAttrs_list PySem.F.slot_list_pop PySem.F.type_list_pop mt_pop (pv 4)) (pg_tup (by rfl) (pgs_cons (pg_name (i := 5) sc_is_rule.nd rfl (by first | exact Or.inl rfl | exact Or.inr rfl)) (pgs_cons (pg_name (i := 6) sc_is_rule.nd rfl (by first | exact Or.inl rfl | exact Or.inr rfl)) pgs_nil))))
    (pss_cons (ps_if (PW.pt (pw_or (pt_not (pt_val (pe_callB (k_isi K rfl) (by rfl) M.isinstance (by decide +kernel) (pa_cons (pv 5) (pa_cons (pe_bltn (v := .ty "tuple") (by rfl) M.tuple (by decide +kernel) rfl) pa_nil))))) (pw_or (pt_cmpR o_lt (pe_callB (k_len K rfl) (by rfl) M.len (by decide +kernel) (pa_cons (pv 5) pa_nil)) pe_int (nomark _)) (pw_or (pt_cmpR o_gt (pv 6) (pe_gi (by rfl) c_DEEPEST) (nomark _)) (pw_or1 (pt_not (pt_val (pe_callB (k_isi K rfl) (by rfl) M.isinstance (by decide +kernel) (pa_cons (pe_ix (k_ix K rfl) (pv 5) pe_int (fun _ _ => rfl)) (pa_cons (pe_bltn (v := .ty "str") (by rfl) M.str (by decide +kernel) rfl) pa_nil)))))))))) (pss_one (ps_ret pe_bl)) pss_nil)
    (pss_cons (ps_set (i := 7) sc_is_rule.nd rfl (by first | exact Or.inl rfl | exact Or.inr rfl) (pe_own G_places_of (hr.mono (by first | decide | omega)) (by rfl) p_body (pa_cons (pv 5) (pa_cons (pv 2) (pa_cons (pv 3) pa_nil)))))
    (pss_cons (ps_if (PW.pt (pw_and (pt_cmpR op_isN (pv 7) pe_non (nomark _)) (pw_and1 (pt_not (pt_val (pe_own G_is_plain (hr.mono (by first | decide | omega)) (by rfl) p_body (pa_cons (pv 5) (pa_cons (pv 1) pa_nil)))))))) (pss_one (ps_ret pe_bl)) pss_nil)
    (pss_one (ps_if (pt_cmpR op_notN (pv 7) pe_non (nomark _)) (pss_one (ps_set (i := 4) sc_is_rule.nd rfl (by first | exact Or.inl rfl | exact Or.inr rfl) (pe_op (k_add K rfl) (pv 4) (pe_lc (own := [("place", 8)]) (g := gName 8) (by rfl) sc_is_rule.nd (k_pi K rfl (pv 7)) (blkOk_by (N := ["thing", "lines", "tables", "choices", "rest", "rule", "deep", "places", "place"]) (sc := (defScope s_is_rule)) (own := [("place", 8)]) (by decide +kernel)) (fun _ _ _ _ _ => (pg_name (i := 8) sc_is_rule.nd rfl (by first | exact Or.inl rfl | exact Or.inr rfl))) (fun _ _ _ _ _ => pts_nil) (fun _ _ _ _ _ => (pe_tup (pa_cons (pe_ix (k_ix K rfl) (pv 5) (pv 8) (fun _ _ => rfl)) (pa_cons (pe_op (k_add K rfl) (pv 6) pe_int) pa_nil)))))))) pss_nil)))))))
    (pss_one (ps_ret pe_bl)))), ?_⟩
  obtain ⟨d, L, T, C, hd, ⟨ok, hsz⟩, rfl, rfl, rfl, q⟩ := h
  refine Fl.go_start (σ0 := [some _, some _, some _, some _, none, none, none, none, none]) rfl ?_
  walk_at "s"
  rename_i p0 hp0 r0 hr0
  refine while_go (fun m σ' H' => ∃ (r : Addr) (ps : List (PyData × Nat)) (vs : List V) (x1 x2 x3 x4 : Option V), σ' = [some a, some (.int L), some (.int T), some (.int C), some (.ref r), x1, x2, x3, x4] ∧
    m = szAll (ps.map (·.1)) ∧ H' r = some (.lst vs) ∧ H r = none ∧ Same H H' ∧ PrAll H H' ps vs ∧ (∀ x ∈ ps, okD x.1 = true ∧ 1 ≤ x.2) ∧ szAll (ps.map (·.1)) ≤ 50000 ∧ isR L T C 8 d = ps.all fun x => isR L T C (9 - x.2) x.1) (sz d)
    ⟨r0, [(d, 1)], [.ref p0], none, none, none, none, rfl, by simp [szAll], by walk_at "hp", L2.Same.free (Same.new (.refl _) hp0) hr0, by walk_at "sm", ⟨_, _, rfl, ⟨p0, a, rfl, (by show _ = some (HO.tup [a, V.int 1]); walk_at "hp"), hd⟩, rfl⟩, by simp [ok], by simp [szAll]; omega, by simp⟩ ?_
  rintro m σ' H' ⟨r, ps, vs, x1, x2, x3, x4, rfl, rfl, hrv, hrf, sm, hps, hok, hle, hres⟩
  walk_at "s"
  rename_i pe hpe
  have tupN : ∀ p xs, H' p = some (.tup xs) → (upd H' pe (.lst [])) p = some (.tup xs) := fun p xs h => Same.new (.refl _) hpe _ _ h
  refine ne_e (by walk_at "hp") (by walk_at "hp") ((hps.mono tupN).dp (by walk_at "sm")) (PrAll.lay fun x m => (hok x m).1) ?_
  walk_at "s"
  by_cases hv : vs = []
  · subst hv
    have e : ps = [] := List.eq_nil_of_length_eq_zero (hps.length.symm)
    subst e
    walk_at "s"
    rw [hres] at q
    exact q _ (by walk_at "sm")
  have hv' : vs.isEmpty = false := by simpa using hv
  rw [hv']
  walk_at "s"
  refine while_turn ?_
  obtain ⟨qs, x, ws, v, rfl, rfl, hq, ⟨p1, u, rfl, hp1, hu⟩⟩ := hps.last hv
  obtain ⟨d1, k⟩ := x
  dsimp only at hp1 hu
  walk_at "s"
  refine ex_v (v := .ref p1) (by simp) ?_
  rw [List.dropLast_concat]
  have hne : p1 ≠ r := fun z => by rw [z, hrv] at hp1; cases hp1
  have hper : pe ≠ r := fun z => by rw [z, hrv] at hpe; cases hpe
  have tup2 : ∀ p xs, H' p = some (.tup xs) → (upd (upd H' pe (.lst [])) r (.lst ws)) p = some (.tup xs) := fun p xs h => by
    rw [upd_ne (fun z => by rw [z, hrv] at h; cases h)]
    exact tupN p xs h
  have q2 := hq.mono tup2
  have h2r : (upd (upd H' pe (.lst [])) r (.lst ws)) r = some (.lst ws) := upd_same
  have h2p := tup2 _ _ hp1
  have sm2 : Same H (upd (upd H' pe (.lst [])) r (.lst ws)) := by walk_at "sm"
  generalize upd (upd H' pe (.lst [])) r (.lst ws) = H2 at *
  have ok1 := (hok (d1, k) (by simp)).1
  have k1 := (hok (d1, k) (by simp)).2
  dsimp only at ok1 k1
  have no : isR L T C (9 - k) d1 = false → isR L T C 8 d = false := fun z => by
    rw [hres, List.all_append]
    simp [z]
  have hok' : ∀ x ∈ qs, okD x.1 = true ∧ 1 ≤ x.2 := fun x m => hok x (List.mem_append_left _ m)
  have szq : szAll (qs.map (·.1)) + sz d1 = szAll ((qs ++ [(d1, k)]).map (·.1)) := by
    rw [List.map_append, szAll_append]
    simp [szAll]
  walk_at "s"
  refine ⟨rfl, ?_⟩
  cases d1 <;> first | exact hu.elim | skip
  all_goals try (cases (show _ = _ from hu))
  case tuple =>
    rename_i ds
    obtain ⟨t, us, rfl, ht, hus⟩ := id hu
    have lu := hus.length
    have ht2 := sm2 _ _ ht
    walk_at "s"
    refine if_d (fun c => ?_) (fun c => ?_)
    · walk_at "s"
      have z := no (isR_short (by omega))
      rw [z] at q
      exact q _ (by walk_at "sm")
    walk_at "s"
    refine if_d (fun c2 => ?_) (fun c2 => ?_)
    · walk_at "s"
      have z := no (by
        rw [show 9 - k = 0 by omega]
        rfl)
      rw [z] at q
      exact q _ (by walk_at "sm")
    cases ds with
    | nil => simp at lu; simp [lu] at c
    | cons d0 ds' =>
    obtain ⟨u0, us', rfl, h0, hus'⟩ := hus
    have okd : okD d0 = true ∧ okAll ds' = true := by simpa [okD, okAll] using ok1
    have hd0 : (∃ w, d0 = .str w) ∨ ∀ w, d0 ≠ .str w := by cases d0 <;> simp
    rcases hd0 with ⟨w, rfl⟩ | hn
    · cases (show _ = _ from h0)
      have l' := hus'.length
      have eR : isR L T C (9 - k) (.tuple (.str w :: ds')) = match placesOf T C w ds' with | none => isPlain L w ds' | some ps => (kids ds' ps).all (isR L T C (9 - (k + 1))) := by
        rw [show 9 - k = (8 - k) + 1 by omega, show 9 - (k + 1) = 8 - k by omega]
        simp only [List.length_cons] at c
        show (decide (1 ≤ ds'.length) && _) = _
        rw [decide_eq_true (by omega), Bool.true_and]
      walk_at "s"
      refine ⟨w, ds', ⟨t, us', rfl, ht2, hus'.le (Same.le sm2), okd.2⟩, ?_⟩
      cases hp : placesOf T C w ds' with
      | none =>
        rw [hp] at eR
        intro H3 sm3
        walk_at "s"
        refine ⟨w, ds', ⟨t, us', rfl, sm3 _ _ ht2, hus'.le (Same.le (L2.Same.trans sm2 sm3)), okd.2⟩, ?_⟩
        walk_at "s"
        rename_i H4 sm4
        cases hpl : isPlain L w ds' with
        | false =>
          have z := no (eR.trans hpl)
          rw [z] at q
          walk_at "s"
          exact q _ (L2.Same.trans sm2 (L2.Same.trans sm3 sm4))
        | true =>
          walk_at "s"
          have lt := sz_pos (.tuple (.str w :: ds'))
          refine ⟨_, ?_, r, qs, ws, _, _, _, _, rfl, rfl, sm4 _ _ (sm3 _ _ h2r), hrf, L2.Same.trans sm2 (L2.Same.trans sm3 sm4), q2.mono (fun p xs h => sm4 _ _ (sm3 _ _ h)), hok', by omega, ?_⟩
          · omega
          · rw [hres, List.all_append]
            simp [eR, hpl]
      | some ns =>
        rw [hp] at eR
        intro pp H3 sm3 hpp
        walk_at "s"
        refine lc_lst (fun D i H' => ∃ acc, H' D = some (.lst acc) ∧ Same H3 H' ∧ PrAll H H' (((kids ds' ns).map fun y => (y, k + 1)).take i) acc) hpp (fun D hD => ⟨[], upd_same, Same.new (.refl _) hD, rfl⟩) (fun D i H' _ _ ⟨_, _, e, _⟩ => e _ _ hpp) (fun D i x H' hD ex ⟨acc, hacc, smD, pacc⟩ => ?_) (fun D H4 hD ⟨acc, hacc, smD, pacc⟩ => ?_)
        · obtain ⟨n, en, rfl⟩ : ∃ n, ns[i]? = some n ∧ x = .int n := by
            rw [List.getElem?_map] at ex
            cases e : ns[i]? with
            | none => rw [e] at ex; cases ex
            | some n => rw [e] at ex; exact ⟨n, rfl, (Option.some.inj ex).symm⟩
          obtain ⟨u, hu1, hu2⟩ := place_at hp en hus'
          have smA : Same H2 H' := L2.Same.trans sm3 smD
          have ht3 := smA _ _ ht2
          walk_at "s"
          refine ⟨rfl, ?_⟩
          walk_at "s"
          refine ex_v hu1 ?_
          walk_at "s"
          rename_i pn hpn
          have la := pacc.length
          rw [List.length_take, List.length_map] at la
          have lk := szAll_len (a := kids ds' ns)
          have ks := kids_sz hp
          have hpD : pn ≠ D := fun z => by rw [z, hacc] at hpn; cases hpn
          have tupF : ∀ p xs, H' p = some (.tup xs) → (upd (upd H' pn (.tup [u, .int (k + 1)])) D (.lst (acc ++ [.ref pn]))) p = some (.tup xs) := fun p xs h => by
            rw [upd_ne (fun z => by rw [z, hacc] at h; cases h)]
            exact Same.new (.refl _) hpn _ _ h
          have ek : ((kids ds' ns).map fun y => (y, k + 1))[i]? = some (ds'.getD (n.toNat - 1) .none, k + 1) := by
            simp [kids, en]
          refine ⟨small_lt (by omega), _, upd_same, Same.mut (Same.new smD hpn) hD, ?_⟩
          rw [← take_snoc ek]
          exact PrAll.append (pacc.mono tupF) ⟨_, [], rfl, ⟨pn, u, rfl, by rw [upd_ne hpD]; exact upd_same, hu2⟩, rfl⟩
        · have la := pacc.length
          have lw := q2.length
          have ek : ((kids ds' ns).map fun y => (y, k + 1)).take (ns.map V.int).length = (kids ds' ns).map fun y => (y, k + 1) := List.take_of_length_le (by simp [kids])
          rw [ek] at pacc la
          rw [List.length_map] at la
          have lk := szAll_len (a := kids ds' ns)
          have lq := szAll_len (a := qs.map (·.1))
          rw [List.length_map] at lq
          have ks := kids_sz hp
          have smA : Same H2 H4 := L2.Same.trans sm3 smD
          walk_at "s"
          rename_i rn hrn
          have eqm : szAll ((qs ++ (kids ds' ns).map fun y => (y, k + 1)).map (·.1)) = szAll (qs.map (·.1)) + szAll (kids ds' ns) := by
            rw [List.map_append, szAll_append, List.map_map]
            simp [Function.comp_def]
          have tupF : ∀ p xs, H4 p = some (.tup xs) → (upd H4 rn (.lst (ws ++ acc))) p = some (.tup xs) := fun p xs h => Same.new (.refl _) hrn _ _ h
          refine ⟨_, ?_, rn, qs ++ (kids ds' ns).map fun y => (y, k + 1), ws ++ acc, _, _, _, _, rfl, rfl, upd_same, L2.Same.free (L2.Same.trans sm2 smA) hrn, Same.new (L2.Same.trans sm2 smA) hrn, PrAll.append (q2.mono fun p xs h => tupF _ _ (smA _ _ h)) (pacc.mono tupF), ?_, ?_, ?_⟩
          · rw [eqm]
            omega
          · intro x hx
            rcases List.mem_append.mp hx with z | z
            · exact hok' x z
            · obtain ⟨y, hy, rfl⟩ := List.mem_map.mp z
              exact ⟨okAll_mem okd.2 (kids_mem hp hy), by simp⟩
          · rw [eqm]
            omega
          · rw [hres, List.all_append, List.all_append, List.all_map]
            simp [eR, Function.comp_def]
    cases d0 <;> first | exact h0.elim | exact absurd rfl (hn _) | skip
    all_goals try (cases (show _ = _ from h0))
    all_goals
      walk_at "s"
      have z := no (isR_none fun w ds h => by simp at h)
      rw [z] at q
      exact q _ (by walk_at "sm")
  all_goals
    walk_at "s"
    have z := no (isR_none fun w ds h => by simp at h)
    rw [z] at q
    exact q _ (by walk_at "sm")
end
end Fl

-- after: r2.tpl
namespace Fl
open PySem PySem.Spec PyProof.Rows L2 RZ
/-! ### named -/
section
variable {P : Program} {w : World} {K : PySem.W.Frag} {mg : Str → Option Value} {base : Heap}
abbrev s_inner_rules : Stmt := topS 27
theorem sc_inner_rules : FnScope ["rule", "part"] ["rule"] (defScope s_inner_rules) := ⟨rfl, rfl, rfl, by decide +kernel, rfl, by decide +kernel, by decide +kernel⟩
def sp_inner_rules : Sp1 := fun a H Q _ => ∃ H0 t v0 vs ds, Same H0 H ∧ a = .ref t ∧ H t = some (.tup (v0 :: vs)) ∧ AtAll H0 ds vs ∧ vs.length ≤ 60000 ∧ ∀ p H' ws, Same H H' → H' p = some (.lst ws) → AtAll H0 (ds.filter isTupD) ws → Q (.ref p) H'
theorem ok_inner_rules (M : Mg mg) (D : DefAt K mg "inner_rules" s_inner_rules ["rule"]) : Has P w K mg base "inner_rules" ["rule"] 1 (sp1 sp_inner_rules) := by
  refine .mk1 D sc_inner_rules fun f cdv A outer s H a Q E hr h => ⟨_, (pss_one (ps_ret (pe_lc (own := [("part", 1)]) (g := gName 1) (by rfl) sc_inner_rules.nd (k_pi K rfl (pe_slice (k_sl K rfl) (pv 0) (po_some pe_int) po_none)) (blkOk_by (N := ["rule", "part"]) (sc := (defScope s_inner_rules)) (own := [("part", 1)]) (by decide +kernel)) (fun _ _ _ _ _ => (pg_name (i := 1) sc_inner_rules.nd rfl (by first | exact Or.inl rfl | exact Or.inr rfl))) (fun _ _ _ _ _ => (pts_one (pt_val (pe_callB (k_isi K rfl) (by rfl) M.isinstance (by decide +kernel) (pa_cons (pv 1) (pa_cons (pe_bltn (v := .ty "tuple") (by rfl) M.tuple (by decide +kernel) rfl) pa_nil)))))) (fun _ _ _ _ _ => (pv 1))))), ?_⟩
  obtain ⟨H0, t, v0, vs, ds, sm0, rfl, ht, hvs, l, q⟩ := h
  have lv := hvs.length
  refine Fl.go_start (σ0 := [some _, none]) rfl ?_
  walk_at "s"
  rename_i p1 H1 sm1 e1
  rw [cut_tail] at e1
  refine lc_tpl (fun D i H' => ∃ acc, H' D = some (.lst acc) ∧ Same H1 H' ∧ AtAll H0 ((ds.take i).filter isTupD) acc) e1 (fun D hD => ⟨[], upd_same, Same.new (.refl _) hD, rfl⟩) (fun D i H' _ _ ⟨_, _, e, _⟩ => e _ _ e1) (fun D i x H' hD ex ⟨acc, hacc, smD, pacc⟩ => ?_) (fun D H4 hD ⟨acc, hacc, smD, pacc⟩ => ?_)
  · obtain ⟨d, ed, hd⟩ := hvs.ix ex
    have la := pacc.length
    have lf := List.length_filter_le isTupD (ds.take i)
    rw [List.length_take] at lf
    refine ⟨rfl, ?_⟩
    rw [← take_snoc ed, List.filter_append]
    cases d <;> first | exact hd.elim | skip
    case tuple =>
      obtain ⟨b, us, rfl, hb, hus⟩ := id hd
      have hb' := smD _ _ (sm1 _ _ (sm0 _ _ hb))
      walk_at "s"
      exact ⟨Same.mut smD hD, pacc.append (AtAll.one hd)⟩
    all_goals try (cases (show _ = _ from hd))
    case list =>
      obtain ⟨b, us, rfl, hb, hus⟩ := id hd
      have hb' := smD _ _ (sm1 _ _ (sm0 _ _ hb))
      walk_at "s"
      simpa [isTupD] using pacc
    all_goals
      walk_at "s"
      simpa [isTupD] using pacc
  · rw [show (List.drop 1 (v0 :: vs)).length = ds.length by simp [lv], List.take_length] at pacc
    walk_at "s"
    exact q _ _ _ (L2.Same.trans sm1 smD) hacc pacc
def InnQ (H0 H : Hp) (ds : List PyData) (R : Addr → Hp → Prop) : Prop := ∀ p H' ws, Same H H' → H' p = some (.lst ws) → AtAll H0 (ds.filter isTupD) ws → R p H'
instance {H : Hp} {Q : VK} {E : XK} {a : V} : Step (sp_inner_rules a H Q E) (∃ H0 t v0 vs ds, Same H0 H ∧ a = .ref t ∧ H t = some (.tup (v0 :: vs)) ∧ AtAll H0 ds vs ∧ vs.length ≤ 60000 ∧ InnQ H0 H ds fun p H' => Q (.ref p) H') := ⟨fun h => h⟩
end
end Fl

-- after: r3.tpl
namespace Fl
open PySem PySem.Spec PyProof.Rows L2 RZ
theorem places_none {T C : Int} {w : Str} {ds : List PyData} (h1 : ¬ (w = "add" ∨ w = "take" ∨ w = "least" ∨ w = "most")) (h2 : ¬ w = "part") (h3 : ¬ w = "table") (h4 : ¬ w = "where") (h5 : ¬ w = "choose") : placesOf T C w ds = none := by
  simp only [placesOf, h1, h2, h3, h4, h5, false_and, if_false]
theorem places_part {T C : Int} {ds : List PyData} : placesOf T C "part" ds = if ds.length = 2 ∧ isWhole (ds.getD 1 .none) 0 100 = true then some [1] else none := by
  have n1 : ¬ ((("part" : Str) = "add" ∨ ("part" : Str) = "take" ∨ ("part" : Str) = "least" ∨ ("part" : Str) = "most")) := by decide +kernel
  have n3 : ¬ ("part" : Str) = "table" := by decide +kernel
  have n4 : ¬ ("part" : Str) = "where" := by decide +kernel
  have n5 : ¬ ("part" : Str) = "choose" := by decide +kernel
  simp only [placesOf, n1, n3, n4, n5, eq_self, true_and, false_and, if_false]
theorem places_table {T C : Int} {ds : List PyData} : placesOf T C "table" ds = if ds.length = 2 ∧ isWhole (ds.getD 0 .none) 0 (T - 1) = true then some [2] else none := by
  have n1 : ¬ ((("table" : Str) = "add" ∨ ("table" : Str) = "take" ∨ ("table" : Str) = "least" ∨ ("table" : Str) = "most")) := by decide +kernel
  have n2 : ¬ ("table" : Str) = "part" := by decide +kernel
  have n4 : ¬ ("table" : Str) = "where" := by decide +kernel
  have n5 : ¬ ("table" : Str) = "choose" := by decide +kernel
  simp only [placesOf, n1, n2, n4, n5, eq_self, true_and, false_and, if_false]
theorem places_choose {T C : Int} {ds : List PyData} : placesOf T C "choose" ds = if ds.length = 3 ∧ isWhole (ds.getD 0 .none) 0 (C - 1) = true then some [2, 3] else none := by
  have n1 : ¬ ((("choose" : Str) = "add" ∨ ("choose" : Str) = "take" ∨ ("choose" : Str) = "least" ∨ ("choose" : Str) = "most")) := by decide +kernel
  have n2 : ¬ ("choose" : Str) = "part" := by decide +kernel
  have n3 : ¬ ("choose" : Str) = "table" := by decide +kernel
  have n4 : ¬ ("choose" : Str) = "where" := by decide +kernel
  simp only [placesOf, n1, n2, n3, n4, eq_self, true_and, false_and, if_false]
theorem places_where {T C : Int} {ds : List PyData} : placesOf T C "where" ds = if ds.length = 3 then some [1, 2, 3] else none := by
  have n1 : ¬ ((("where" : Str) = "add" ∨ ("where" : Str) = "take" ∨ ("where" : Str) = "least" ∨ ("where" : Str) = "most")) := by decide +kernel
  have n2 : ¬ ("where" : Str) = "part" := by decide +kernel
  have n3 : ¬ ("where" : Str) = "table" := by decide +kernel
  have n5 : ¬ ("where" : Str) = "choose" := by decide +kernel
  simp only [placesOf, n1, n2, n3, n5, eq_self, true_and, false_and, if_false]
theorem places_four {T C : Int} {w : Str} {ds : List PyData} (h : (w = "add" ∨ w = "take" ∨ w = "least" ∨ w = "most")) : placesOf T C w ds = if ds.length = 2 then some [1, 2] else none := by
  have n2 : ¬ w = "part" := by rcases h with h | h | h | h <;> (rw [h]; decide +kernel)
  have n3 : ¬ w = "table" := by rcases h with h | h | h | h <;> (rw [h]; decide +kernel)
  have n4 : ¬ w = "where" := by rcases h with h | h | h | h <;> (rw [h]; decide +kernel)
  have n5 : ¬ w = "choose" := by rcases h with h | h | h | h <;> (rw [h]; decide +kernel)
  simp only [placesOf, h, n2, n3, n4, n5, true_and, false_and, if_false]
theorem whole_cases (d : PyData) : (∃ i, d = .int i) ∨ ((isIntD d && !isBoolD d) = false ∧ ∀ lo hi, isWhole d lo hi = false) := by
  cases d <;> simp [isIntD, isBoolD, isWhole]
end Fl

-- after: rq.tpl
namespace Fl
open PySem PySem.Spec PyProof.Rows L2 RZ
/-! ### values of one kind, sorted: whole numbers (false), texts (true) -/
def okK : Bool → V → Prop
  | false, v => ∃ i, v = .int i
  | true, v => ∃ s, v = .str s
def leV : V → V → Prop
  | .int i, .int j => i ≤ j
  | .str x, .str y => x.cps.toList ≤ y.cps.toList
  | _, _ => False
theorem leV_antisymm {b : Bool} {x y : V} (hx : okK b x) (hy : okK b y) (h1 : leV x y) (h2 : leV y x) : x = y := by
  cases b with
  | false =>
    obtain ⟨i, rfl⟩ := hx
    obtain ⟨j, rfl⟩ := hy
    exact congrArg V.int (Int.le_antisymm h1 h2)
  | true =>
    obtain ⟨i, rfl⟩ := hx
    obtain ⟨j, rfl⟩ := hy
    have e : i.cps.toList = j.cps.toList := List.le_antisymm h1 h2
    have e2 : i.cps = j.cps := Array.toList_inj.mp e
    obtain ⟨i⟩ := i
    obtain ⟨j⟩ := j
    exact congrArg V.str (congrArg Str.mk e2)
/-- the one sorted list without doubles of these values -/
structure Canon (b : Bool) (ys vs : List V) : Prop where
  ok : ∀ v ∈ ys, okK b v
  up : ys.Pairwise leV
  nd : ys.Nodup
  mem : ∀ v, v ∈ ys ↔ v ∈ vs
theorem sorted_eq {b : Bool} : ∀ {xs ys : List V}, (∀ v ∈ xs, okK b v) → xs.Pairwise leV → ys.Pairwise leV → xs.Nodup → ys.Nodup → (∀ v, v ∈ xs ↔ v ∈ ys) → xs = ys
  | [], ys, _, _, _, _, _, m => by
    cases ys with
    | nil => rfl
    | cons y r => exact absurd ((m y).mpr (List.mem_cons_self ..)) (List.not_mem_nil)
  | x :: r, [], _, _, _, _, _, m => absurd ((m x).mp (List.mem_cons_self ..)) (List.not_mem_nil)
  | x :: r, y :: t, ok, u1, u2, n1, n2, m => by
    have oy : okK b y := ok y ((m y).mpr (List.mem_cons_self ..))
    have ox := ok x (List.mem_cons_self ..)
    have u1' := List.pairwise_cons.mp u1
    have u2' := List.pairwise_cons.mp u2
    have n1' := List.nodup_cons.mp n1
    have n2' := List.nodup_cons.mp n2
    have e : x = y := by
      rcases List.mem_cons.mp ((m x).mp (List.mem_cons_self ..)) with z | z
      · exact z
      rcases List.mem_cons.mp ((m y).mpr (List.mem_cons_self ..)) with z' | z'
      · exact z'.symm
      exact leV_antisymm ox oy (u1'.1 y z') (u2'.1 x z)
    subst e
    refine congrArg (x :: ·) (sorted_eq (fun v hv => ok v (List.mem_cons_of_mem _ hv)) u1'.2 u2'.2 n1'.2 n2'.2 fun v => ?_)
    constructor
    · intro hv
      rcases List.mem_cons.mp ((m v).mp (List.mem_cons_of_mem _ hv)) with z | z
      · exact absurd (z ▸ hv) n1'.1
      · exact z
    · intro hv
      rcases List.mem_cons.mp ((m v).mpr (List.mem_cons_of_mem _ hv)) with z | z
      · exact absurd (z ▸ hv) n2'.1
      · exact z
theorem Canon.eq {b : Bool} {xs ys vs : List V} (h : Canon b xs vs) (k : Canon b ys vs) : xs = ys :=
  sorted_eq h.ok h.up k.up h.nd k.nd fun v => (h.mem v).trans (k.mem v).symm
theorem risingS_pw : ∀ {l : List Str} {p : Str}, risingS p l = true → (p :: l).Pairwise (fun a b => a.cps.toList ≤ b.cps.toList)
  | [], _, _ => List.pairwise_singleton _ _
  | x :: r, p, h => by
    have h' : (!ltCps x.cps.toList p.cps.toList && risingS x r) = true := h
    rw [Bool.and_eq_true, ltCps_eq] at h'
    have h1 : p.cps.toList ≤ x.cps.toList := by
      have := h'.1
      simp at this
      exact this
    have ih := risingS_pw h'.2
    refine List.pairwise_cons.mpr ⟨fun y hy => ?_, ih⟩
    rcases List.mem_cons.mp hy with rfl | hy
    · exact h1
    · exact List.le_trans h1 ((List.pairwise_cons.mp ih).1 y hy)
theorem sortedS_pw {l : List Str} (h : sortedS l = true) : l.Pairwise (fun a b => a.cps.toList ≤ b.cps.toList) := by
  cases l with
  | nil => exact List.Pairwise.nil
  | cons x r => exact risingS_pw h
def uSort (K : PySem.W.Frag) : List V → Hp → VK → Prop := fun vs H Q => rSortedI K vs H Q ∨ rSortedS K vs H Q
theorem k_sortU (K : PySem.W.Frag) {X : Cx} (h : X.K = K) : CallR X (.builtin "sorted") (uSort K) := by
  subst h
  intro pins s σ H vs us Q I r h
  rcases h with h | h
  · exact cr_sortedI pins s σ H vs us Q I r h
  · exact cr_sortedS pins s σ H vs us Q I r h
theorem ints_of {xs : List V} (h : ∀ v ∈ xs, okK false v) : ∃ ns : List Int, xs = ns.map V.int := by
  induction xs with
  | nil => exact ⟨[], rfl⟩
  | cons x r ih =>
    obtain ⟨i, rfl⟩ := h x (List.mem_cons_self ..)
    obtain ⟨ns, rfl⟩ := ih fun v hv => h v (List.mem_cons_of_mem _ hv)
    exact ⟨i :: ns, rfl⟩
theorem strs_of {xs : List V} (h : ∀ v ∈ xs, okK true v) : ∃ ns : List Str, xs = ns.map V.str := by
  induction xs with
  | nil => exact ⟨[], rfl⟩
  | cons x r ih =>
    obtain ⟨i, rfl⟩ := h x (List.mem_cons_self ..)
    obtain ⟨ns, rfl⟩ := ih fun v hv => h v (List.mem_cons_of_mem _ hv)
    exact ⟨i :: ns, rfl⟩
theorem sort_k {K : PySem.W.Frag} {H : Hp} {Q : VK} {a : Addr} {xs vs : List V} {b : Bool} (ha : H a = some (.lst xs)) (ok : ∀ v ∈ xs, okK b v) (nd : xs.Nodup) (few : b = true → xs.length < 64) (mem : ∀ v, v ∈ xs ↔ v ∈ vs)
    (q : ∀ (ys : List V) (p : Addr), Canon b ys vs → H p = none → Q (.ref p) (upd H p (.lst ys))) : uSort K [.ref a] H Q := by
  cases b with
  | false =>
    obtain ⟨ns, rfl⟩ := ints_of ok
    refine .inl ⟨a, ns, rfl, .of ha, fun ns' p pm up hp => q _ p ⟨fun v hv => ?_, ?_, ?_, fun v => ?_⟩ hp⟩
    · obtain ⟨i, _, rfl⟩ := List.mem_map.mp hv
      exact ⟨i, rfl⟩
    · exact List.pairwise_map.mpr up
    · exact (pm.map V.int).nodup_iff.mpr nd
    · exact ((pm.map V.int).mem_iff).trans (mem v)
  | true =>
    obtain ⟨ns, rfl⟩ := strs_of ok
    refine .inr ⟨a, ns, rfl, .of ha, by simpa using few rfl, fun ns' p pm up hp => q _ p ⟨fun v hv => ?_, ?_, ?_, fun v => ?_⟩ hp⟩
    · obtain ⟨i, _, rfl⟩ := List.mem_map.mp hv
      exact ⟨i, rfl⟩
    · exact List.pairwise_map.mpr (sortedS_pw up)
    · exact (pm.map V.str).nodup_iff.mpr nd
    · exact ((pm.map V.str).mem_iff).trans (mem v)
theorem eqV_k {b : Bool} {x y : V} (hx : okK b x) (hy : okK b y) : eqV y x = decide (x = y) := by
  cases b with
  | false =>
    obtain ⟨i, rfl⟩ := hx
    obtain ⟨j, rfl⟩ := hy
    show (j == i) = _
    by_cases h : i = j
    · subst h; simp
    · simp [h, Ne.symm h]
  | true =>
    obtain ⟨i, rfl⟩ := hx
    obtain ⟨j, rfl⟩ := hy
    show (j == i) = _
    by_cases h : i = j
    · subst h; simp
    · simp [h, Ne.symm h]
theorem inV_k {b : Bool} {x : V} {xs : List V} (hx : okK b x) (h : ∀ v ∈ xs, okK b v) : inV x xs = decide (x ∈ xs) := by
  induction xs with
  | nil => simp [inV]
  | cons y r ih =>
    show (eqV y x || inV x r) = _
    rw [eqV_k hx (h y (List.mem_cons_self ..)), ih fun v hv => h v (List.mem_cons_of_mem _ hv)]
    simp [List.mem_cons]
end Fl

-- after: r5.tpl
namespace Fl
open PySem PySem.Spec PyProof.Rows L2 RZ
/-! ### the values that a word names in a good rule -/
def vOf : PyData → V
  | .int i => .int i
  | .str s => .str s
  | _ => .non
def vals (word : Str) : Nat → PyData → List V
  | 0, _ => []
  | n + 1, d => match d with
    | .tuple (.str w :: ds) => (if w = word then [vOf (ds.getD 0 .none)] else []) ++ (ds.filter isTupD).flatMap (vals word n)
    | _ => []
def fiveW (b : Bool) (w : Str) : Prop := (b = true ∧ w = "paper") ∨ (b = false ∧ (w = "line" ∨ w = "earlier" ∨ w = "table" ∨ w = "choose"))
theorem isWhole_int {d : PyData} {lo hi : Int} (h : isWhole d lo hi = true) : ∃ i, d = .int i := by
  cases d <;> simp [isWhole] at h
  exact ⟨_, rfl⟩
theorem isWord_str {d : PyData} (h : isWord d = true) : ∃ s, d = .str s := by
  cases d <;> simp [isWord] at h
  exact ⟨_, rfl⟩
theorem good_shape {L T C : Int} {n : Nat} {d : PyData} (h : isR L T C n d = true) : ∃ m w ds, n = m + 1 ∧ d = .tuple (.str w :: ds) ∧ 1 ≤ ds.length ∧ (match placesOf T C w ds with | none => isPlain L w ds | some ps => (kids ds ps).all (isR L T C m)) = true := by
  cases n with
  | zero => cases h
  | succ m =>
    unfold isR isR1 at h
    split at h
    · rename_i w ds
      rw [Bool.and_eq_true] at h
      exact ⟨m, w, ds, rfl, rfl, of_decide_eq_true h.1, h.2⟩
    · cases h
theorem isR_tup {L T C : Int} {n : Nat} {d : PyData} (h : isR L T C n d = true) : isTupD d = true := by
  obtain ⟨m, w, ds, _, rfl, _⟩ := good_shape h
  rfl
theorem plain_one {L : Int} {w : Str} {ds : List PyData} (h : isPlain L w ds = true) : (∃ i, ds = [.int i]) ∨ ∃ s, ds = [.str s] := by
  unfold isPlain at h
  split at h
  · rw [Bool.and_eq_true] at h
    have l := of_decide_eq_true h.1
    match ds, l with
    | [x], _ =>
      obtain ⟨i, e⟩ := isWhole_int (show isWhole x _ _ = true from h.2)
      exact .inl ⟨i, by rw [e]⟩
  split at h
  · rw [Bool.and_eq_true] at h
    have l := of_decide_eq_true h.1
    match ds, l with
    | [x], _ =>
      obtain ⟨i, e⟩ := isWord_str (show isWord x = true from h.2)
      exact .inr ⟨i, by rw [e]⟩
  · rw [Bool.and_eq_true, Bool.and_eq_true] at h
    have l := of_decide_eq_true h.1.2
    match ds, l with
    | [x], _ =>
      obtain ⟨i, e⟩ := isWhole_int (show isWhole x _ _ = true from h.2)
      exact .inl ⟨i, by rw [e]⟩
theorem tups_kids {T C : Int} {w : Str} {ds : List PyData} {ps : List Int} (h : placesOf T C w ds = some ps) {d : PyData} (m : d ∈ ds) (t : isTupD d = true) : d ∈ kids ds ps := by
  have no : ∀ {x : PyData} {lo hi : Int}, isWhole x lo hi = true → ¬ isTupD x = true := fun hx ht => by
    obtain ⟨i, rfl⟩ := isWhole_int hx
    cases ht
  have hc := places_cases h
  unfold placesOf at h
  rcases hc with ⟨rfl, a, b, rfl⟩ | ⟨rfl, a, b, rfl⟩ | ⟨rfl, a, b, rfl⟩ | ⟨rfl, a, b, c, rfl⟩ | ⟨rfl, a, b, c, rfl⟩
  · simpa [kids] using m
  · have hb : isWhole b 0 100 = true := by
      simp only [List.length_cons, List.length_nil, List.getD_cons_zero, List.getD_cons_succ] at h
      split at h
      · simp at h
      split at h
      · rename_i g
        exact g.2.2
      split at h
      · simp at h
      split at h
      · simp at h
      split at h
      · simp at h
      · cases h
    simp only [List.mem_cons, List.not_mem_nil, or_false] at m
    rcases m with rfl | rfl
    · simp [kids]
    · exact absurd t (no hb)
  · have hb : isWhole a 0 (T - 1) = true := by
      simp only [List.length_cons, List.length_nil, List.getD_cons_zero, List.getD_cons_succ] at h
      split at h
      · simp at h
      split at h
      · simp at h
      split at h
      · rename_i g
        exact g.2.2
      split at h
      · simp at h
      split at h
      · simp at h
      · cases h
    simp only [List.mem_cons, List.not_mem_nil, or_false] at m
    rcases m with rfl | rfl
    · exact absurd t (no hb)
    · simp [kids]
  · simpa [kids] using m
  · have hb : isWhole a 0 (C - 1) = true := by
      simp only [List.length_cons, List.length_nil, List.getD_cons_zero, List.getD_cons_succ] at h
      split at h
      · simp at h
      split at h
      · simp at h
      split at h
      · simp at h
      split at h
      · simp at h
      split at h
      · rename_i g
        exact g.2.2
      · cases h
    simp only [List.mem_cons, List.not_mem_nil, or_false] at m
    rcases m with rfl | rfl | rfl
    · exact absurd t (no hb)
    · simp [kids]
    · simp [kids]
/-- the parts of a good rule -/
theorem good_tups {L T C : Int} {m : Nat} {w : Str} {ds : List PyData} (h : isR L T C (m + 1) (.tuple (.str w :: ds)) = true) {d : PyData} (hd : d ∈ ds) (t : isTupD d = true) : isR L T C m d = true := by
  obtain ⟨m', w', ds', e1, e2, _, h⟩ := good_shape h
  cases e1
  cases e2
  cases hp : placesOf T C w ds with
  | none =>
    rw [hp] at h
    rcases plain_one h with ⟨i, rfl⟩ | ⟨i, rfl⟩
    · rw [List.mem_singleton.mp hd] at t
      cases t
    · rw [List.mem_singleton.mp hd] at t
      cases t
  | some ps =>
    rw [hp] at h
    exact List.all_eq_true.mp h d (tups_kids hp hd t)
theorem good_val {L T C : Int} {m : Nat} {b : Bool} {w : Str} {ds : List PyData} (h : isR L T C (m + 1) (.tuple (.str w :: ds)) = true) (f : fiveW b w) : okK b (vOf (ds.getD 0 .none)) := by
  obtain ⟨m', w', ds', e1, e2, _, h⟩ := good_shape h
  cases e1
  cases e2
  rcases f with ⟨rfl, rfl⟩ | ⟨rfl, f⟩
  · rw [places_none (by decide +kernel) (by decide +kernel) (by decide +kernel) (by decide +kernel) (by decide +kernel)] at h
    have h' : isPlain L "paper" ds = true := h
    unfold isPlain at h'
    rw [if_neg (by decide +kernel), if_pos rfl, Bool.and_eq_true] at h'
    obtain ⟨s, e⟩ := isWord_str h'.2
    exact ⟨s, by rw [e]; rfl⟩
  · rcases f with rfl | rfl | rfl | rfl
    · rw [places_none (by decide +kernel) (by decide +kernel) (by decide +kernel) (by decide +kernel) (by decide +kernel)] at h
      have h' : isPlain L "line" ds = true := h
      unfold isPlain at h'
      rw [if_neg (by decide +kernel), if_neg (by decide +kernel), Bool.and_eq_true] at h'
      obtain ⟨s, e⟩ := isWhole_int h'.2
      exact ⟨s, by rw [e]; rfl⟩
    · rw [places_none (by decide +kernel) (by decide +kernel) (by decide +kernel) (by decide +kernel) (by decide +kernel)] at h
      have h' : isPlain L "earlier" ds = true := h
      unfold isPlain at h'
      rw [if_neg (by decide +kernel), if_neg (by decide +kernel), Bool.and_eq_true] at h'
      obtain ⟨s, e⟩ := isWhole_int h'.2
      exact ⟨s, by rw [e]; rfl⟩
    · rw [places_table] at h
      by_cases c : ds.length = 2 ∧ isWhole (ds.getD 0 .none) 0 (T - 1) = true
      · obtain ⟨s, e⟩ := isWhole_int c.2
        exact ⟨s, by rw [e]; rfl⟩
      · rw [if_neg c] at h
        have h' : isPlain L "table" ds = true := h
        unfold isPlain at h'
        rw [if_neg (by decide +kernel), if_neg (by decide +kernel), show (decide (("table" : Str) = "line") || decide (("table" : Str) = "earlier")) = false by decide +kernel] at h'
        simp at h'
    · rw [places_choose] at h
      by_cases c : ds.length = 3 ∧ isWhole (ds.getD 0 .none) 0 (C - 1) = true
      · obtain ⟨s, e⟩ := isWhole_int c.2
        exact ⟨s, by rw [e]; rfl⟩
      · rw [if_neg c] at h
        have h' : isPlain L "choose" ds = true := h
        unfold isPlain at h'
        rw [if_neg (by decide +kernel), if_neg (by decide +kernel), show (decide (("choose" : Str) = "line") || decide (("choose" : Str) = "earlier")) = false by decide +kernel] at h'
        simp at h'
theorem vals_ok {L T C : Int} {b : Bool} {w : Str} (f : fiveW b w) : ∀ {n : Nat} {d : PyData}, isR L T C n d = true → ∀ v ∈ vals w n d, okK b v
  | 0, _, h => by cases h
  | n + 1, d, h => by
    obtain ⟨m', w', ds, e1, rfl, _, _⟩ := good_shape h
    intro v hv
    simp only [vals, List.mem_append, List.mem_flatMap] at hv
    rcases hv with hv | ⟨e, he, hv⟩
    · by_cases c : w' = w
      · subst c
        rw [if_pos rfl] at hv
        rw [List.mem_singleton.mp hv]
        exact good_val h f
      · rw [if_neg c] at hv
        cases hv
    · obtain ⟨he1, he2⟩ := List.mem_filter.mp he
      exact vals_ok f (good_tups h he1 he2) v hv
end Fl

-- after: rl.tpl
namespace Fl
open PySem PySem.Spec PyProof.Rows L2 RZ
/-! ### short texts that are made -/
def OkT (n : Nat) (s : Str) : Prop := (∀ c ∈ s.cps.toList, c < 1114112) ∧ s.length ≤ n
theorem OkT.mono {n k : Nat} {s : Str} (h : OkT n s) (l : n ≤ k) : OkT k s := ⟨h.1, Nat.le_trans h.2 l⟩
theorem OkT.append {n k : Nat} {s t : Str} (h : OkT n s) (g : OkT k t) : OkT (n + k) (s ++ t) := by
  refine ⟨fun c hc => ?_, ?_⟩
  · have e : (s ++ t).cps = s.cps ++ t.cps := rfl
    rw [e, Array.toList_append, List.mem_append] at hc
    exact hc.elim (h.1 c) (g.1 c)
  · have e : (s ++ t).length = s.length + t.length := by
      show (s.cps ++ t.cps).size = _
      rw [Array.size_append]
      rfl
    have h2 := h.2
    have g2 := g.2
    omega
theorem OkT.ok {n : Nat} {s : Str} (h : OkT n s) (l : n ≤ 1000) : okD (.str s) = true := by
  simp only [okD, Bool.and_eq_true, PyData.canLay0]
  refine ⟨?_, decide_eq_true (Nat.le_trans h.2 l)⟩
  show s.cps.all (fun c => decide (c < 0x110000)) = true
  rw [Array.all_eq_true']
  intro c hc
  exact decide_eq_true (h.1 c (by simpa using hc))
theorem letters_ok : ∀ c ∈ letters.cps.toList, c < 1114112 := by decide +kernel
theorem OkT.sign {c : Nat} (h : c ∈ letters.cps.toList) : OkT 1 ⟨#[c]⟩ := ⟨fun d hd => by
  have e : d = c := by simpa using hd
  rw [e]
  exact letters_ok c h, Nat.le_refl _⟩
theorem OkT.cut {n : Nat} {s : Str} (h : OkT n s) (lo hi : Option Int) : OkT n (cutS s lo hi) :=
  ⟨fun c hc => h.1 c (by
    have hc' : c ∈ ((s.cps.toList.drop (HT.sIx s.length 0 lo)).take (HT.sIx s.length s.length hi - HT.sIx s.length 0 lo)) := by simpa [cutS] using hc
    exact List.mem_of_mem_drop (List.mem_of_mem_take hc')), Nat.le_trans (cutS_length s lo hi) h.2⟩
theorem atI_letter {r : Int} (h0 : 0 ≤ r) (h1 : r < 26) : ∃ c, atI letters.cps.toList r = some c ∧ c ∈ letters.cps.toList := by
  obtain ⟨v, h, _, m⟩ := atI_range (xs := letters.cps.toList) h0 (by
    have : letters.cps.toList.length = 26 := by decide +kernel
    omega)
  exact ⟨v, h, m⟩
end Fl

-- after: r9.tpl
namespace Fl
open PySem PySem.Spec PyProof.Rows L2 RZ
/-! every text of d lies in the pool -/
mutual
def inP (pool : List Str) : PyData → Bool
  | .none | .bool _ | .int _ => true
  | .str x => decide (x ∈ pool)
  | .list ds | .tuple ds => inPs pool ds
  | .dict _ => false
def inPs (pool : List Str) : List PyData → Bool
  | [] => true
  | d :: ds => inP pool d && inPs pool ds
end
mutual
theorem inP_ok {pool : List Str} (hp : ∀ s ∈ pool, OkT 1000 s) : ∀ d : PyData, inP pool d = true → okD d = true
  | .none, _ | .bool _, _ | .int _, _ => rfl
  | .str x, h => by
    simp only [inP] at h
    exact (hp x (of_decide_eq_true h)).ok (Nat.le_refl _)
  | .list ds, h | .tuple ds, h => by
    simp only [inP] at h
    simp only [okD]
    exact inPs_ok hp ds h
  | .dict _, h => by simp [inP] at h
theorem inPs_ok {pool : List Str} (hp : ∀ s ∈ pool, OkT 1000 s) : ∀ ds : List PyData, inPs pool ds = true → okAll ds = true
  | [], _ => rfl
  | d :: ds, h => by
    simp only [inPs, Bool.and_eq_true] at h
    simp only [okAll, Bool.and_eq_true]
    exact ⟨inP_ok hp d h.1, inPs_ok hp ds h.2⟩
end
theorem inPs_mem {pool : List Str} {ds : List PyData} (h : inPs pool ds = true) {d : PyData} (m : d ∈ ds) : inP pool d = true := by
  induction ds with
  | nil => cases m
  | cons e r ih =>
    simp only [inPs, Bool.and_eq_true] at h
    rcases List.mem_cons.mp m with z | z
    · rw [z]; exact h.1
    · exact ih h.2 z
end Fl

-- after: r6.tpl r11.tpl
namespace Fl
open PySem PySem.Spec PyProof.Rows L2 RZ
/-! ### rules as trees -/
inductive Rule where
  | num (n : Int)
  | paper (w : Str)
  | line (k : Int)
  | earl (k : Int)
  | two (w : Str) (a b : Rule)
  | part (a : Rule) (p : Int)
  | table (k : Int) (a : Rule)
  | wher (a b c : Rule)
  | choo (k : Int) (a b : Rule)
def Rule.d : Rule → PyData
  | .num n => .tuple [.str "number", .int n]
  | .paper w => .tuple [.str "paper", .str w]
  | .line k => .tuple [.str "line", .int k]
  | .earl k => .tuple [.str "earlier", .int k]
  | .two w a b => .tuple [.str w, a.d, b.d]
  | .part a p => .tuple [.str "part", a.d, .int p]
  | .table k a => .tuple [.str "table", .int k, a.d]
  | .wher a b c => .tuple [.str "where", a.d, b.d, c.d]
  | .choo k a b => .tuple [.str "choose", .int k, a.d, b.d]
/-- what the rules of a form are drawn from -/
structure Sg where
  L : Int
  T : Int
  C : Int
  seen : List Int
  pool : List Str
def op4 (w : Str) : Prop := w = "add" ∨ w = "take" ∨ w = "least" ∨ w = "most"
def Rule.ok (g : Sg) : Nat → Rule → Prop
  | 0, _ => False
  | _ + 1, .num k => -1000000000 ≤ k ∧ k ≤ 1000000000
  | _ + 1, .paper w => w ∈ g.pool
  | _ + 1, .line k => k ∈ g.seen
  | _ + 1, .earl k => 0 ≤ k ∧ k < g.L
  | n + 1, .two w a b => op4 w ∧ a.ok g n ∧ b.ok g n
  | n + 1, .part a p => (0 ≤ p ∧ p ≤ 100) ∧ a.ok g n
  | n + 1, .table k a => (0 ≤ k ∧ k < g.T) ∧ a.ok g n
  | n + 1, .wher a b c => a.ok g n ∧ b.ok g n ∧ c.ok g n
  | n + 1, .choo k a b => (0 ≤ k ∧ k < g.C) ∧ a.ok g n ∧ b.ok g n
theorem Rule.ok_succ {g : Sg} : ∀ {n : Nat} {r : Rule}, r.ok g n → r.ok g (n + 1)
  | 0, _, h => h.elim
  | _ + 1, .num _, h => h
  | _ + 1, .paper _, h => h
  | _ + 1, .line _, h => h
  | _ + 1, .earl _, h => h
  | _ + 1, .two _ _ _, h => ⟨h.1, ok_succ h.2.1, ok_succ h.2.2⟩
  | _ + 1, .part _ _, h => ⟨h.1, ok_succ h.2⟩
  | _ + 1, .table _ _, h => ⟨h.1, ok_succ h.2⟩
  | _ + 1, .wher _ _ _, h => ⟨ok_succ h.1, ok_succ h.2.1, ok_succ h.2.2⟩
  | _ + 1, .choo _ _ _, h => ⟨h.1, ok_succ h.2.1, ok_succ h.2.2⟩
theorem Rule.ok_mono {g : Sg} {r : Rule} {n m : Nat} (l : n ≤ m) (h : r.ok g n) : r.ok g m := by
  induction l with
  | refl => exact h
  | step _ ih => exact ok_succ ih
/-- .. with more lines that may be named -/
theorem Rule.ok_seen {g : Sg} {xs : List Int} (hx : ∀ k ∈ g.seen, k ∈ xs) : ∀ {n : Nat} {r : Rule}, r.ok g n → r.ok { g with seen := xs } n
  | 0, _, h => h.elim
  | _ + 1, .num _, h => h
  | _ + 1, .paper _, h => h
  | _ + 1, .line _, h => hx _ h
  | _ + 1, .earl _, h => h
  | _ + 1, .two _ _ _, h => ⟨h.1, ok_seen hx h.2.1, ok_seen hx h.2.2⟩
  | _ + 1, .part _ _, h => ⟨h.1, ok_seen hx h.2⟩
  | _ + 1, .table _ _, h => ⟨h.1, ok_seen hx h.2⟩
  | _ + 1, .wher _ _ _, h => ⟨ok_seen hx h.1, ok_seen hx h.2.1, ok_seen hx h.2.2⟩
  | _ + 1, .choo _ _ _, h => ⟨h.1, ok_seen hx h.2.1, ok_seen hx h.2.2⟩
/-- which it names behind a word -/
def Rule.lines : Rule → List Int
  | .line k => [k]
  | .num _ | .paper _ | .earl _ => []
  | .two _ a b => a.lines ++ b.lines
  | .part a _ => a.lines
  | .table _ a => a.lines
  | .wher a b c => a.lines ++ b.lines ++ c.lines
  | .choo _ a b => a.lines ++ b.lines
/-- the words that are none of the data's own -/
def kw : List Str := ["number", "paper", "line", "earlier", "add", "take", "least", "most", "part", "table", "where", "choose"]
theorem op4_kw {w : Str} (h : op4 w) : w ∈ kw := by
  rcases h with rfl | rfl | rfl | rfl <;> simp [kw]
theorem Rule.tup (r : Rule) : isTupD r.d = true := by cases r <;> rfl
/-- all texts of a rule lie in its words and those of the pool -/
theorem Rule.inP {g : Sg} : ∀ {n : Nat} {r : Rule}, r.ok g n → Fl.inP (kw ++ g.pool) r.d = true
  | 0, _, h => h.elim
  | _ + 1, .num _, _ => by simp [Rule.d, Fl.inP, inPs, kw]
  | _ + 1, .paper _, h => by
    have h' := show _ ∈ g.pool from h
    simp [Rule.d, Fl.inP, inPs, kw, h']
  | _ + 1, .line _, _ => by simp [Rule.d, Fl.inP, inPs, kw]
  | _ + 1, .earl _, _ => by simp [Rule.d, Fl.inP, inPs, kw]
  | _ + 1, .two w a b, h => by
    have e := op4_kw h.1
    simp only [Rule.d, Fl.inP, inPs, Rule.inP h.2.1, Rule.inP h.2.2, Bool.and_true]
    exact decide_eq_true (List.mem_append_left _ e)
  | _ + 1, .part a _, h => by
    simp only [Rule.d, Fl.inP, inPs, Rule.inP h.2, Bool.and_true]
    simp [kw]
  | _ + 1, .table _ a, h => by
    simp only [Rule.d, Fl.inP, inPs, Rule.inP h.2, Bool.and_true]
    simp [kw]
  | _ + 1, .wher a b c, h => by
    simp only [Rule.d, Fl.inP, inPs, Rule.inP h.1, Rule.inP h.2.1, Rule.inP h.2.2, Bool.and_true]
    simp [kw]
  | _ + 1, .choo _ a b, h => by
    simp only [Rule.d, Fl.inP, inPs, Rule.inP h.2.1, Rule.inP h.2.2, Bool.and_true]
    simp [kw]
theorem Rule.sz_le {g : Sg} : ∀ {n : Nat} {r : Rule}, r.ok g n → sz r.d ≤ 2 * 3 ^ n - 1
  | 0, _, h => h.elim
  | n + 1, r, h => by
    have e : 3 ^ (n + 1) = 3 * 3 ^ n := by rw [Nat.pow_succ]; omega
    have e0 : 0 < 3 ^ n := Nat.pow_pos (by decide)
    cases r with
    | num _ => simp only [Rule.d, sz, szAll]; omega
    | paper _ => simp only [Rule.d, sz, szAll]; omega
    | line _ => simp only [Rule.d, sz, szAll]; omega
    | earl _ => simp only [Rule.d, sz, szAll]; omega
    | two w a b =>
      have h1 := Rule.sz_le h.2.1
      have h2 := Rule.sz_le h.2.2
      simp only [Rule.d, sz, szAll]; omega
    | part a p =>
      have h1 := Rule.sz_le h.2
      simp only [Rule.d, sz, szAll]; omega
    | table k a =>
      have h1 := Rule.sz_le h.2
      simp only [Rule.d, sz, szAll]; omega
    | wher a b c =>
      have h1 := Rule.sz_le h.1
      have h2 := Rule.sz_le h.2.1
      have h3 := Rule.sz_le h.2.2
      simp only [Rule.d, sz, szAll]; omega
    | choo k a b =>
      have h1 := Rule.sz_le h.2.1
      have h2 := Rule.sz_le h.2.2
      simp only [Rule.d, sz, szAll]; omega
end Fl

-- after: ru.tpl
namespace Fl
open PySem PySem.Spec PyProof.Rows L2 RZ
structure Sg.Fine (g : Sg) : Prop where
  pool : ∀ w ∈ g.pool, isWord (.str w) = true
  seen : ∀ k ∈ g.seen, 0 ≤ k ∧ k < g.L
theorem isWhole_of {i lo hi : Int} (h1 : lo ≤ i) (h2 : i ≤ hi) : isWhole (.int i) lo hi = true := by
  simp [isWhole, h1, h2]
theorem isR_eq {L T C : Int} {n : Nat} {w : Str} {ds : List PyData} : isR L T C (n + 1) (.tuple (.str w :: ds)) = (decide (1 ≤ ds.length) && match placesOf T C w ds with | none => isPlain L w ds | some ps => (kids ds ps).all (isR L T C n)) := rfl
theorem Rule.isR {g : Sg} (f : g.Fine) : ∀ {n : Nat} {r : Rule}, r.ok g n → Fl.isR g.L g.T g.C n r.d = true
  | 0, _, h => h.elim
  | n + 1, .num k, h => by
    have h := (show -1000000000 ≤ k ∧ k ≤ 1000000000 from h)
    rw [Rule.d, isR_eq, places_none (by decide +kernel) (by decide +kernel) (by decide +kernel) (by decide +kernel) (by decide +kernel)]
    simp [isPlain, isNumber, isWhole, h]
  | n + 1, .paper w, h => by
    rw [Rule.d, isR_eq, places_none (by decide +kernel) (by decide +kernel) (by decide +kernel) (by decide +kernel) (by decide +kernel)]
    show (true && isPlain g.L "paper" [.str w]) = true
    unfold isPlain
    rw [if_neg (by decide +kernel), if_pos rfl]
    simpa using f.pool w h
  | n + 1, .line k, h => by
    have h := f.seen k h
    rw [Rule.d, isR_eq, places_none (by decide +kernel) (by decide +kernel) (by decide +kernel) (by decide +kernel) (by decide +kernel)]
    show (true && isPlain g.L "line" [.int k]) = true
    unfold isPlain
    rw [if_neg (by decide +kernel), if_neg (by decide +kernel)]
    simp [isWhole, h.1]
    omega
  | n + 1, .earl k, h => by
    have h := (show 0 ≤ k ∧ k < g.L from h)
    rw [Rule.d, isR_eq, places_none (by decide +kernel) (by decide +kernel) (by decide +kernel) (by decide +kernel) (by decide +kernel)]
    show (true && isPlain g.L "earlier" [.int k]) = true
    unfold isPlain
    rw [if_neg (by decide +kernel), if_neg (by decide +kernel)]
    simp [isWhole, h.1]
    omega
  | n + 1, .two w a b, h => by
    rw [Rule.d, isR_eq, places_four h.1]
    simp [kids, Rule.isR f h.2.1, Rule.isR f h.2.2]
  | n + 1, .part a p, h => by
    rw [Rule.d, isR_eq, places_part]
    simp [kids, Rule.isR f h.2, isWhole, h.1.1, h.1.2]
  | n + 1, .table k a, h => by
    rw [Rule.d, isR_eq, places_table]
    have e : isWhole (.int k) 0 (g.T - 1) = true := isWhole_of h.1.1 (by have := h.1.2; omega)
    simp [kids, Rule.isR f h.2, e]
  | n + 1, .wher a b c, h => by
    rw [Rule.d, isR_eq, places_where]
    simp [kids, Rule.isR f h.1, Rule.isR f h.2.1, Rule.isR f h.2.2]
  | n + 1, .choo k a b, h => by
    rw [Rule.d, isR_eq, places_choose]
    have e : isWhole (.int k) 0 (g.C - 1) = true := isWhole_of h.1.1 (by have := h.1.2; omega)
    simp [kids, Rule.isR f h.2.1, Rule.isR f h.2.2, e]
/-- what stands behind one of the five words -/
def Rule.names (x : Str) : Rule → List V
  | .num _ => []
  | .paper w => if x = "paper" then [.str w] else []
  | .line k => if x = "line" then [.int k] else []
  | .earl k => if x = "earlier" then [.int k] else []
  | .two _ a b => a.names x ++ b.names x
  | .part a _ => a.names x
  | .table k a => (if x = "table" then [.int k] else []) ++ a.names x
  | .wher a b c => a.names x ++ (b.names x ++ c.names x)
  | .choo k a b => (if x = "choose" then [.int k] else []) ++ (a.names x ++ b.names x)
theorem five_not {b : Bool} {x w : Str} (f : fiveW b x) (h : w = "number" ∨ op4 w ∨ w = "part" ∨ w = "where") : ¬ w = x := by
  rintro rfl
  rcases f with ⟨_, rfl⟩ | ⟨_, rfl | rfl | rfl | rfl⟩ <;> (unfold op4 at h; revert h; decide +kernel)
theorem flat1 {x : Str} {n : Nat} {a : PyData} {ds : List PyData} (h : isTupD a = true) : ((a :: ds).filter isTupD).flatMap (vals x n) = vals x n a ++ (ds.filter isTupD).flatMap (vals x n) := by
  rw [List.filter_cons, h]
  rfl
theorem flat0 {x : Str} {n : Nat} {k : Int} {ds : List PyData} : ((.int k :: ds).filter isTupD).flatMap (vals x n) = (ds.filter isTupD).flatMap (vals x n) := rfl
theorem flatS {x w : Str} {n : Nat} {ds : List PyData} : ((.str w :: ds).filter isTupD).flatMap (vals x n) = (ds.filter isTupD).flatMap (vals x n) := rfl
theorem flatN {x : Str} {n : Nat} : (([] : List PyData).filter isTupD).flatMap (vals x n) = [] := rfl
theorem Rule.vals {g : Sg} {b : Bool} {x : Str} (f : fiveW b x) : ∀ {n : Nat} {r : Rule}, r.ok g n → Fl.vals x n r.d = r.names x
  | 0, _, h => h.elim
  | n + 1, .num k, h => by
    simp only [Rule.d, Fl.vals, Rule.names, flat0, flatN, if_neg (five_not f (.inl rfl))]
    rfl
  | n + 1, .paper w, h => by
    simp only [Rule.d, Fl.vals, Rule.names, flatS, flatN, List.append_nil, List.getD_cons_zero, vOf, eq_comm]
  | n + 1, .line k, h => by
    simp only [Rule.d, Fl.vals, Rule.names, flat0, flatN, List.append_nil, List.getD_cons_zero, vOf, eq_comm]
  | n + 1, .earl k, h => by
    simp only [Rule.d, Fl.vals, Rule.names, flat0, flatN, List.append_nil, List.getD_cons_zero, vOf, eq_comm]
  | n + 1, .two w a b, h => by
    simp only [Rule.d, Fl.vals, Rule.names, flat1 (Rule.tup _), flatN, if_neg (five_not f (.inr (.inl h.1))), List.append_nil, List.nil_append]
    rw [Rule.vals f h.2.1, Rule.vals f h.2.2]
  | n + 1, .part a p, h => by
    simp only [Rule.d, Fl.vals, Rule.names, flat1 (Rule.tup _), flat0, flatN, if_neg (five_not f (.inr (.inr (.inl rfl)))), List.append_nil, List.nil_append]
    rw [Rule.vals f h.2]
  | n + 1, .table k a, h => by
    simp only [Rule.d, Fl.vals, Rule.names, flat1 (Rule.tup _), flat0, flatN, List.append_nil, List.getD_cons_zero, vOf]
    rw [Rule.vals f h.2]
    simp only [eq_comm]
  | n + 1, .wher a b c, h => by
    simp only [Rule.d, Fl.vals, Rule.names, flat1 (Rule.tup _), flatN, if_neg (five_not f (.inr (.inr (.inr rfl)))), List.append_nil, List.nil_append]
    rw [Rule.vals f h.1, Rule.vals f h.2.1, Rule.vals f h.2.2]
  | n + 1, .choo k a b, h => by
    simp only [Rule.d, Fl.vals, Rule.names, flat1 (Rule.tup _), flat0, flatN, List.append_nil, List.getD_cons_zero, vOf]
    rw [Rule.vals f h.2.1, Rule.vals f h.2.2]
    simp only [eq_comm]
theorem Rule.names_line : ∀ r : Rule, r.names "line" = r.lines.map V.int := by
  intro r
  have e1 : ¬ ("line" : Str) = "paper" := by decide +kernel
  have e2 : ¬ ("line" : Str) = "earlier" := by decide +kernel
  have e3 : ¬ ("line" : Str) = "table" := by decide +kernel
  have e4 : ¬ ("line" : Str) = "choose" := by decide +kernel
  induction r <;> simp_all [Rule.names, Rule.lines]
theorem Rule.tupO : ∀ r : Rule, tupOnly r.d = true := by
  intro r
  induction r <;> simp_all [Rule.d, tupOnly, tupsOnly]
theorem rules_tupO (rs : List Rule) : tupsOnly (rs.map Rule.d) = true := tupsOnly_all fun d hd => by
  obtain ⟨r, _, rfl⟩ := List.mem_map.mp hd
  exact r.tupO
end Fl

-- after: wn.tpl
namespace Fl
open PySem PySem.Spec PyProof.Rows L2 RZ
section
variable {P : Program} {w : World} {K : PySem.W.Frag} {mg : Str → Option Value} {base : Heap}
/-! ### the law's own small defs -/
abbrev s__law_cell_at : Stmt := topS 52
theorem sc__law_cell_at : FnScope ["_law_script", "_law_k"] ["_law_script", "_law_k"] (defScope s__law_cell_at) := ⟨rfl, rfl, rfl, by decide +kernel, rfl, by decide +kernel, by decide +kernel⟩
def sp_cell_at (K : PySem.W.Frag) : Sp2 := fun a b H Q _ => ∃ (sc : Addr) (ns : List Int) (k : Int), a = .ref sc ∧ SqL K H sc (ns.map V.int) ∧ b = .int k ∧ 0 ≤ k ∧ ∀ z : Int, Q (.int z) H
theorem ok_cell_at (M : Mg mg) (D : DefAt K mg "_law_cell_at" s__law_cell_at ["_law_script", "_law_k"]) : Has P w K mg base "_law_cell_at" ["_law_script", "_law_k"] 1 (sp2 (sp_cell_at K)) := by
  refine .mk2 D sc__law_cell_at fun f cdv A outer s H a b Q E hr h => ⟨_, (pss_cons (ps_if (pt_cmpR o_lt (pv 1) (pe_callB (k_len K rfl) (by rfl) M.len (by decide +kernel) (pa_cons (pv 0) pa_nil)) (nomark _)) (pss_one (ps_ret (pe_ix (k_ix K rfl) (pv 0) (pv 1) (fun _ _ => rfl)))) pss_nil)
    (pss_one (ps_ret pe_int))), ?_⟩
  obtain ⟨sc, ns, k, rfl, hS, rfl, hk, q⟩ := h
  refine Fl.go_start (σ0 := [some _, some _]) rfl ?_
  have hS' : IsSq K H sc (ns.map V.int) := .inl hS
  walk_at "s"
  refine if_d (fun c => ?_) (fun c => ?_)
  · walk_at "s"
    obtain ⟨v, e, _, hm⟩ := atI_range hk c
    obtain ⟨z, _, rfl⟩ := List.mem_map.mp hm
    exact ⟨_, e, q z⟩
  · walk_at "s"
    exact q 0
instance {H : Hp} {Q : VK} {E : XK} {sc : Addr} {k : Int} : Step (sp_cell_at K (.ref sc) (.int k) H Q E) (∃ ns, Scr K H sc ns ∧ 0 ≤ k ∧ IntQ fun z => Q (.int z) H) := ⟨fun ⟨ns, h, hk, q⟩ => ⟨sc, ns, k, rfl, h.sq, rfl, hk, q⟩⟩
abbrev s__law_mixed : Stmt := topS 53
theorem sc__law_mixed : FnScope ["_law_cell", "_law_k"] ["_law_cell", "_law_k"] (defScope s__law_mixed) := ⟨rfl, rfl, rfl, by decide +kernel, rfl, by decide +kernel, by decide +kernel⟩
def sp_mixed : Sp2 := fun a b H Q _ => ∃ i j, a = .int i ∧ b = .int j ∧ ∀ z : Int, 0 ≤ z → z < 2147483647 → Q (.int z) H
theorem ok_mixed (M : Mg mg) (D : DefAt K mg "_law_mixed" s__law_mixed ["_law_cell", "_law_k"]) : Has P w K mg base "_law_mixed" ["_law_cell", "_law_k"] 1 (sp2 sp_mixed) := by
  refine .mk2 D sc__law_mixed fun f cdv A outer s H a b Q E hr h => ⟨_, (pss_one (ps_ret (pe_op o_mod (pe_op o_mul (pe_op (k_add K rfl) (pv 0) (pe_op o_mul pe_int (pv 1))) pe_int) pe_int))), ?_⟩
  obtain ⟨i, j, rfl, rfl, q⟩ := h
  refine Fl.go_start (σ0 := [some _, some _]) rfl ?_
  walk_at "s"
  exact q _ (Int.emod_nonneg _ (by decide)) (Int.emod_lt_of_pos _ (by decide))
instance {H : Hp} {Q : VK} {E : XK} {i j : Int} : Step (sp_mixed (.int i) (.int j) H Q E) (MixQ fun z => Q (.int z) H) := ⟨fun h => ⟨i, j, rfl, rfl, h⟩⟩
abbrev s__law_next : Stmt := topS 54
theorem sc__law_next : FnScope ["_law_state", "_law_size"] ["_law_state", "_law_size"] (defScope s__law_next) := ⟨rfl, rfl, rfl, by decide +kernel, rfl, by decide +kernel, by decide +kernel⟩
def sp_next : Sp2 := fun a b H Q _ => ∃ s n x, a = .ref s ∧ b = .int n ∧ H s = some (.lst [.int x]) ∧ 0 < n ∧ ∀ y r : Int, 0 ≤ r → r < n → Q (.int r) (upd H s (.lst [.int y]))
instance {H : Hp} {Q : VK} {E : XK} {s : Addr} {n : Int} : Step (sp_next (.ref s) (.int n) H Q E) (∃ xs, H s = some (.lst xs) ∧ (∃ x, xs = [.int x]) ∧ 0 < n ∧ NextQ s n H fun r H' => Q (.int r) H') := ⟨fun ⟨xs, h, ⟨x, e⟩, hn, q⟩ => ⟨s, n, x, rfl, rfl, by rw [← e]; exact h, hn, q⟩⟩
theorem ok_next (M : Mg mg) (D : DefAt K mg "_law_next" s__law_next ["_law_state", "_law_size"]) : Has P w K mg base "_law_next" ["_law_state", "_law_size"] 1 (sp2 sp_next) := by
  refine .mk2 D sc__law_next fun f cdv A outer s0 H a b Q E hr h => ⟨_, (pss_cons (ps_asg (pe_op o_mod (pe_op (k_add K rfl) (pe_op o_mul (pe_ix (k_ix K rfl) (pv 0) pe_int (fun _ _ => rfl)) pe_int) pe_int) pe_int) (pg_sub (pv 0) pe_int set_list))
    (pss_one (ps_ret (pe_op o_mod (pe_op o_div (pe_ix (k_ix K rfl) (pv 0) pe_int (fun _ _ => rfl)) pe_int) (pv 1))))), ?_⟩
  obtain ⟨s, n, x, rfl, rfl, hs, hn, q⟩ := h
  refine Fl.go_start (σ0 := [some _, some _]) rfl ?_
  walk_at "s"
  exact q _ _ (Int.emod_nonneg _ (by omega)) (Int.emod_lt_of_pos _ hn)
abbrev s__law_number : Stmt := topS 56
theorem sc__law_number : FnScope ["_law_state", "_law_kind"] ["_law_state"] (defScope s__law_number) := ⟨rfl, rfl, rfl, by decide +kernel, rfl, by decide +kernel, by decide +kernel⟩
def sp_number : Sp1 := fun a H Q _ => ∃ s x, a = .ref s ∧ H s = some (.lst [.int x]) ∧ ∀ (z : Int) H', -1000000000 ≤ z → z ≤ 1000000000 → Gs s H H' → Q (.int z) H'
theorem ok_number (M : Mg mg) (G__law_next : Has P w K mg base "_law_next" ["_law_state", "_law_size"] 1 (sp2 sp_next)) (D : DefAt K mg "_law_number" s__law_number ["_law_state"]) : Has P w K mg base "_law_number" ["_law_state"] 2 (sp1 sp_number) := by
  refine .mk1 D sc__law_number fun f cdv A outer s0 H a Q E hr h => ⟨_, (pss_cons (ps_set (i := 1) sc__law_number.nd rfl (by first | exact Or.inl rfl | exact Or.inr rfl) (pe_own G__law_next (hr.mono (by first | decide | omega)) (by rfl) p_body (pa_cons (pv 0) (pa_cons pe_int pa_nil))))
    (pss_cons (ps_if (pt_cmpR (k_eq K rfl hr) (pv 1) pe_int (nomark _)) (pss_one (ps_ret (pe_ix (k_ix K rfl) (pe_lst (pa_cons (pe_un o_neg (pe_op o_pow pe_int pe_int)) (pa_cons (pe_op o_pow pe_int pe_int) (pa_cons (pe_op o_sub (pe_op o_pow pe_int pe_int) pe_int) (pa_cons (pe_op o_sub pe_int (pe_op o_pow pe_int pe_int)) pa_nil))))) (pe_own G__law_next (hr.mono (by first | decide | omega)) (by rfl) p_body (pa_cons (pv 0) (pa_cons pe_int pa_nil))) (fun _ _ => rfl)))) pss_nil)
    (pss_cons (ps_if (pt_cmpR (k_eq K rfl hr) (pv 1) pe_int (nomark _)) (pss_one (ps_ret (pe_op o_sub (pe_own G__law_next (hr.mono (by first | decide | omega)) (by rfl) p_body (pa_cons (pv 0) (pa_cons pe_int pa_nil))) pe_int))) pss_nil)
    (pss_one (ps_ret (pe_op o_sub (pe_own G__law_next (hr.mono (by first | decide | omega)) (by rfl) p_body (pa_cons (pv 0) (pa_cons pe_int pa_nil))) pe_int)))))), ?_⟩
  obtain ⟨s, x, rfl, hs, q⟩ := h
  refine Fl.go_start (σ0 := [some _, none]) rfl ?_
  walk_at "s"
  rename_i y r h0 h1
  refine if_d (fun c => ?_) (fun c => ?_)
  · walk_at "s"
    rename_i p1 hp1 y2 r2 g0 g1
    have gs : Gs s H (upd (upd (upd H s (.lst [.int y])) p1 (.lst [V.int (-10 ^ Int.toNat 9), V.int (10 ^ Int.toNat 9), V.int (10 ^ Int.toNat 9 - 1), V.int (1 - 10 ^ Int.toNat 9)])) s (.lst [.int y2])) := by walk_at "gs"
    rcases four g0 g1 with rfl | rfl | rfl | rfl <;> (refine ex_v rfl ?_; exact q _ _ (by decide) (by decide) gs)
  walk_at "s"
  refine if_d (fun c => ?_) (fun c => ?_)
  · walk_at "s"
    exact q _ _ (by omega) (by omega) (by walk_at "gs")
  walk_at "s"
  exact q _ _ (by omega) (by omega) (by walk_at "gs")
instance {H : Hp} {Q : VK} {E : XK} {s : Addr} : Step (sp_number (.ref s) H Q E) (∃ xs, H s = some (.lst xs) ∧ (∃ x, xs = [.int x]) ∧ NumQ s H fun z H' => Q (.int z) H') := ⟨fun ⟨xs, h, ⟨x, e⟩, q⟩ => ⟨s, x, rfl, by rw [← e]; exact h, q⟩⟩
abbrev s__law_whole : Stmt := topS 55
theorem sc__law_whole : FnScope ["_law_found"] ["_law_found"] (defScope s__law_whole) := ⟨rfl, rfl, rfl, by decide +kernel, rfl, by decide +kernel, by decide +kernel⟩
def sp_whole : Sp1 := fun a H Q _ => ∃ d, Typ H a d ∧ Q (.bl (isIntD d && !isBoolD d)) H
theorem ok_whole (M : Mg mg) (D : DefAt K mg "_law_whole" s__law_whole ["_law_found"]) : Has P w K mg base "_law_whole" ["_law_found"] 1 (sp1 sp_whole) := by
  refine .mk1 D sc__law_whole fun f cdv A outer s H a Q E hr h => ⟨_, (pss_one (ps_ret (pe_and (pe_callB (k_isi K rfl) (by rfl) M.isinstance (by decide +kernel) (pa_cons (pv 0) (pa_cons (pe_bltn (v := .ty "int") (by rfl) M.int (by decide +kernel) rfl) pa_nil))) (pe_one (pe_not (pe_callB (k_isi K rfl) (by rfl) M.isinstance (by decide +kernel) (pa_cons (pv 0) (pa_cons (pe_bltn (v := .ty "bool") (by rfl) M.bool (by decide +kernel) rfl) pa_nil)))))))), ?_⟩
  obtain ⟨d, hd, q⟩ := h
  refine Fl.go_start (σ0 := [some _]) rfl ?_
  walk_at "s"
  refine if_b (fun c => ?_) (fun c => ?_)
  · walk_at "s"
    rw [c] at q
    exact q
  · rw [c] at q
    exact q
instance {H : Hp} {Q : VK} {E : XK} {v : V} : Step (sp_whole v H Q E) (∃ d, Typ H v d ∧ Q (.bl (isIntD d && !isBoolD d)) H) := ⟨fun h => h⟩
end
end Fl

-- after: r9.tpl gen0.tpl
namespace Fl
open PySem PySem.Spec PyProof.Rows L2 RZ
theorem len_app (s t : Str) : (s ++ t).length = s.length + t.length := by
  show (s.cps ++ t.cps).size = _
  rw [Array.size_append]
  rfl
def AlT (n : Nat) (s : Str) : Prop := (∀ c ∈ s.cps.toList, c ∈ letters.cps.toList) ∧ s.length ≤ n
theorem AlT.mono {n k : Nat} {s : Str} (h : AlT n s) (l : n ≤ k) : AlT k s := ⟨h.1, Nat.le_trans h.2 l⟩
theorem AlT.append {n k : Nat} {s t : Str} (h : AlT n s) (g : AlT k t) : AlT (n + k) (s ++ t) := by
  refine ⟨fun c hc => ?_, ?_⟩
  · have e : (s ++ t).cps = s.cps ++ t.cps := rfl
    rw [e, Array.toList_append, List.mem_append] at hc
    exact hc.elim (h.1 c) (g.1 c)
  · rw [len_app]
    have h2 := h.2
    have g2 := g.2
    omega
theorem AlT.sign {c : Nat} (h : c ∈ letters.cps.toList) : AlT 1 ⟨#[c]⟩ := ⟨fun d hd => by
  have e : d = c := by simpa using hd
  rw [e]
  exact h, Nat.le_refl _⟩
theorem cut_mem {s : Str} {lo hi : Option Int} {c : Nat} (hc : c ∈ (cutS s lo hi).cps.toList) : c ∈ s.cps.toList := by
  have hc' : c ∈ ((s.cps.toList.drop (HT.sIx s.length 0 lo)).take (HT.sIx s.length s.length hi - HT.sIx s.length 0 lo)) := by simpa [cutS] using hc
  exact List.mem_of_mem_drop (List.mem_of_mem_take hc')
theorem cut_len (s : Str) (lo hi : Option Int) : (cutS s lo hi).length = min (HT.sIx s.length s.length hi - HT.sIx s.length 0 lo) (s.length - HT.sIx s.length 0 lo) := by
  have e : (cutS s lo hi).length = ((s.cps.toList.drop (HT.sIx s.length 0 lo)).take (HT.sIx s.length s.length hi - HT.sIx s.length 0 lo)).length := by
    simp [cutS, Str.length]
  rw [e, List.length_take, List.length_drop]
  simp [Str.length]
theorem sIx_pos {n d : Nat} {i : Int} (h : 0 ≤ i) : HT.sIx n d (some i) = min i.toNat n := by
  unfold HT.sIx
  simp only []
  rw [if_neg (by omega)]
theorem AlT.cut {n : Nat} {s : Str} (h : AlT n s) (lo hi : Option Int) : ∀ c ∈ (cutS s lo hi).cps.toList, c ∈ letters.cps.toList := fun c hc => h.1 c (cut_mem hc)
/-- a word -/
def WdT (s : Str) : Prop := AlT 8 s ∧ 1 ≤ s.length
theorem WdT.word {s : Str} (h : WdT s) : isWord (.str s) = true := by
  simp only [isWord, Bool.and_eq_true, decide_eq_true_eq, List.all_eq_true]
  exact ⟨⟨h.2, h.1.2⟩, h.1.1⟩
theorem WdT.ok {s : Str} (h : WdT s) : OkT 1000 s := ⟨fun c hc => letters_ok c (h.1.1 c hc), Nat.le_trans h.1.2 (by decide)⟩
def kwords : List Str := ["line", "paper", "add"]
section
variable {P : Program} {w : World} {K : PySem.W.Frag} {mg : Str → Option Value} {base : Heap}
abbrev s__law_words : Stmt := topS 58
theorem sc__law_words : FnScope ["_law_state", "_law_letters", "_law_base", "_law_k", "_law_words_here", "_law_at_here"] ["_law_state"] (defScope s__law_words) := ⟨rfl, rfl, rfl, by decide +kernel, rfl, by decide +kernel, by decide +kernel⟩
def sp_words : Sp1 := fun a H Q _ => ∃ (s : Addr) (x : Int), a = .ref s ∧ H s = some (.lst [.int x]) ∧ ∀ p H' (ws : List Str), Gs s H H' → H' p = some (.lst (ws.map V.str)) → H p = none → 1 ≤ ws.length → ws.length ≤ 8 → (∀ t ∈ ws, WdT t) → Q (.ref p) H'
theorem ok_words (M : Mg mg) (G__law_next : Has P w K mg base "_law_next" ["_law_state", "_law_size"] 1 (sp2 sp_next)) (D : DefAt K mg "_law_words" s__law_words ["_law_state"]) : Has P w K mg base "_law_words" ["_law_state"] 2 (sp1 sp_words) := by
  refine .mk1 D sc__law_words fun f cdv A outer s H a Q E hr h => ⟨_, (pss_cons (ps_set (i := 1) sc__law_words.nd rfl (by first | exact Or.inl rfl | exact Or.inr rfl) pe_str)
    (pss_cons (ps_set (i := 2) sc__law_words.nd rfl (by first | exact Or.inl rfl | exact Or.inr rfl) pe_str)
    (pss_cons (ps_for own_p (by rfl) (pi_range1 (by rfl) M.range (pa_cons pe_int pa_nil)) (pg_name (i := 3) sc__law_words.nd rfl (by first | exact Or.inl rfl | exact Or.inr rfl)) (pss_one (ps_set (i := 2) sc__law_words.nd rfl (by first | exact Or.inl rfl | exact Or.inr rfl) (pe_op (k_add K rfl) (pv 2) (pe_ix (k_ix K rfl) (pv 1) (pe_own G__law_next (hr.mono (by first | decide | omega)) (by rfl) p_body (pa_cons (pv 0) (pa_cons pe_int pa_nil))) (fun _ _ => rfl))))))
    (pss_cons (ps_set (i := 4) sc__law_words.nd rfl (by first | exact Or.inl rfl | exact Or.inr rfl) (pe_lst (pa_cons (pe_slice (k_sl K rfl) (pv 2) po_none (po_some (pe_op (k_add K rfl) pe_int (pe_own G__law_next (hr.mono (by first | decide | omega)) (by rfl) p_body (pa_cons (pv 0) (pa_cons pe_int pa_nil)))))) (pa_cons (pv 2) pa_nil))))
    (pss_cons (ps_for own_p (by rfl) (pi_range1 (by rfl) M.range (pa_cons pe_int pa_nil)) (pg_name (i := 3) sc__law_words.nd rfl (by first | exact Or.inl rfl | exact Or.inr rfl)) (pss_cons (ps_set (i := 5) sc__law_words.nd rfl (by first | exact Or.inl rfl | exact Or.inr rfl) (pe_own G__law_next (hr.mono (by first | decide | omega)) (by rfl) p_body (pa_cons (pv 0) (pa_cons pe_int pa_nil))))
    (pss_one (ps_expr (k_bm K rfl PySem.F.plainAttrs_list PySem.F.slot_list_append PySem.F.type_list_append mt_append (pv 4) (pa_cons (pe_op (k_add K rfl) (pe_op (k_add K rfl) (pe_slice (k_sl K rfl) (pv 2) po_none (po_some (pv 5))) (pe_ix (k_ix K rfl) (pv 1) (pe_own G__law_next (hr.mono (by first | decide | omega)) (by rfl) p_body (pa_cons (pv 0) (pa_cons pe_int pa_nil))) (fun _ _ => rfl))) (pe_slice (k_sl K rfl) (pv 2) (po_some (pe_op (k_add K rfl) (pv 5) pe_int)) (po_some (pe_op (k_add K rfl) (pe_op (k_add K rfl) pe_int (pv 5)) (pe_own G__law_next (hr.mono (by first | decide | omega)) (by rfl) p_body (pa_cons (pv 0) (pa_cons pe_int pa_nil))))))) pa_nil))))))
    (pss_one (ps_ret (pe_op (k_add K rfl) (pv 4) (pe_slice (k_sl K rfl) (pe_lst (pa_cons pe_str (pa_cons pe_str (pa_cons pe_str pa_nil)))) po_none (po_some (pe_own G__law_next (hr.mono (by first | decide | omega)) (by rfl) p_body (pa_cons (pv 0) (pa_cons pe_int pa_nil))))))))))))), ?_⟩
  obtain ⟨st, x, rfl, hs, q⟩ := h
  refine Fl.go_start (σ0 := [some _, none, none, none, none, none]) rfl ?_
  walk_at "s"
  refine for_rng (fun i σ' H' => ∃ (z : Str) (y : Option V), σ' = [some (.ref st), some (.str letters), some (.str z), y, none, none] ∧ (AlT i z ∧ z.length = i) ∧ Gs st H H') ⟨"", none, rfl, ⟨⟨by decide +kernel, by decide +kernel⟩, by decide +kernel⟩, by walk_at "gs"⟩ ?_ ?_
  · rintro i σ' H' hi ⟨z, y, rfl, hz, gs⟩
    obtain ⟨x1, hx1⟩ := Gs.st gs
    walk_at "s"
    rename_i y1 r h0 h1
    obtain ⟨c, ec, mc⟩ := atI_letter h0 h1
    refine ⟨c, ⟨small_of (by decide +kernel), ec⟩, ?_⟩
    have hl := hz.2
    have hi8 : i < 8 := hi
    refine q_addS (show z.length + 1 ≤ sizeLine from small_of (by omega)) ?_
    exact ⟨_, _, rfl, ⟨hz.1.append (AlT.sign mc), by rw [len_app, hl]; rfl⟩, by walk_at "gs"⟩
  rintro σ' H1 ⟨z, y, rfl, ⟨hz, z8⟩, gs⟩
  obtain ⟨x1, hx1⟩ := Gs.st gs
  have hz8 : AlT 8 z := hz
  have z8 : z.length = 8 := z8
  have lz : z.length ≤ sizeLine := small_of (Nat.le_trans hz8.2 (by decide))
  walk_at "s"
  rename_i y1 r h0 h1 wa hwa
  have hwf : H wa = none := by walk_at "fr"
  have hws : wa ≠ st := fun e => by rw [e, upd_same] at hwa; cases hwa
  have gs2 : Gs st H (upd (upd H1 st (.lst [.int y1])) wa (.lst [.str (cutS z none (some (1 + r))), .str z])) := by walk_at "gs"
  have hw2 : (upd (upd H1 st (.lst [.int y1])) wa (.lst [.str (cutS z none (some (1 + r))), .str z])) wa = some (.lst [.str (cutS z none (some (1 + r))), .str z]) := upd_same
  generalize upd (upd H1 st (.lst [.int y1])) wa (.lst [.str (cutS z none (some (1 + r))), .str z]) = H2 at *
  refine for_rng (fun i σ' H' => ∃ (ws : List Str) (y3 y5 : Option V), σ' = [some (.ref st), some (.str letters), some (.str z), y3, some (.ref wa), y5] ∧ H' wa = some (.lst (ws.map V.str)) ∧ ws.length = i + 2 ∧ (∀ t ∈ ws, WdT t) ∧ Gs st H H')
    ⟨[cutS z none (some (1 + r)), z], _, _, rfl, hw2, rfl, fun t ht => ?_, gs2⟩ ?_ ?_
  · rcases List.mem_cons.mp ht with rfl | ht
    · have e := cut_len z none (some (1 + r))
      rw [sIx_pos (by omega), z8] at e
      have e0 : HT.sIx 8 0 none = 0 := rfl
      rw [e0] at e
      exact ⟨⟨hz8.cut _ _, by omega⟩, by omega⟩
    · rw [List.mem_singleton.mp ht]
      exact ⟨hz8, by omega⟩
  · rintro i σ' H3 hi ⟨ws, y3, y5, rfl, hw3, lw, ow, gs3⟩
    obtain ⟨x3, hx3⟩ := Gs.st gs3
    have hi3 : i < 3 := hi
    walk_at "s"
    rename_i ya ra ha0 ha1 yb rb hb0 hb1
    obtain ⟨c, ec, mc⟩ := atI_letter hb0 hb1
    refine ⟨c, ⟨small_of (by decide +kernel), ec⟩, ?_⟩
    have l1 := cut_len z none (some ra)
    rw [sIx_pos (by omega), z8, show HT.sIx 8 0 none = 0 from rfl] at l1
    have o1 : AlT ra.toNat (cutS z none (some ra)) := ⟨hz8.cut none (some ra), by omega⟩
    have o2 := o1.append (AlT.sign mc)
    refine q_addS (show (cutS z none (some ra)).length + 1 ≤ sizeLine from small_of (by have := o1.2; omega)) ?_
    walk_at "s"
    rename_i yc rc hc0 hc1
    have l3 := cut_len z (some (ra + 1)) (some (1 + ra + rc))
    rw [sIx_pos (by omega), sIx_pos (by omega), z8] at l3
    have o3 := (o2.append ⟨hz8.cut (some (ra + 1)) (some (1 + ra + rc)), show _ ≤ 7 - ra.toNat by omega⟩).mono (show _ ≤ 8 by omega)
    refine ⟨small_of (Nat.le_trans (Nat.le_of_eq ?_) (Nat.le_trans o3.2 (by decide))), ?_⟩
    · exact (len_app _ _).symm
    have o4 : 1 ≤ (cutS z none (some ra) ++ ⟨#[c]⟩ ++ cutS z (some (ra + 1)) (some (1 + ra + rc))).length := by
      rw [len_app, len_app]
      show 1 ≤ _ + 1 + _
      omega
    walk_at "s"
    exact ⟨ws ++ [_], _, _, rfl, by rw [List.map_append]; exact upd_same, by rw [List.length_append, lw]; rfl, fun t ht => (List.mem_append.mp ht).elim (ow t) fun z => by rw [List.mem_singleton.mp z]; exact ⟨o3, o4⟩, by walk_at "gs"⟩
  rintro σ' H3 ⟨ws, y3, y5, rfl, hw3, lw, ow, gs3⟩
  obtain ⟨x3, hx3⟩ := Gs.st gs3
  walk_at "s"
  rename_i pk hpk yn rn hn0 hn1 pc hpc
  obtain ⟨k, rfl⟩ : ∃ k : Nat, rn = k := ⟨rn.toNat, by omega⟩
  rw [cut_to]
  refine ⟨small_of (by rw [List.length_map, List.length_take]; simp; omega), fun p hp => ?_⟩
  have ep : [V.str (Str.ofString "line"), V.str (Str.ofString "paper"), V.str (Str.ofString "add")].take k = (kwords.take k).map V.str := by rw [List.map_take]; rfl
  refine q p _ (ws ++ (kwords.take k)) (by walk_at "gs") (by rw [List.map_append, ← ep]; exact upd_same) (by walk_at "fr") (by rw [List.length_append]; omega) (by rw [List.length_append, List.length_take]; simp [kwords]; omega) fun t ht => ?_
  rcases List.mem_append.mp ht with z | z
  · exact ow t z
  · have hk : ∀ t ∈ kwords, WdT t := by
      intro t ht
      simp only [kwords, List.mem_cons, List.not_mem_nil, or_false] at ht
      rcases ht with rfl | rfl | rfl <;> exact ⟨⟨by decide +kernel, by decide +kernel⟩, by decide +kernel⟩
    exact hk t (List.mem_of_mem_take z)
end
end Fl

-- after: r6.tpl
namespace Fl
open PySem PySem.Spec PyProof.Rows L2 RZ
theorem nodup_le {α : Type} [DecidableEq α] : ∀ {xs ys : List α}, xs.Nodup → (∀ x ∈ xs, x ∈ ys) → xs.length ≤ ys.length
  | [], _, _, _ => Nat.zero_le _
  | x :: r, ys, nd, h => by
    have nd' := List.nodup_cons.mp nd
    have hx := h x (List.mem_cons_self ..)
    have ih := nodup_le (ys := ys.erase x) nd'.2 fun z hz => (List.mem_erase_of_ne (fun (e : z = x) => nd'.1 (by rw [← e]; exact hz))).mpr (h z (List.mem_cons_of_mem _ hz))
    rw [List.length_erase_of_mem hx] at ih
    have := List.length_pos_of_mem hx
    simp only [List.length_cons]
    omega
theorem szAll_filter {ds : List PyData} {p : PyData → Bool} : szAll (ds.filter p) ≤ szAll ds := by
  induction ds with
  | nil => simp
  | cons d r ih =>
    rw [List.filter_cons]
    split <;> simp only [szAll] <;> omega
mutual
theorem vals_len {w : Str} : ∀ (n : Nat) (d : PyData), (vals w n d).length ≤ sz d
  | 0, d => by simp [vals]
  | n + 1, d => by
    unfold vals
    split
    · rename_i w' ds
      have h := valsAll_len (w := w) n (ds.filter isTupD)
      have h2 := szAll_filter (ds := ds) (p := isTupD)
      rw [List.length_append]
      have h3 : (if w' = w then [vOf (ds.getD 0 .none)] else []).length ≤ 1 := by split <;> simp
      simp only [sz, szAll]
      omega
    · simp
theorem valsAll_len {w : Str} : ∀ (n : Nat) (ds : List PyData), (ds.flatMap (vals w n)).length ≤ szAll ds
  | n, [] => by simp
  | n, d :: r => by
    rw [List.flatMap_cons, List.length_append]
    have h1 := vals_len (w := w) n d
    have h2 := valsAll_len (w := w) n r
    simp only [szAll]
    omega
end
theorem sz_mem {d : PyData} {ds : List PyData} (h : d ∈ ds) : sz d ≤ szAll ds := by
  induction ds with
  | nil => cases h
  | cons e r ih =>
    rcases List.mem_cons.mp h with rfl | h
    · simp only [szAll]; omega
    · have := ih h
      simp only [szAll]; omega
theorem fm_filter {gs ys : List V} : (ys.filterMap fun v => if v ∈ gs then none else some v) = ys.filter fun v => !decide (v ∈ gs) := by
  induction ys with
  | nil => rfl
  | cons y r ih =>
    by_cases c : y ∈ gs <;> simp [c, ih]
theorem at_vOf {b : Bool} {H : Hp} {d : PyData} {v : V} (h : okK b (vOf d)) (a : At H d v) : v = vOf d := by
  cases d with
  | int i => exact a
  | str s => exact a
  | _ => cases b <;> (obtain ⟨_, h⟩ := h; cases h)
theorem flat_k {b : Bool} {v : V} (h : okK b v) : flatV v = true := by
  cases b <;> (obtain ⟨_, rfl⟩ := h; rfl)
theorem notin_k {K : PySem.W.Frag} {H : Hp} {Q : VK} {b : Bool} {p : Addr} {v : V} {fs : List V} (hx : okK b v) (hf : ∀ u ∈ fs, okK b u) (h : H p = some (.lst fs)) (q : Q (.bl (!decide (v ∈ fs))) H) : uNotIn K v (.ref p) H Q :=
  .inl ⟨p, fs, rfl, .inl (.of h), flat_k hx, List.all_eq_true.mpr fun u hu => flat_k (hf u hu), by rw [inV_k hx hf]; exact q⟩
section
variable {P : Program} {w : World} {K : PySem.W.Frag} {mg : Str → Option Value} {base : Heap}
def Pool (b : Bool) (vs : List V) : Prop := b = true → ∃ pool : List V, pool.length ≤ 60 ∧ ∀ v ∈ vs, v ∈ pool
def NamQ (b : Bool) (vs : List V) (H : Hp) (R : Addr → Hp → Prop) : Prop := ∀ p H' ys, Same H H' → H p = none → H' p = some (.lst ys) → Canon b ys vs → R p H'
def sp_law_named (n : Nat) : Sp2 := fun a c H Q _ => ∃ d L T C x b, At H d a ∧ okD d = true ∧ sz d ≤ 50000 ∧ isR L T C n d = true ∧ c = .str x ∧ fiveW b x ∧ Pool b (vals x n d) ∧ NamQ b (vals x n d) H fun p H' => Q (.ref p) H'
def sp_law_namedP : Nat → Sp2
  | 0 => fun _ _ _ _ _ => False
  | n + 1 => sp_law_named n
abbrev s__law_named : Stmt := topS 64
theorem sc__law_named : FnScope ["_law_rule_here", "_law_word", "_law_found", "_law_one", "_law_more"] ["_law_rule_here", "_law_word"] (defScope s__law_named) := ⟨rfl, rfl, rfl, by decide +kernel, rfl, by decide +kernel, by decide +kernel⟩
theorem ok_law_named_step {n : Nat} (M : Mg mg) (G__law_named : Has P w K mg base "_law_named" ["_law_rule_here", "_law_word"] n (sp2 (sp_law_namedP n))) (D : DefAt K mg "_law_named" s__law_named ["_law_rule_here", "_law_word"]) :
    Has P w K mg base "_law_named" ["_law_rule_here", "_law_word"] (n + 1) (sp2 (sp_law_named n)) := by
  refine .mk2 D sc__law_named fun f cdv A outer s H a c Q E hr h => ⟨_, (pss_cons (ps_set (i := 2) sc__law_named.nd rfl (by first | exact Or.inl rfl | exact Or.inr rfl) (pe_lst pa_nil))
    (pss_meet (ps_if (pt_cmpR (k_eq K rfl hr) (pe_ix (k_ix K rfl) (pv 0) pe_int (fun _ _ => rfl)) (pv 1) (nomark _)) (pss_one (ps_expr (k_bm K rfl PySem.F.plainAttrs_list PySem.F.slot_list_append PySem.F.type_list_append mt_append (pv 2) (pa_cons (pe_ix (k_ix K rfl) (pv 0) pe_int (fun _ _ => rfl)) pa_nil)))) pss_nil)
    (pss_cons (ps_for own_p (by rfl) (k_pi K rfl (pe_slice (k_sl K rfl) (pv 0) (po_some pe_int) po_none)) (pg_name (i := 3) sc__law_named.nd rfl (by first | exact Or.inl rfl | exact Or.inr rfl)) (pss_one (ps_if (pt_val (pe_callB (k_isi K rfl) (by rfl) M.isinstance (by decide +kernel) (pa_cons (pv 3) (pa_cons (pe_bltn (v := .ty "tuple") (by rfl) M.tuple (by decide +kernel) rfl) pa_nil)))) (pss_one (ps_set (i := 2) sc__law_named.nd rfl (by first | exact Or.inl rfl | exact Or.inr rfl) (pe_op (k_add K rfl) (pv 2) (pe_lc (own := [("_law_more", 4)]) (g := gName 4) (by rfl) sc__law_named.nd (k_pi K rfl (pe_own G__law_named (hr.mono (by first | decide | omega)) (by rfl) p_body (pa_cons (pv 3) (pa_cons (pv 1) pa_nil)))) (blkOk_by (N := ["_law_rule_here", "_law_word", "_law_found", "_law_one", "_law_more"]) (sc := (defScope s__law_named)) (own := [("_law_more", 4)]) (by decide +kernel)) (fun _ _ _ _ _ => (pg_name (i := 4) sc__law_named.nd rfl (by first | exact Or.inl rfl | exact Or.inr rfl))) (fun _ _ _ _ _ => (pts_one (pt_cmpR (k_notin K rfl hr) (pv 4) (pv 2) (by rfl)))) (fun _ _ _ _ _ => (pv 4)))))) pss_nil)))
    (pss_one (ps_ret (pe_callB (k_sortU K rfl) (by rfl) M.sorted (by decide +kernel) (pa_cons (pv 2) pa_nil))))))), ?_⟩
  obtain ⟨d, L, T, C, x, b, hd, ok, hsz, hg, rfl, hf, hpool, q⟩ := h
  obtain ⟨m, w', ds, rfl, rfl, hl, _⟩ := good_shape hg
  obtain ⟨t, us0, rfl, ht, u0, us, rfl, h0, hus⟩ := id hd
  cases (show _ = _ from h0)
  have okd : okAll ds = true := by
    simp only [okD, okAll, Bool.and_eq_true] at ok
    exact ok.2
  have lu := hus.length
  have vok := vals_ok hf hg
  have vlen := vals_len (w := x) (m + 1) (.tuple (.str w' :: ds))
  refine Fl.go_start (σ0 := [some _, some _, none, none, none]) rfl ?_
  walk_at "s"
  rename_i fa hfa
  refine meet (fun σ' H' => ∃ fs, σ' = [some (.ref t), some (.str x), some (.ref fa), none, none] ∧ H' fa = some (.lst fs) ∧ Same H H' ∧ fs = if w' = x then [vOf (ds.getD 0 .none)] else []) ?_ ?_
  · walk_at "s"
    refine if_d (fun c1 => ?_) (fun c1 => ?_)
    · walk_at "s"
      have ov := good_val hg (by rw [c1]; exact hf)
      cases ds with
      | nil => simp at hl
      | cons e0 er =>
      obtain ⟨u1, ur, rfl, h1, hur⟩ := hus
      rw [List.getD_cons_zero] at ov
      have ev : u1 = vOf e0 := at_vOf ov h1
      refine ex_v atI_1 ?_
      walk_at "s"
      exact ⟨_, rfl, by walk_at "hp", by walk_at "sm", by rw [if_pos c1, ev]; rfl⟩
    · walk_at "s"
      exact ⟨_, rfl, by walk_at "hp", by walk_at "sm", by rw [if_neg c1]⟩
  rintro σ' H1 ⟨fs, rfl, hfs, sm1, efs⟩
  have ht1 := sm1 _ _ ht
  walk_at "s"
  rename_i p2 H2 sm2 e2
  rw [cut_tail] at e2
  have e2' : H2 p2 = some (.tup us) := e2
  have vmem : ∀ v, v ∈ vals x (m + 1) (.tuple (.str w' :: ds)) ↔ v ∈ (if w' = x then [vOf (ds.getD 0 .none)] else []) ++ (ds.filter isTupD).flatMap (vals x m) := fun v => Iff.rfl
  refine for_tpl (fun i σ' H' => ∃ fb gs y z, σ' = [some (.ref t), some (.str x), some (.ref fb), y, z] ∧ H' fb = some (.lst gs) ∧ Same H H' ∧ H' p2 = some (.tup us) ∧ gs.Nodup ∧
      ∀ v, v ∈ gs ↔ v ∈ (if w' = x then [vOf (ds.getD 0 .none)] else []) ++ ((ds.take i).filter isTupD).flatMap (vals x m)) e2' ⟨fa, fs, none, none, rfl, sm2 _ _ hfs, L2.Same.trans sm1 sm2, e2', ?_, fun v => ?_⟩ (fun i σ' H' _ ⟨_, _, _, _, _, _, _, e, _⟩ => e) ?_ ?_
  · rw [efs]
    split <;> simp
  · rw [efs]
    simp
  · rintro i u σ' H3 eu ⟨fb, gs, y, z, rfl, hgs, sm3, hp2, gnd, gmem⟩
    obtain ⟨e, ee, he⟩ := hus.ix eu
    have hmem := List.mem_of_getElem? ee
    have gvals : ∀ v ∈ gs, v ∈ vals x (m + 1) (.tuple (.str w' :: ds)) := fun v hv => by
      rw [vmem]
      rcases List.mem_append.mp ((gmem v).mp hv) with z | z
      · exact List.mem_append_left _ z
      · obtain ⟨a, ha, hv'⟩ := List.mem_flatMap.mp z
        obtain ⟨ha1, ha2⟩ := List.mem_filter.mp ha
        exact List.mem_append_right _ (List.mem_flatMap.mpr ⟨a, List.mem_filter.mpr ⟨List.mem_of_mem_take ha1, ha2⟩, hv'⟩)
    have gok : ∀ v ∈ gs, okK b v := fun v hv => vok v (gvals v hv)
    by_cases te : isTupD e = true
    · obtain ⟨es, rfl⟩ : ∃ es, e = .tuple es := by
        cases e with
        | tuple es => exact ⟨es, rfl⟩
        | _ => cases te
      obtain ⟨b1, us1, rfl, hb1, hus1⟩ := id he
      have hb1' := sm3 _ _ hb1
      walk_at "s"
      have gd := good_tups hg hmem te
      have sub : ∀ v ∈ vals x m (.tuple es), v ∈ vals x (m + 1) (.tuple (.str w' :: ds)) := fun v hv => (vmem v).mpr (List.mem_append_right _ (List.mem_flatMap.mpr ⟨_, List.mem_filter.mpr ⟨hmem, te⟩, hv⟩))
      have sze : sz (.tuple es) ≤ 50000 := by
        have h1 := sz_mem hmem
        simp only [sz, szAll] at hsz h1 ⊢
        omega
      refine ⟨.tuple es, L, T, C, x, b, he.le (Same.le sm3), okAll_mem okd hmem, sze, gd, rfl, hf, fun hb => by
        obtain ⟨pool, pl, pm⟩ := hpool hb
        exact ⟨pool, pl, fun v hv => pm v (sub v hv)⟩, fun p3 H4 ys sm4 _ e4 cn => ?_⟩
      have lys : ys.length ≤ 50000 := Nat.le_trans (nodup_le cn.nd fun v hv => (cn.mem v).mp hv) (Nat.le_trans (vals_len _ _) sze)
      refine lc_filtL (fun v => if v ∈ gs then none else some v) e4 (by omega) (fun _ => rfl) (fun u H5 hu sm5 Q hQ => ?_) (fun u y H5 hu eu sm5 Q hQ => ?_) (fun D H5 hD sm5 e5 => ?_)
      · have gs5 := sm5 _ _ (sm4 _ _ hgs)
        walk_at "s"
        refine notin_k (cn.ok u hu) gok gs5 ?_
        have e : ((if u ∈ gs then none else some u : Option V)).isSome = !decide (u ∈ gs) := by
          by_cases c : u ∈ gs <;> simp [c]
        have hq := hQ H5 (.refl _)
        rw [e] at hq
        walk_at "s"
        exact hq
      · have e : u = y := by
          by_cases c : u ∈ gs
          · rw [if_pos c] at eu
            cases eu
          · rw [if_neg c] at eu
            exact Option.some.inj eu
        subst e
        walk_at "s"
        exact hQ _ (.refl _)
      · rw [fm_filter] at e5
        have gs5 := sm5 _ _ (sm4 _ _ hgs)
        have nd2 : (gs ++ ys.filter fun v => !decide (v ∈ gs)).Nodup := by
          refine List.nodup_append.mpr ⟨gnd, cn.nd.filter _, fun a ha b hb e => ?_⟩
          have := (List.mem_filter.mp hb).2
          rw [← e] at this
          simp [ha] at this
        have mem2 : ∀ v, v ∈ (gs ++ ys.filter fun v => !decide (v ∈ gs)) ↔ v ∈ (if w' = x then [vOf (ds.getD 0 .none)] else []) ++ ((ds.take (i + 1)).filter isTupD).flatMap (vals x m) := fun v => by
          rw [← take_snoc ee, List.filter_append, List.filter_cons, te]
          simp only [if_true, List.filter_nil, List.flatMap_append, List.flatMap_cons, List.flatMap_nil, List.append_nil]
          rw [← List.append_assoc, List.mem_append, List.mem_append, ← gmem v, ← cn.mem v, List.mem_filter]
          by_cases c : v ∈ gs <;> simp [c]
        have len2 : (gs ++ ys.filter fun v => !decide (v ∈ gs)).length ≤ 50000 := Nat.le_trans (nodup_le nd2 fun v hv => by
          rcases List.mem_append.mp hv with z | z
          · exact gvals v z
          · exact sub v ((cn.mem v).mp (List.mem_filter.mp z).1)) (Nat.le_trans vlen hsz)
        rw [List.length_append] at len2
        walk_at "s"
        rename_i fn hfn
        have hp5 := sm5 _ _ (sm4 _ _ hp2)
        exact ⟨fn, _, _, _, rfl, upd_same, Same.new (L2.Same.trans sm3 (L2.Same.trans sm4 sm5)) hfn, Same.new (.refl _) hfn _ _ hp5, nd2, mem2⟩
    · have te' : isTupD e = false := by simpa using te
      have nx : ∀ v, v ∈ gs ↔ v ∈ (if w' = x then [vOf (ds.getD 0 .none)] else []) ++ ((ds.take (i + 1)).filter isTupD).flatMap (vals x m) := fun v => by
        rw [← take_snoc ee, List.filter_append, List.filter_cons, te']
        simpa using gmem v
      cases e <;> first | exact he.elim | exact absurd rfl te | skip
      all_goals try (cases (show _ = _ from he))
      all_goals (walk_at "s"; exact ⟨fb, gs, _, _, rfl, hgs, sm3, hp2, gnd, nx⟩)
  · rintro σ' H3 ⟨fb, gs, y, z, rfl, hgs, sm3, hp2, gnd, gmem⟩
    rw [lu, List.take_length] at gmem
    have gok : ∀ v ∈ gs, okK b v := fun v hv => vok v ((vmem v).mpr ((gmem v).mp hv))
    walk_at "s"
    refine sort_k hgs gok gnd (fun hb => ?_) (fun v => (gmem v).trans (vmem v).symm) (fun ys p cn hp => ?_)
    · obtain ⟨pool, pl, pm⟩ := hpool hb
      have := nodup_le gnd fun v hv => pm v ((vmem v).mpr ((gmem v).mp hv))
      omega
    · exact q p _ ys (Same.new sm3 hp) (L2.Same.free sm3 hp) upd_same cn
theorem none_law_named {n : Nat} (D : DefAt K mg "_law_named" s__law_named ["_law_rule_here", "_law_word"]) : Has P w K mg base "_law_named" ["_law_rule_here", "_law_word"] n (sp2 (sp_law_namedP 0)) := Has.none_left D fun vs H Q E h => by
  obtain ⟨_, _, _, h⟩ := h
  exact h
theorem ok_law_named (M : Mg mg) (D : DefAt K mg "_law_named" s__law_named ["_law_rule_here", "_law_word"]) : ∀ n : Nat, Has P w K mg base "_law_named" ["_law_rule_here", "_law_word"] (n + 1) (sp2 (sp_law_named n))
  | 0 => ok_law_named_step M (none_law_named D) D
  | n + 1 => ok_law_named_step M (ok_law_named M D n) D
end
end Fl

-- after: ext.tpl
namespace Fl
open PySem PySem.Spec PyProof.Rows L2 RZ
/-! ### lists compared -/
section
variable {H : Hp} {Q : VK} {K : PySem.W.Frag} {a b : Addr} {x y : V}
theorem depth_ints : ∀ ns : List Int, PyData.depthAll (ns.map PyData.int) = 0
  | [] => rfl
  | n :: r => by simp [PyData.depthAll, PyData.depth, depth_ints r]
theorem shaped_ints (ns : List Int) : SeqAt.shaped (.list (ns.map PyData.int)) = true := by
  simp [SeqAt.shaped, PyData.canLay0, lay_ints, PyData.depth, depth_ints]
theorem eqvAll_ints : ∀ ns ms : List Int, PyData.eqvAll (ns.map PyData.int) (ms.map PyData.int) = decide (ns = ms)
  | [], [] => rfl
  | [], _ :: _ => rfl
  | _ :: _, [] => rfl
  | n :: r, m :: t => by
    simp only [List.map_cons, PyData.eqvAll, PyData.eqv, eqvAll_ints r t]
    by_cases e : n = m <;> simp [e]
theorem eqv_ints (ns ms : List Int) : PyData.eqv (.list (ns.map PyData.int)) (.list (ms.map PyData.int)) = decide (ns = ms) := by
  rw [PyData.eqv, eqvAll_ints]
theorem dp_ints {ns : List Int} (h : H a = some (.lst (ns.map V.int))) : Dp K H (.ref a) (.list (ns.map PyData.int)) := .lst (.of h) (dpAll_ints ns)
theorem ne_ints {ns ms : List Int} (ha : H a = some (.lst (ns.map V.int))) (hb : H b = some (.lst (ms.map V.int))) (q : Q (.bl (!decide (ns = ms))) H) : uNe K (.ref a) (.ref b) H Q :=
  .inr ⟨_, _, dp_ints ha, dp_ints hb, shaped_ints _, shaped_ints _, by rw [eqv_ints]; exact q⟩
theorem eq_ints {ns ms : List Int} (ha : H a = some (.lst (ns.map V.int))) (hb : H b = some (.lst (ms.map V.int))) (q : Q (.bl (decide (ns = ms))) H) : uEq K (.ref a) (.ref b) H Q :=
  .inr ⟨_, _, dp_ints ha, dp_ints hb, shaped_ints _, shaped_ints _, by rw [eqv_ints]; exact q⟩
theorem ne_same {d : PyData} (h1 : Dp K H x d) (h2 : Dp K H y d) (s : SeqAt.shaped d = true) (q : Q (.bl false) H) : uNe K x y H Q :=
  .inr ⟨_, _, h1, h2, s, s, by rw [SeqAt.eqv_refl d (SeqAt.canLay_of_shaped s)]; exact q⟩
theorem eq_same {d : PyData} (h1 : Dp K H x d) (h2 : Dp K H y d) (s : SeqAt.shaped d = true) (q : Q (.bl true) H) : uEq K x y H Q :=
  .inr ⟨_, _, h1, h2, s, s, by rw [SeqAt.eqv_refl d (SeqAt.canLay_of_shaped s)]; exact q⟩
theorem depth_flat : ∀ ds : List PyData, (∀ d ∈ ds, d.depth = 0) → PyData.depthAll ds = 0
  | [], _ => rfl
  | d :: r, h => by simp [PyData.depthAll, h d (List.mem_cons_self ..), depth_flat r fun x hx => h x (List.mem_cons_of_mem _ hx)]
theorem lay_all : ∀ ds : List PyData, (∀ d ∈ ds, d.canLay0 = true) → PyData.canLayAll0 ds = true
  | [], _ => rfl
  | d :: r, h => by simp [PyData.canLayAll0, h d (List.mem_cons_self ..), lay_all r fun x hx => h x (List.mem_cons_of_mem _ hx)]
theorem shaped_flat {ds : List PyData} (h1 : ∀ d ∈ ds, d.depth = 0) (h2 : ∀ d ∈ ds, d.canLay0 = true) : SeqAt.shaped (.list ds) = true := by
  simp [SeqAt.shaped, PyData.canLay0, lay_all ds h2, PyData.depth, depth_flat ds h1]
end
end Fl

-- after: ru2.tpl gw.tpl r7.tpl eq.tpl
namespace Fl
open PySem PySem.Spec PyProof.Rows L2 RZ
/-! ### what good rules name -/
structure GoodR (g : Sg) (r : Rule) : Prop where
  ok : r.ok g 8
  fine : g.Fine
  wd : ∀ s ∈ g.pool, WdT s
  few : g.pool.length ≤ 40
theorem kw_okT : ∀ s ∈ kw, OkT 1000 s := by
  intro s hs
  simp only [kw, List.mem_cons, List.not_mem_nil, or_false] at hs
  rcases hs with rfl | rfl | rfl | rfl | rfl | rfl | rfl | rfl | rfl | rfl | rfl | rfl <;> exact ⟨by decide +kernel, by decide +kernel⟩
theorem GoodR.okD {g : Sg} {r : Rule} (h : GoodR g r) : Fl.okD r.d = true :=
  inP_ok (fun s hs => (List.mem_append.mp hs).elim (kw_okT s) fun z => (h.wd s z).ok) _ (Rule.inP h.ok)
theorem GoodR.sz {g : Sg} {r : Rule} (h : GoodR g r) : Fl.sz r.d ≤ 13121 := Rule.sz_le h.ok
/-- the whole numbers below n that stand behind a word -/
def nameI (x : Str) (n : Nat) (r : Rule) : List Int := ((List.range n).map fun (k : Nat) => (k : Int)).filter fun k => decide (V.int k ∈ r.names x)
theorem range_srt (n : Nat) : ((List.range n).map fun (k : Nat) => (k : Int)).Pairwise (· < ·) :=
  List.pairwise_map.mpr (List.pairwise_lt_range.imp fun h => by omega)
theorem nameI_srt {x : Str} {n : Nat} {r : Rule} : (nameI x n r).Pairwise (· < ·) := (range_srt n).filter _
theorem nameI_mem {x : Str} {n : Nat} {r : Rule} {k : Int} : k ∈ nameI x n r ↔ (0 ≤ k ∧ k < n) ∧ V.int k ∈ r.names x := by
  unfold nameI
  rw [List.mem_filter, List.mem_map]
  constructor
  · rintro ⟨⟨i, hi, rfl⟩, h⟩
    have := List.mem_range.mp hi
    exact ⟨⟨by omega, by omega⟩, of_decide_eq_true h⟩
  · rintro ⟨⟨h0, h1⟩, h⟩
    exact ⟨⟨k.toNat, List.mem_range.mpr (by omega), by omega⟩, decide_eq_true h⟩
theorem names_rng {g : Sg} (f : g.Fine) : ∀ {m : Nat} {r : Rule} {k : Int}, r.ok g m →
    (V.int k ∈ r.names "line" → 0 ≤ k ∧ k < g.L) ∧ (V.int k ∈ r.names "earlier" → 0 ≤ k ∧ k < g.L) ∧ (V.int k ∈ r.names "choose" → 0 ≤ k ∧ k < g.C)
  | 0, _, _, h => h.elim
  | m + 1, r, k, h => by
    have l1 : ¬ ("line" : Str) = "paper" := by decide +kernel
    have l2 : ¬ ("line" : Str) = "earlier" := by decide +kernel
    have l3 : ¬ ("line" : Str) = "table" := by decide +kernel
    have l4 : ¬ ("line" : Str) = "choose" := by decide +kernel
    have e1 : ¬ ("earlier" : Str) = "paper" := by decide +kernel
    have e2 : ¬ ("earlier" : Str) = "line" := by decide +kernel
    have e3 : ¬ ("earlier" : Str) = "table" := by decide +kernel
    have e4 : ¬ ("earlier" : Str) = "choose" := by decide +kernel
    have c1 : ¬ ("choose" : Str) = "paper" := by decide +kernel
    have c2 : ¬ ("choose" : Str) = "line" := by decide +kernel
    have c3 : ¬ ("choose" : Str) = "table" := by decide +kernel
    have c4 : ¬ ("choose" : Str) = "earlier" := by decide +kernel
    cases r with
    | num n => simp [Rule.names]
    | paper w => simp [Rule.names, l1, e1, c1]
    | line i =>
      have hi := f.seen i h
      simp only [Rule.names, if_true, if_neg e2, if_neg c2, List.mem_singleton, V.int.injEq, List.not_mem_nil, false_implies, and_true, true_and]
      rintro rfl
      exact hi
    | earl i =>
      have hi := (show 0 ≤ i ∧ i < g.L from h)
      simp only [Rule.names, if_true, if_neg l2, if_neg c4, List.mem_singleton, V.int.injEq, List.not_mem_nil, false_implies, and_true, true_and]
      rintro rfl
      exact hi
    | two w a b =>
      have ha := names_rng f (k := k) h.2.1
      have hb := names_rng f (k := k) h.2.2
      simp only [Rule.names, List.mem_append]
      exact ⟨fun z => z.elim ha.1 hb.1, fun z => z.elim ha.2.1 hb.2.1, fun z => z.elim ha.2.2 hb.2.2⟩
    | part a p => exact names_rng f (k := k) (r := a) h.2
    | table i a =>
      have ha := names_rng f (k := k) h.2
      simp only [Rule.names, if_neg l3, if_neg e3, if_neg c3, List.nil_append]
      exact ha
    | wher a b c =>
      have ha := names_rng f (k := k) h.1
      have hb := names_rng f (k := k) h.2.1
      have hc := names_rng f (k := k) h.2.2
      simp only [Rule.names, List.mem_append]
      exact ⟨fun z => z.elim ha.1 fun z => z.elim hb.1 hc.1, fun z => z.elim ha.2.1 fun z => z.elim hb.2.1 hc.2.1, fun z => z.elim ha.2.2 fun z => z.elim hb.2.2 hc.2.2⟩
    | choo i a b =>
      have ha := names_rng f (k := k) h.2.1
      have hb := names_rng f (k := k) h.2.2
      have hi := h.1
      simp only [Rule.names, List.mem_append, if_true, if_neg l4, if_neg e4, List.mem_singleton, V.int.injEq, List.nil_append]
      exact ⟨fun z => z.elim ha.1 hb.1, fun z => z.elim ha.2.1 hb.2.1, fun z => z.elim (fun e => by rw [e]; exact hi) fun z => z.elim ha.2.2 hb.2.2⟩
theorem pw_nodup {xs : List Int} (h : xs.Pairwise (· < ·)) : xs.Nodup := h.imp fun h e => by omega
theorem canon_int {x : Str} {n : Nat} {r : Rule} (hb : ∀ k, V.int k ∈ r.names x → 0 ≤ k ∧ k < n) (hi : ∀ v ∈ r.names x, okK false v) {ys : List V} (cn : Canon false ys (r.names x)) : ys = (nameI x n r).map V.int := by
  refine cn.eq ⟨fun v hv => ?_, ?_, ?_, fun v => ?_⟩
  · obtain ⟨k, _, rfl⟩ := List.mem_map.mp hv
    exact ⟨k, rfl⟩
  · refine List.pairwise_map.mpr (nameI_srt.imp fun h => ?_)
    exact Int.le_of_lt h
  · exact List.pairwise_map.mpr (nameI_srt.imp fun h e => by injection e with e; omega)
  · constructor
    · intro hv
      obtain ⟨k, hk, rfl⟩ := List.mem_map.mp hv
      exact (nameI_mem.mp hk).2
    · intro hv
      obtain ⟨k, rfl⟩ := hi v hv
      exact List.mem_map.mpr ⟨k, nameI_mem.mpr ⟨hb k hv, hv⟩, rfl⟩
/-- how many there are of these -/
def wordN (x : Str) (g : Sg) : Int := if x = "choose" then g.C else g.L
theorem named_use {g : Sg} {r : Rule} (h : GoodR g r) {H : Hp} {a : V} (at' : At H r.d a) {x : Str} (hx : x = "line" ∨ x = "earlier" ∨ x = "choose") {n : Nat} (hn : wordN x g = n) {Q : VK} {E : XK}
    (q : ∀ p H', Same H H' → H p = none → H' p = some (.lst ((nameI x n r).map V.int)) → Q (.ref p) H') : sp_law_named 8 a (.str x) H Q E := by
  have hf : fiveW false x := .inr ⟨rfl, by rcases hx with rfl | rfl | rfl <;> simp⟩
  have isr := Rule.isR h.fine h.ok
  have ev := Rule.vals (g := g) hf h.ok
  refine ⟨r.d, g.L, g.T, g.C, x, false, at', h.okD, Nat.le_trans h.sz (by decide), isr, rfl, hf, (fun z => by cases z), fun p H' ys sm hp e cn => ?_⟩
  rw [ev] at cn
  refine q p H' sm hp ?_
  rw [e, canon_int (n := n) (fun k hk => ?_) (fun v hv => ?_) cn]
  · have rg := names_rng h.fine (k := k) h.ok
    unfold wordN at hn
    rcases hx with rfl | rfl | rfl
    · rw [if_neg (by decide +kernel)] at hn
      rw [← hn]
      exact rg.1 hk
    · rw [if_neg (by decide +kernel)] at hn
      rw [← hn]
      exact rg.2.1 hk
    · rw [if_pos rfl] at hn
      rw [← hn]
      exact rg.2.2 hk
  · rw [← ev] at hv
    exact vals_ok hf isr v hv
/-- the lines that each line names -/
def adjR (n : Nat) (rs : List Rule) (k : Int) : List Int := if 0 ≤ k then match rs[k.toNat]? with | some r => nameI "line" n r | none => [] else []
theorem adjR_at {n : Nat} {rs : List Rule} {i : Nat} {r : Rule} (h : rs[i]? = some r) : adjR n rs i = nameI "line" n r := by
  unfold adjR
  rw [if_pos (by omega), Int.toNat_natCast, h]
theorem adjR_adj {n : Nat} {rs : List Rule} : ∀ k, (adjR n rs k).Pairwise (· < ·) ∧ ∀ y ∈ adjR n rs k, 0 ≤ y ∧ y < n := by
  intro k
  unfold adjR
  split
  · split
    · exact ⟨nameI_srt, fun y hy => (nameI_mem.mp hy).1⟩
    · exact ⟨List.Pairwise.nil, fun y hy => by cases hy⟩
  · exact ⟨List.Pairwise.nil, fun y hy => by cases hy⟩
end Fl

-- after:
namespace Fl
/-! ### rings: walks in a graph, by lists -/
/-- each one names the next -/
def Ch (adj : Int → List Int) : List Int → Prop
  | [] => True
  | [_] => True
  | a :: b :: r => b ∈ adj a ∧ Ch adj (b :: r)
section
variable {adj : Int → List Int}
theorem Ch.tail {a : Int} {r : List Int} (h : Ch adj (a :: r)) : Ch adj r := by
  cases r with
  | nil => trivial
  | cons b t => exact h.2
theorem ch_split : ∀ {x : List Int} {y : Int} {z : List Int}, Ch adj (x ++ y :: z) ↔ Ch adj (x ++ [y]) ∧ Ch adj (y :: z)
  | [], y, z => ⟨fun h => ⟨trivial, h⟩, fun h => h.2⟩
  | [a], y, z => ⟨fun h => ⟨⟨h.1, trivial⟩, h.2⟩, fun h => ⟨h.1.1, h.2⟩⟩
  | a :: b :: x, y, z => by
    have ih := ch_split (x := b :: x) (y := y) (z := z)
    exact ⟨fun h => ⟨⟨h.1, (ih.mp h.2).1⟩, (ih.mp h.2).2⟩, fun h => ⟨h.1.1, ih.mpr ⟨h.1.2, h.2⟩⟩⟩
/-- a ring of m lines from f on: each names the next, the last the first -/
structure Ring (adj : Int → List Int) (f : Int) (w : List Int) : Prop where
  hd : ∃ r, w = f :: r
  ch : Ch adj (w ++ [f])
/-- .. whose other lines are later ones -/
structure Ring' (adj : Int → List Int) (f : Int) (w : List Int) : Prop extends Ring adj f w where
  up : ∀ x ∈ w.tail, f < x
theorem min_of : ∀ {w : List Int}, w ≠ [] → ∃ m ∈ w, ∀ x ∈ w, m ≤ x
  | [], h => absurd rfl h
  | [a], _ => ⟨a, by simp, by simp⟩
  | a :: b :: r, _ => by
    obtain ⟨m, hm, h⟩ := min_of (w := b :: r) (by simp)
    by_cases c : a ≤ m
    · refine ⟨a, by simp, fun x hx => ?_⟩
      rcases List.mem_cons.mp hx with e | e
      · omega
      · have := h x e
        omega
    · refine ⟨m, List.mem_cons_of_mem _ hm, fun x hx => ?_⟩
      rcases List.mem_cons.mp hx with e | e
      · omega
      · exact h x e
theorem first_of {m : Int} : ∀ {w : List Int}, m ∈ w → ∃ u t, w = u ++ m :: t ∧ m ∉ u
  | a :: r, h => by
    by_cases c : a = m
    · exact ⟨[], r, by rw [c]; rfl, by simp⟩
    · have h' : m ∈ r := (List.mem_cons.mp h).resolve_left fun e => c e.symm
      obtain ⟨u, t, rfl, n⟩ := first_of h'
      exact ⟨a :: u, t, rfl, fun z => (List.mem_cons.mp z).elim (fun e => c e.symm) n⟩
theorem last_of {m : Int} : ∀ {w : List Int}, m ∈ w → ∃ s v, w = s ++ m :: v ∧ m ∉ v
  | a :: r, h => by
    by_cases c : m ∈ r
    · obtain ⟨s, v, rfl, n⟩ := last_of c
      exact ⟨a :: s, v, rfl, n⟩
    · have e : m = a := (List.mem_cons.mp h).resolve_right c
      exact ⟨[], r, by rw [e]; rfl, c⟩
/-- any ring holds one from its least line on, no longer -/
theorem Ring.least {f : Int} {w : List Int} (h : Ring adj f w) : ∃ m w', m ∈ w ∧ (∀ x ∈ w, m ≤ x) ∧ Ring' adj m w' ∧ w'.length ≤ w.length ∧ (w'.length = w.length → m = f → w' = w) := by
  obtain ⟨r, hr⟩ := h.hd
  obtain ⟨m, hm, hmin⟩ := min_of (w := w) (by rw [hr]; simp)
  obtain ⟨u, t, e1, n1⟩ := first_of hm
  obtain ⟨s, v, e2, n2⟩ := last_of hm
  have c1 := h.ch
  have len1 : w.length = u.length + 1 + t.length := by rw [e1]; simp; omega
  have len2 : w.length = s.length + 1 + v.length := by rw [e2]; simp; omega
  have ule : u.length ≤ s.length := by
    rcases Nat.lt_or_ge s.length u.length with z | z
    · exfalso
      apply n1
      have e3 : w[s.length]? = some m := by rw [e2]; simp
      rw [e1, List.getElem?_append_left z] at e3
      exact List.mem_of_getElem? e3
    · exact z
  have hv : ∀ x ∈ v, m < x := fun x hx => by
    have h1 := hmin x (by rw [e2]; simp [hx])
    have h2 : x ≠ m := fun e => n2 (e ▸ hx)
    omega
  have hu : ∀ x ∈ u, m < x := fun x hx => by
    have h1 := hmin x (by rw [e1]; simp [hx])
    have h2 : x ≠ m := fun e => n1 (e ▸ hx)
    omega
  have c2 : Ch adj (m :: v ++ [f]) := by
    have c := c1
    rw [e2, List.append_assoc, List.cons_append] at c
    exact (ch_split.mp c).2
  refine ⟨m, m :: v ++ u, hm, hmin, ⟨⟨⟨v ++ u, rfl⟩, ?_⟩, fun x hx => ?_⟩, by simp; omega, fun el ef => ?_⟩
  · cases u with
    | nil =>
      have ef : f = m := by
        rw [hr] at e1
        simp at e1
        exact e1.1
      rw [List.append_nil]
      rw [ef] at c2
      exact c2
    | cons a u' =>
      have ef : a = f := by
        rw [hr] at e1
        simp at e1
        exact e1.1.symm
      have c3 : Ch adj ((a :: u') ++ [m]) := by
        have c := c1
        rw [e1, List.append_assoc, List.cons_append] at c
        exact (ch_split.mp c).1
      rw [ef] at c3 ⊢
      rw [List.append_assoc, List.cons_append, List.cons_append]
      rw [List.cons_append] at c2 c3
      exact (ch_split (x := m :: v) (y := f) (z := u' ++ [m])).mpr ⟨c2, c3⟩
  · have hx' : x ∈ v ++ u := hx
    exact (List.mem_append.mp hx').elim (hv x) (hu x)
  · have ul : u.length = s.length := by simp at el; omega
    have un : u = [] := by
      cases u with
      | nil => rfl
      | cons a u' =>
        exfalso
        rw [hr] at e1
        simp at e1
        exact n1 (by rw [ef, e1.1]; simp)
    rw [un] at ul
    have sn : s = [] := List.eq_nil_of_length_eq_zero ul.symm
    rw [un, e2, sn]
    simp
end
/-! ### lists of one length, in order -/
def lexLt : List Int → List Int → Prop
  | a :: r, b :: t => a < b ∨ (a = b ∧ lexLt r t)
  | _, _ => False
def lexLe (x y : List Int) : Prop := x = y ∨ lexLt x y
theorem lexLt.trans : ∀ {x y z : List Int}, lexLt x y → lexLt y z → lexLt x z
  | a :: r, b :: t, c :: u, h, k => by
    rcases h with h | ⟨rfl, h⟩ <;> rcases k with k | ⟨rfl, k⟩
    · exact .inl (by omega)
    · exact .inl h
    · exact .inl k
    · exact .inr ⟨rfl, lexLt.trans h k⟩
theorem lexLt.irrefl : ∀ {x : List Int}, ¬ lexLt x x
  | [], h => h
  | a :: r, h => by
    rcases h with h | ⟨_, h⟩
    · omega
    · exact lexLt.irrefl h
theorem lexLe.trans {x y z : List Int} (h : lexLe x y) (k : lexLe y z) : lexLe x z := by
  rcases h with rfl | h
  · exact k
  · rcases k with rfl | k
    · exact .inr h
    · exact .inr (h.trans k)
theorem lexLe.antisymm {x y : List Int} (h : lexLe x y) (k : lexLe y x) : x = y := by
  rcases h with rfl | h
  · rfl
  · rcases k with rfl | k
    · rfl
    · exact absurd (h.trans k) lexLt.irrefl
theorem lexLt.app : ∀ {x y u v : List Int}, lexLt x y → lexLt (x ++ u) (y ++ v)
  | a :: r, b :: t, _, _, h => by
    rcases h with h | ⟨rfl, h⟩
    · exact .inl h
    · exact .inr ⟨rfl, lexLt.app h⟩
theorem lexLt.tail : ∀ {x u v : List Int}, lexLt u v → lexLt (x ++ u) (x ++ v)
  | [], _, _, h => h
  | a :: r, _, _, h => .inr ⟨rfl, lexLt.tail h⟩
theorem lexLe.app1 {x y : List Int} {k : Int} (h : lexLe x y) : lexLe (x ++ [k]) (y ++ [k]) := by
  rcases h with rfl | h
  · exact .inl rfl
  · exact .inr h.app
/-- the ring that is told: as short as any, from the least line that such begin with, the least list -/
structure Told (adj : Int → List Int) (f : Int) (w : List Int) : Prop where
  ring : Ring adj f w
  short : ∀ g v, Ring adj g v → w.length ≤ v.length
  first : ∀ g v, g < f → Ring adj g v → w.length < v.length
  least : ∀ v, Ring adj f v → v.length = w.length → lexLe w v
theorem Told.eq {adj : Int → List Int} {f g : Int} {w v : List Int} (h : Told adj f w) (k : Told adj g v) : w = v := by
  have l : w.length = v.length := Nat.le_antisymm (h.short _ _ k.ring) (k.short _ _ h.ring)
  have e : f = g := by
    rcases Int.lt_trichotomy f g with z | z | z
    · have := k.first _ _ z h.ring
      omega
    · exact z
    · have := h.first _ _ z k.ring
      omega
  subst e
  exact (h.least v k.ring l.symm).antisymm (k.least w h.ring l)
/-- from the rings whose other lines are later ones -/
structure Told' (adj : Int → List Int) (f : Int) (w : List Int) : Prop where
  ring : Ring' adj f w
  short : ∀ g v, Ring' adj g v → w.length ≤ v.length
  first : ∀ g v, g < f → Ring' adj g v → w.length < v.length
  least : ∀ v, Ring' adj f v → v.length = w.length → lexLe w v
theorem Told'.told {adj : Int → List Int} {f : Int} {w : List Int} (h : Told' adj f w) : Told adj f w where
  ring := h.ring.toRing
  short := fun g v r => by
    obtain ⟨m, v', _, _, r', l, _⟩ := r.least
    exact Nat.le_trans (h.short _ _ r') l
  first := fun g v lt r => by
    obtain ⟨m, v', _, hm, r', l, _⟩ := r.least
    obtain ⟨t, rfl⟩ := r.hd
    have := hm g (by simp)
    exact Nat.lt_of_lt_of_le (h.first _ _ (by omega) r') l
  least := fun v r el => by
    obtain ⟨m, v', _, hm, r', l, e⟩ := r.least
    obtain ⟨t, rfl⟩ := r.hd
    have h1 := hm f (by simp)
    have h2 := h.short _ _ r'
    have h3 : m = f := by
      rcases Int.lt_trichotomy m f with z | z | z
      · have := h.first _ _ z r'
        omega
      · exact z
      · omega
    have h4 := e (by omega) h3
    subst h3
    rw [← h4]
    exact h.least v' r' (by omega)
end Fl

-- after: m4.tpl
namespace Fl
/-! ### the search for a ring, step by step -/
def foldE {α β ε : Type} (g : β → α → Except ε β) : β → List α → Except ε β
  | b, [] => .ok b
  | b, a :: r => match g b a with
    | .error e => .error e
    | .ok b' => foldE g b' r
theorem foldE_app {α β ε : Type} {g : β → α → Except ε β} : ∀ {xs ys : List α} {b : β}, foldE g b (xs ++ ys) = match foldE g b xs with | .error e => Except.error e | .ok b' => foldE g b' ys
  | [], ys, b => rfl
  | x :: xs, ys, b => by
    show (match g b x with | .error e => Except.error e | .ok b' => foldE g b' (xs ++ ys)) = _
    rw [foldE]
    cases g b x with
    | error e => rfl
    | ok b' => exact foldE_app
theorem foldE_run {α β ε : Type} {g : β → α → Except ε β} {I : List α → β → Prop} : ∀ (xs pre : List α) (b : β), I pre b →
    (∀ p x q st st', xs = p ++ x :: q → I (pre ++ p) st → g st x = .ok st' → I (pre ++ p ++ [x]) st') →
    match foldE g b xs with
    | .ok r => I (pre ++ xs) r
    | .error e => ∃ p x q st, xs = p ++ x :: q ∧ I (pre ++ p) st ∧ g st x = .error e
  | [], pre, b, h, _ => by
    simpa [foldE] using h
  | x :: xs, pre, b, h, hs => by
    rw [foldE]
    cases e : g b x with
    | error e' => exact ⟨[], x, xs, b, rfl, by simpa using h, e⟩
    | ok b' =>
      have h1 := hs [] x xs b b' rfl (by simpa using h) e
      have ih := foldE_run xs (pre ++ [x]) b' (by simpa using h1) fun p y q st st' e1 i1 e2 => by
        have := hs (x :: p) y q st st' (by rw [e1]; rfl) (by simpa using i1) e2
        simpa using this
      dsimp only
      cases e3 : foldE g b' xs with
      | ok r =>
        rw [e3] at ih
        simpa using ih
      | error e' =>
        rw [e3] at ih
        obtain ⟨p, y, q, st, e4, i4, g4⟩ := ih
        exact ⟨x :: p, y, q, st, by rw [e4]; rfl, by simpa using i4, g4⟩
def rfStep (f : Int) (st : List Int × List (List Int)) (p : List Int × Int) : Except (List Int) (List Int × List (List Int)) :=
  if p.2 = f then .error p.1 else if f < p.2 ∧ p.2 ∉ st.1 then .ok (st.1 ++ [p.2], st.2 ++ [p.1 ++ [p.2]]) else .ok st
def lastF (f : Int) (w : List Int) : Int := w.getLastD f
theorem lastF_app {f y : Int} {w : List Int} : lastF f (w ++ [y]) = y := by simp [lastF]
def rfPairs (adj : Int → List Int) (f : Int) (ways : List (List Int)) : List (List Int × Int) := ways.flatMap fun w => (adj (lastF f w)).map fun y => (w, y)
def rf (adj : Int → List Int) (f : Int) : Nat → List (List Int) → List Int → List Int
  | 0, _, _ => []
  | n + 1, ways, seen => if ways = [] then [] else match foldE (rfStep f) (seen, []) (rfPairs adj f ways) with
    | .error w => w
    | .ok st => rf adj f n st.2 st.1
section
variable {adj : Int → List Int} {f : Int}
/-- a way of so many steps from f on by later lines -/
structure Pth (adj : Int → List Int) (f : Int) (l : Nat) (w : List Int) : Prop where
  hd : ∃ r, w = f :: r ∧ r.length = l
  ch : Ch adj w
  up : ∀ x ∈ w.tail, f < x
theorem Pth.len {l : Nat} {w : List Int} (h : Pth adj f l w) : w.length = l + 1 := by
  obtain ⟨r, rfl, e⟩ := h.hd
  simp [e]
theorem lastF_split {w : List Int} (h : w ≠ []) : ∃ u, w = u ++ [lastF f w] := by
  refine ⟨w.dropLast, ?_⟩
  have e : lastF f w = w.getLast h := by
    unfold lastF
    rw [List.getLastD_eq_getLast?, List.getLast?_eq_some_getLast h]
    rfl
  rw [e]
  exact (List.dropLast_concat_getLast h).symm
theorem Pth.snoc {l : Nat} {w : List Int} {y : Int} (h : Pth adj f l w) (hy : y ∈ adj (lastF f w)) (up : f < y) : Pth adj f (l + 1) (w ++ [y]) := by
  obtain ⟨r, e, el⟩ := h.hd
  obtain ⟨u, eu⟩ := lastF_split (f := f) (w := w) (by rw [e]; simp)
  refine ⟨⟨r ++ [y], by rw [e]; rfl, by simp [el]⟩, ?_, fun x hx => ?_⟩
  · have c := h.ch
    rw [eu] at c ⊢
    rw [List.append_assoc]
    exact ch_split.mpr ⟨c, ⟨by simpa [lastF_app] using hy, trivial⟩⟩
  · rw [e] at hx
    simp at hx
    rcases hx with hx | rfl
    · exact h.up x (by rw [e]; exact hx)
    · exact up
theorem Pth.split {l : Nat} {w : List Int} (h : Pth adj f (l + 1) w) : ∃ u y, w = u ++ [y] ∧ Pth adj f l u ∧ y ∈ adj (lastF f u) ∧ f < y := by
  obtain ⟨r, e, el⟩ := h.hd
  have rn : r ≠ [] := by rintro rfl; simp at el
  obtain ⟨t, y, rfl⟩ : ∃ t y, r = t ++ [y] := ⟨r.dropLast, r.getLast rn, (List.dropLast_concat_getLast rn).symm⟩
  have el' : t.length = l := by simpa using el
  obtain ⟨u, eu⟩ := lastF_split (f := f) (w := f :: t) (by simp)
  have c := h.ch
  rw [e, ← List.cons_append, eu, List.append_assoc] at c
  have c2 := ch_split.mp c
  refine ⟨f :: t, y, by rw [e]; rfl, ⟨⟨t, rfl, el'⟩, by rw [eu]; exact c2.1, fun x hx => h.up x (by rw [e]; simp; exact .inl hx)⟩, c2.2.1, h.up y (by rw [e]; simp)⟩
theorem pth_ring {l : Nat} {w : List Int} : Pth adj f l w → f ∈ adj (lastF f w) → Ring' adj f w := fun h hf => by
  obtain ⟨r, e, el⟩ := h.hd
  obtain ⟨u, eu⟩ := lastF_split (f := f) (w := w) (by rw [e]; simp)
  refine ⟨⟨⟨r, e⟩, ?_⟩, h.up⟩
  have c := h.ch
  rw [eu] at c
  rw [eu, List.append_assoc]
  exact ch_split.mpr ⟨c, ⟨hf, trivial⟩⟩
theorem ring_pth {w : List Int} (h : Ring' adj f w) : ∃ l, Pth adj f l w ∧ w.length = l + 1 ∧ f ∈ adj (lastF f w) := by
  obtain ⟨r, e⟩ := h.hd
  obtain ⟨u, eu⟩ := lastF_split (f := f) (w := w) (by rw [e]; simp)
  have c := h.ch
  rw [eu, List.append_assoc] at c
  have c2 := ch_split.mp c
  refine ⟨r.length, ⟨⟨r, e, rfl⟩, by rw [eu]; exact c2.1, h.up⟩, by rw [e]; simp, c2.2.1⟩
/-- what holds when the ways of l steps are known -/
structure BI (adj : Int → List Int) (f : Int) (l : Nat) (ways : List (List Int)) (seen : List Int) : Prop where
  pth : ∀ w ∈ ways, Pth adj f l w
  srt : ways.Pairwise lexLt
  cov : ∀ w, Pth adj f l w → (∃ l' w', l' < l ∧ Pth adj f l' w' ∧ lastF f w' = lastF f w) ∨ ∃ v ∈ ways, lastF f v = lastF f w ∧ lexLe v w
  noc : ∀ l' w, l' < l → Pth adj f l' w → f ∉ adj (lastF f w)
  sn : ∀ x ∈ seen, ∃ l' w, l' ≤ l ∧ Pth adj f l' w ∧ lastF f w = x
  nd : seen.Nodup
  up : ∀ x ∈ seen, f < x ∧ ∃ a, x ∈ adj a
  cnt : ways ≠ [] → l ≤ seen.length
theorem BI.start : BI adj f 0 [[f]] [] where
  pth := fun w hw => by
    rw [List.mem_singleton.mp hw]
    exact ⟨⟨[], rfl, rfl⟩, trivial, by simp⟩
  srt := List.pairwise_singleton _ _
  cov := fun w h => by
    obtain ⟨r, e, el⟩ := h.hd
    have : r = [] := List.eq_nil_of_length_eq_zero el
    subst this
    exact .inr ⟨[f], by simp, by rw [e], .inl e.symm⟩
  noc := fun l' _ h => by omega
  sn := by simp
  nd := List.nodup_nil
  up := by simp
  cnt := by simp
/-- .. within a turn -/
structure TI (f : Int) (seen0 : List Int) (pre : List (List Int × Int)) (st : List Int × List (List Int)) : Prop where
  j1 : ∀ v ∈ st.2, ∃ p ∈ pre, v = p.1 ++ [p.2] ∧ f < p.2 ∧ p.2 ∉ seen0
  j2 : st.2.Pairwise lexLt
  j3 : ∀ p ∈ pre, f < p.2 → p.2 ∈ seen0 ∨ ∃ v ∈ st.2, lastF f v = p.2 ∧ lexLe v (p.1 ++ [p.2])
  j4 : st.1 = seen0 ++ st.2.map (lastF f)
  j5 : ∀ p ∈ pre, p.2 ≠ f
  j6 : st.1.Nodup
theorem pairs_srt (hs : ∀ a, (adj a).Pairwise (· < ·)) : ∀ {ways : List (List Int)}, ways.Pairwise lexLt → (rfPairs adj f ways).Pairwise fun p q => lexLt (p.1 ++ [p.2]) (q.1 ++ [q.2])
  | [], _ => List.Pairwise.nil
  | w :: r, h => by
    have h' := List.pairwise_cons.mp h
    show ((adj (lastF f w)).map (fun y => (w, y)) ++ rfPairs adj f r).Pairwise _
    refine List.pairwise_append.mpr ⟨?_, pairs_srt hs h'.2, fun p hp q hq => ?_⟩
    · refine List.pairwise_map.mpr ((hs _).imp fun {a b} lt => ?_)
      exact lexLt.tail (x := w) (u := [a]) (v := [b]) (.inl lt)
    · obtain ⟨y, _, rfl⟩ := List.mem_map.mp hp
      obtain ⟨w', hw', hq'⟩ := List.mem_flatMap.mp hq
      obtain ⟨z, _, rfl⟩ := List.mem_map.mp hq'
      exact (h'.1 w' hw').app
theorem mem_pairs {ways : List (List Int)} {p : List Int × Int} : p ∈ rfPairs adj f ways ↔ p.1 ∈ ways ∧ p.2 ∈ adj (lastF f p.1) := by
  unfold rfPairs
  rw [List.mem_flatMap]
  constructor
  · rintro ⟨w, hw, hp⟩
    obtain ⟨y, hy, rfl⟩ := List.mem_map.mp hp
    exact ⟨hw, hy⟩
  · rintro ⟨h1, h2⟩
    exact ⟨p.1, h1, List.mem_map.mpr ⟨p.2, h2, rfl⟩⟩
theorem turn_xs {seen : List Int} (nd : seen.Nodup) {xs : List (List Int × Int)} (srt : xs.Pairwise fun p q => lexLt (p.1 ++ [p.2]) (q.1 ++ [q.2])) :
    match foldE (rfStep f) (seen, []) xs with
    | .ok r => TI f seen xs r
    | .error e => ∃ p x q st, xs = p ++ x :: q ∧ TI f seen p st ∧ rfStep f st x = .error e := by
  have run := foldE_run (g := rfStep f) (I := TI f seen) xs [] (seen, []) ⟨by simp, List.Pairwise.nil, by simp, by simp, by simp, nd⟩ ?_
  · simp only [List.nil_append] at run
    cases e : foldE (rfStep f) (seen, []) xs with
    | ok r => rw [e] at run; exact run
    | error r => rw [e] at run; exact run
  intro p x q st st' e i g
  rw [List.nil_append] at i ⊢
  unfold rfStep at g
  rw [e] at srt
  have s1 := List.pairwise_append.mp srt
  by_cases c : x.2 = f
  · rw [if_pos c] at g
    cases g
  rw [if_neg c] at g
  by_cases c2 : f < x.2 ∧ x.2 ∉ st.1
  · rw [if_pos c2] at g
    cases g
    have c3 : x.2 ∉ seen := fun z => c2.2 (by rw [i.j4]; exact List.mem_append_left _ z)
    refine ⟨fun v hv => ?_, ?_, fun y hy up => ?_, ?_, fun y hy => ?_, ?_⟩
    · rcases List.mem_append.mp hv with z | z
      · obtain ⟨y, hy, r⟩ := i.j1 v z
        exact ⟨y, List.mem_append_left _ hy, r⟩
      · exact ⟨x, by simp, List.mem_singleton.mp z, c2.1, c3⟩
    · refine List.pairwise_append.mpr ⟨i.j2, List.pairwise_singleton _ _, fun a ha b hb => ?_⟩
      rw [List.mem_singleton.mp hb]
      obtain ⟨y, hy, rfl, _⟩ := i.j1 a ha
      exact s1.2.2 y hy x (List.mem_cons_self ..)
    · rcases List.mem_append.mp hy with z | z
      · exact (i.j3 y z up).imp id fun ⟨v, hv, r⟩ => ⟨v, List.mem_append_left _ hv, r⟩
      · rw [List.mem_singleton.mp z]
        exact .inr ⟨x.1 ++ [x.2], by simp, lastF_app, .inl rfl⟩
    · simp only []
      rw [i.j4, List.map_append, List.append_assoc]
      simp [lastF_app]
    · rcases List.mem_append.mp hy with z | z
      · exact i.j5 y z
      · rw [List.mem_singleton.mp z]
        exact c
    · refine List.nodup_append.mpr ⟨i.j6, by simp, fun a ha b hb ab => ?_⟩
      rw [List.mem_singleton.mp hb] at ab
      exact c2.2 (ab ▸ ha)
  · rw [if_neg c2] at g
    cases g
    refine ⟨fun v hv => ?_, i.j2, fun y hy up => ?_, i.j4, fun y hy => ?_, i.j6⟩
    · obtain ⟨y, hy, r⟩ := i.j1 v hv
      exact ⟨y, List.mem_append_left _ hy, r⟩
    · rcases List.mem_append.mp hy with z | z
      · exact i.j3 y z up
      · rw [List.mem_singleton.mp z] at up ⊢
        have z2 : x.2 ∈ st.1 := Classical.byContradiction fun z3 => c2 ⟨up, z3⟩
        rw [i.j4] at z2
        rcases List.mem_append.mp z2 with z3 | z3
        · exact .inl z3
        · obtain ⟨v, hv, ev⟩ := List.mem_map.mp z3
          refine .inr ⟨v, hv, ev, ?_⟩
          obtain ⟨y, hy, rfl, _⟩ := i.j1 v hv
          exact .inr (s1.2.2 y hy x (List.mem_cons_self ..))
    · rcases List.mem_append.mp hy with z | z
      · exact i.j5 y z
      · rw [List.mem_singleton.mp z]
        exact c
theorem turn_run (hs : ∀ a, (adj a).Pairwise (· < ·)) {l : Nat} {ways : List (List Int)} {seen : List Int} (h : BI adj f l ways seen) :
    match foldE (rfStep f) (seen, []) (rfPairs adj f ways) with
    | .ok r => TI f seen (rfPairs adj f ways) r
    | .error e => ∃ p x q st, rfPairs adj f ways = p ++ x :: q ∧ TI f seen p st ∧ rfStep f st x = .error e :=
  turn_xs h.nd (pairs_srt hs h.srt)
/-- .. a part of a turn -/
theorem turn_pre (hs : ∀ a, (adj a).Pairwise (· < ·)) {l : Nat} {ways : List (List Int)} {seen : List Int} (h : BI adj f l ways seen) {p q : List (List Int × Int)} (e : rfPairs adj f ways = p ++ q) {st : List Int × List (List Int)}
    (r : foldE (rfStep f) (seen, []) p = .ok st) : TI f seen p st := by
  have srt := pairs_srt (f := f) hs h.srt
  rw [e] at srt
  have t := turn_xs (f := f) h.nd (List.pairwise_append.mp srt).1
  rw [r] at t
  exact t
theorem BI.next (hs : ∀ a, (adj a).Pairwise (· < ·)) {l : Nat} {ways : List (List Int)} {seen : List Int} (h : BI adj f l ways seen) (wn : ways ≠ []) {st : List Int × List (List Int)}
    (e : foldE (rfStep f) (seen, []) (rfPairs adj f ways) = .ok st) : BI adj f (l + 1) st.2 st.1 ∧ st.1.length = seen.length + st.2.length := by
  have t := turn_run hs h
  rw [e] at t
  have t : TI f seen (rfPairs adj f ways) st := t
  have len : st.1.length = seen.length + st.2.length := by
    rw [t.j4]
    simp
  refine ⟨⟨fun w hw => ?_, t.j2, fun w hw => ?_, fun l' w hl hw => ?_, fun x hx => ?_, t.j6, fun x hx => ?_, fun ne => ?_⟩, len⟩
  · obtain ⟨p, hp, rfl, up, _⟩ := t.j1 w hw
    obtain ⟨h1, h2⟩ := mem_pairs.mp hp
    exact (h.pth _ h1).snoc h2 up
  · obtain ⟨u, y, rfl, hu, hy, up⟩ := hw.split
    rcases h.cov u hu with ⟨l', w', hl, hw', ew⟩ | ⟨v, hv, ev, le⟩
    · exact .inl ⟨l' + 1, w' ++ [y], by omega, hw'.snoc (by rw [ew]; exact hy) up, by rw [lastF_app, lastF_app]⟩
    · rcases t.j3 (v, y) (mem_pairs.mpr ⟨hv, by show y ∈ adj (lastF f v); rw [ev]; exact hy⟩) up with z | ⟨v', hv', ev', le'⟩
      · obtain ⟨l', w', hl, hw', ew⟩ := h.sn y z
        exact .inl ⟨l', w', by omega, hw', by rw [lastF_app]; exact ew⟩
      · exact .inr ⟨v', hv', by rw [lastF_app]; exact ev', le'.trans le.app1⟩
  · intro hf
    rcases Nat.lt_or_ge l' l with z | z
    · exact h.noc l' w z hw hf
    · have el : l' = l := by omega
      subst el
      rcases h.cov w hw with ⟨l'', w', hl, hw', ew⟩ | ⟨v, hv, ev, _⟩
      · exact h.noc l'' w' hl hw' (by rw [ew]; exact hf)
      · exact t.j5 (v, f) (mem_pairs.mpr ⟨hv, by show f ∈ adj (lastF f v); rw [ev]; exact hf⟩) rfl
  · rw [t.j4] at hx
    rcases List.mem_append.mp hx with z | z
    · obtain ⟨l', w, hl, r⟩ := h.sn x z
      exact ⟨l', w, by omega, r⟩
    · obtain ⟨v, hv, ev⟩ := List.mem_map.mp z
      obtain ⟨p, hp, rfl, up, _⟩ := t.j1 v hv
      obtain ⟨h1, h2⟩ := mem_pairs.mp hp
      exact ⟨l + 1, _, Nat.le_refl _, (h.pth _ h1).snoc h2 up, ev⟩
  · rw [t.j4] at hx
    rcases List.mem_append.mp hx with z | z
    · exact h.up x z
    · obtain ⟨v, hv, ev⟩ := List.mem_map.mp z
      obtain ⟨p, hp, rfl, up, _⟩ := t.j1 v hv
      obtain ⟨h1, h2⟩ := mem_pairs.mp hp
      rw [lastF_app] at ev
      rw [← ev]
      exact ⟨up, _, h2⟩
  · have h1 := h.cnt wn
    have h2 : 0 < st.2.length := List.length_pos_iff.mpr ne
    omega
/-- what ring_from tells -/
structure RfOk (adj : Int → List Int) (f : Int) (R : List Int) : Prop where
  none : R = [] → ∀ v, ¬ Ring' adj f v
  ring : R ≠ [] → Ring' adj f R
  short : ∀ v, Ring' adj f v → R.length ≤ v.length
  least : ∀ v, Ring' adj f v → v.length = R.length → lexLe R v
theorem BI.found (hs : ∀ a, (adj a).Pairwise (· < ·)) {l : Nat} {ways : List (List Int)} {seen : List Int} (h : BI adj f l ways seen) {w : List Int}
    (e : foldE (rfStep f) (seen, []) (rfPairs adj f ways) = .error w) : RfOk adj f w ∧ w.length = l + 1 := by
  have t := turn_run hs h
  rw [e] at t
  obtain ⟨p, x, q, st, ep, i, g⟩ := t
  unfold rfStep at g
  by_cases c : x.2 = f
  · rw [if_pos c] at g
    cases g
    have hx : x ∈ rfPairs adj f ways := by rw [ep]; simp
    obtain ⟨h1, h2⟩ := mem_pairs.mp hx
    rw [c] at h2
    have pw := h.pth _ h1
    have r := pth_ring pw h2
    have srt := pairs_srt (f := f) hs h.srt
    refine ⟨⟨fun z => ?_, fun _ => r, fun v hv => ?_, fun v hv el => ?_⟩, pw.len⟩
    · have := pw.len
      rw [z] at this
      simp at this
    · obtain ⟨l', pv, lv, hf⟩ := ring_pth hv
      have lw := pw.len
      rcases Nat.lt_or_ge l' l with z | z
      · exact absurd hf (h.noc l' v z pv)
      · omega
    · obtain ⟨l', pv, lv, hf⟩ := ring_pth hv
      have lw := pw.len
      have el' : l' = l := by omega
      subst el'
      rcases h.cov v pv with ⟨l'', w', hl, hw', ew⟩ | ⟨u, hu, eu, le⟩
      · exact absurd (by rw [ew]; exact hf) (h.noc l'' w' hl hw')
      · refine lexLe.trans ?_ le
        have hm : (u, f) ∈ rfPairs adj f ways := mem_pairs.mpr ⟨hu, by show f ∈ adj (lastF f u); rw [eu]; exact hf⟩
        rw [ep] at hm srt
        rcases List.mem_append.mp hm with z | z
        · exact absurd rfl (i.j5 _ z)
        · rcases List.mem_cons.mp z with z | z
          · rw [← z]
            exact .inl rfl
          · have s2 := (List.pairwise_cons.mp (List.pairwise_append.mp srt).2.1).1 _ z
            have s3 : lexLt (x.1 ++ [f]) (u ++ [f]) := by rw [← c] at s2 ⊢; exact s2
            exact lexLt_cut (by rw [pw.len, (h.pth _ hu).len]) s3
  · rw [if_neg c] at g
    split at g <;> cases g
where
  lexLt_cut : ∀ {x y : List Int} {k : Int}, x.length = y.length → lexLt (x ++ [k]) (y ++ [k]) → lexLe x y
    | [], [], _, _, h => by
      rcases h with h | ⟨_, h⟩
      · omega
      · exact h.elim
    | a :: r, b :: t, k, l, h => by
      rcases h with h | ⟨rfl, h⟩
      · exact .inr (.inl h)
      · rcases lexLt_cut (by simpa using l) h with rfl | z
        · exact .inl rfl
        · exact .inr (.inr ⟨rfl, z⟩)
/-- with no way left all later ones end where shorter ones do -/
theorem BI.stuck {l : Nat} {seen : List Int} (h : BI adj f l [] seen) : ∀ (k l' : Nat) (w : List Int), l' ≤ k → Pth adj f l' w → ∃ l'' w', l'' < l ∧ Pth adj f l'' w' ∧ lastF f w' = lastF f w
  | k, l', w, hk, hw => by
    rcases Nat.lt_or_ge l' l with z | z
    · exact ⟨l', w, z, hw, rfl⟩
    rcases Nat.eq_or_lt_of_le z with z | z
    · subst z
      rcases h.cov w hw with r | ⟨v, hv, _⟩
      · exact r
      · cases hv
    · cases l' with
      | zero => omega
      | succ m =>
        obtain ⟨u, y, rfl, hu, hy, up⟩ := hw.split
        cases k with
        | zero => omega
        | succ k =>
          obtain ⟨l2, w2, hl2, hw2, e2⟩ := BI.stuck h k m u (by omega) hu
          have h3 := hw2.snoc (y := y) (by rw [e2]; exact hy) up
          obtain ⟨l4, w4, hl4, hw4, e4⟩ := BI.stuck h k (l2 + 1) (w2 ++ [y]) (by omega) h3
          exact ⟨l4, w4, hl4, hw4, by rw [e4, lastF_app, lastF_app]⟩
theorem BI.none {l : Nat} {seen : List Int} (h : BI adj f l [] seen) : RfOk adj f [] := by
  have no : ∀ v, ¬ Ring' adj f v := fun v hv => by
    obtain ⟨l', pv, _, hf⟩ := ring_pth hv
    obtain ⟨l2, w2, hl2, hw2, e2⟩ := h.stuck l' l' v (Nat.le_refl _) pv
    exact h.noc l2 w2 hl2 hw2 (by rw [e2]; exact hf)
  exact ⟨fun _ => no, fun z => absurd rfl z, fun v hv => absurd hv (no v), fun v hv => absurd hv (no v)⟩
def meas (n : Nat) (ways : List (List Int)) (seen : List Int) : Nat := n - seen.length + if ways = [] then 0 else 1
theorem range_len {n : Nat} {xs : List Int} (nd : xs.Nodup) (h : ∀ x ∈ xs, 0 ≤ x ∧ x < n) : xs.length ≤ n := by
  have sub : ∀ x ∈ xs, x ∈ (List.range n).map fun (k : Nat) => (k : Int) := fun x hx => by
    have := h x hx
    exact List.mem_map.mpr ⟨x.toNat, List.mem_range.mpr (by omega), by omega⟩
  have e := nodup_le' nd sub
  simpa using e
where
  nodup_le' : ∀ {xs ys : List Int}, xs.Nodup → (∀ x ∈ xs, x ∈ ys) → xs.length ≤ ys.length
    | [], _, _, _ => Nat.zero_le _
    | x :: r, ys, nd, h => by
      have nd' := List.nodup_cons.mp nd
      have hx := h x (List.mem_cons_self ..)
      have ih := nodup_le' (ys := ys.erase x) nd'.2 fun z hz => (List.mem_erase_of_ne (fun (e : z = x) => nd'.1 (by rw [← e]; exact hz))).mpr (h z (List.mem_cons_of_mem _ hz))
      rw [List.length_erase_of_mem hx] at ih
      have := List.length_pos_of_mem hx
      simp only [List.length_cons]
      omega
theorem turn_len (hs : ∀ a, (adj a).Pairwise (· < ·)) {n : Nat} (hr : ∀ a y, y ∈ adj a → 0 ≤ y ∧ y < n) {l : Nat} {ways : List (List Int)} {seen : List Int} (h : BI adj f l ways seen) {p q : List (List Int × Int)} (e : rfPairs adj f ways = p ++ q)
    {st : List Int × List (List Int)} (r : foldE (rfStep f) (seen, []) p = .ok st) : st.1.length ≤ n ∧ st.2.length ≤ n := by
  have t := turn_pre hs h e r
  have len : st.1.length = seen.length + st.2.length := by
    rw [t.j4]
    simp
  have ls := range_len (n := n) t.j6 fun x hx => by
    rw [t.j4] at hx
    rcases List.mem_append.mp hx with z | z
    · obtain ⟨_, a, ha⟩ := h.up x z
      exact hr a x ha
    · obtain ⟨v, hv, ev⟩ := List.mem_map.mp z
      obtain ⟨y, hy, rfl, _⟩ := t.j1 v hv
      rw [lastF_app] at ev
      have hm : y ∈ rfPairs adj f ways := by rw [e]; exact List.mem_append_left _ hy
      rw [← ev]
      exact hr _ _ (mem_pairs.mp hm).2
  omega
theorem rf_ok (hs : ∀ a, (adj a).Pairwise (· < ·)) {n : Nat} (hr : ∀ a y, y ∈ adj a → 0 ≤ y ∧ y < n) (hf : 0 ≤ f ∧ f < n) : ∀ (m l : Nat) (ways : List (List Int)) (seen : List Int), BI adj f l ways seen → meas n ways seen ≤ m →
    RfOk adj f (rf adj f m ways seen) ∧ (rf adj f m ways seen).length ≤ n
  | 0, l, ways, seen, h, hm => by
    have e : ways = [] := by
      unfold meas at hm
      by_cases c : ways = []
      · exact c
      · rw [if_neg c] at hm
        omega
    subst e
    exact ⟨h.none, by simp [rf]⟩
  | m + 1, l, ways, seen, h, hm => by
    unfold rf
    by_cases c : ways = []
    · rw [if_pos c]
      subst c
      exact ⟨h.none, by simp⟩
    rw [if_neg c]
    have ls := range_len (n := n) (xs := f :: seen) (List.nodup_cons.mpr ⟨fun z => by have := (h.up f z).1; omega, h.nd⟩) fun x hx => by
      rcases List.mem_cons.mp hx with rfl | hx
      · exact hf
      obtain ⟨_, a, ha⟩ := h.up x hx
      exact hr a x ha
    rw [List.length_cons] at ls
    have lc := h.cnt c
    cases e : foldE (rfStep f) (seen, []) (rfPairs adj f ways) with
    | error w =>
      obtain ⟨h1, h2⟩ := h.found hs e
      exact ⟨h1, by show w.length ≤ n; omega⟩
    | ok st =>
      obtain ⟨h1, h2⟩ := h.next hs c e
      refine rf_ok hs hr hf m (l + 1) st.2 st.1 h1 ?_
      have ls' := range_len h1.nd fun x hx => by
        obtain ⟨_, a, ha⟩ := h1.up x hx
        exact hr a x ha
      unfold meas at hm ⊢
      rw [if_neg c] at hm
      by_cases c2 : st.2 = []
      · rw [if_pos c2]
        omega
      · rw [if_neg c2]
        have := List.length_pos_iff.mpr c2
        omega
end
end Fl

-- after: m4b.tpl
namespace Fl
/-! ### ring_of, as a function -/
def rfAll (adj : Int → List Int) (n : Nat) (f : Int) : List Int := rf adj f (n + 1) [[f]] []
def roStep (adj : Int → List Int) (n : Nat) (found : List Int) (f : Int) : List Int :=
  if rfAll adj n f ≠ [] ∧ (found = [] ∨ (rfAll adj n f).length < found.length) then rfAll adj n f else found
def roN (adj : Int → List Int) (n : Nat) : Nat → List Int
  | 0 => []
  | i + 1 => roStep adj n (roN adj n i) (i : Int)
section
variable {adj : Int → List Int} {n : Nat}
/-- the lines that are named are lines, rising -/
structure Adj (adj : Int → List Int) (n : Nat) : Prop where
  srt : ∀ a, (adj a).Pairwise (· < ·)
  rng : ∀ a y, y ∈ adj a → 0 ≤ y ∧ y < n
theorem rfAll_ok (h : Adj adj n) {f : Int} (hf : 0 ≤ f ∧ f < n) : RfOk adj f (rfAll adj n f) ∧ (rfAll adj n f).length ≤ n :=
  rf_ok h.srt h.rng hf (n + 1) 0 _ _ BI.start (by simp [meas])
structure RoOk (adj : Int → List Int) (n : Nat) (i : Nat) (R : List Int) : Prop where
  none : R = [] → ∀ (g : Int) v, g < i → ¬ Ring' adj g v
  ring : R ≠ [] → R.length ≤ n ∧ ∃ f, Ring' adj f R ∧ (∀ (g : Int) v, g < i → Ring' adj g v → R.length ≤ v.length) ∧ (∀ g v, g < f → Ring' adj g v → R.length < v.length) ∧ ∀ v, Ring' adj f v → v.length = R.length → lexLe R v
theorem ring_range (h : Adj adj n) {f : Int} {w : List Int} (r : Ring adj f w) : 0 ≤ f ∧ f < n := by
  obtain ⟨t, e⟩ := r.hd
  obtain ⟨u, eu⟩ := lastF_split (f := f) (w := w) (by rw [e]; simp)
  have c := r.ch
  rw [eu, List.append_assoc] at c
  exact h.rng _ _ (ch_split.mp c).2.1
theorem roN_ok (h : Adj adj n) : ∀ i : Nat, i ≤ n → RoOk adj n i (roN adj n i)
  | 0, _ => ⟨fun _ g v hg r => by
      have := ring_range h r.toRing
      omega, fun z => absurd rfl z⟩
  | i + 1, hi => by
    have ih := roN_ok h i (by omega)
    obtain ⟨o, ol⟩ := rfAll_ok h (f := (i : Int)) ⟨by omega, by omega⟩
    have cases_g : ∀ g : Int, g < (i + 1 : Nat) → g < i ∨ g = i := fun g hg => by omega
    show RoOk adj n (i + 1) (roStep adj n (roN adj n i) i)
    unfold roStep
    by_cases c : rfAll adj n i ≠ [] ∧ (roN adj n i = [] ∨ (rfAll adj n i).length < (roN adj n i).length)
    · rw [if_pos c]
      have lt : ∀ (g : Int) v, g < i → Ring' adj g v → (rfAll adj n i).length < v.length := fun g v hg r => by
        rcases c.2 with z | z
        · exact absurd r (ih.none z g v hg)
        · obtain ⟨_, f, _, s, _⟩ := ih.ring (by rintro e; rw [e] at z; simp at z)
          have := s g v hg r
          omega
      refine ⟨fun z => absurd z c.1, fun _ => ⟨ol, (i : Int), o.ring c.1, fun g v hg r => ?_, lt, o.least⟩⟩
      rcases cases_g g hg with z | rfl
      · exact Nat.le_of_lt (lt g v z r)
      · exact o.short v r
    · rw [if_neg c]
      refine ⟨fun z g v hg r => ?_, fun z => ?_⟩
      · rcases cases_g g hg with w | rfl
        · exact ih.none z g v w r
        · have e : rfAll adj n i = [] := Classical.byContradiction fun y => c ⟨y, .inl z⟩
          exact o.none e v r
      · obtain ⟨l, f, r1, s, t, u⟩ := ih.ring z
        refine ⟨l, f, r1, fun g v hg r => ?_, t, u⟩
        rcases cases_g g hg with w | rfl
        · exact s g v w r
        · by_cases e : rfAll adj n i = []
          · exact absurd r (o.none e v)
          · have h1 := o.short v r
            have h2 : ¬ (rfAll adj n i).length < (roN adj n i).length := fun y => c ⟨e, .inr y⟩
            omega
/-- what ring_of tells -/
theorem ro_told (h : Adj adj n) : (roN adj n n = [] ∧ ∀ g v, ¬ Ring adj g v) ∨ (roN adj n n).length ≤ n ∧ ∃ f, Told adj f (roN adj n n) := by
  have o := roN_ok h n (Nat.le_refl _)
  by_cases c : roN adj n n = []
  · refine .inl ⟨c, fun g v r => ?_⟩
    obtain ⟨m, v', _, _, r', _⟩ := r.least
    exact o.none c m v' (ring_range h r'.toRing).2 r'
  · obtain ⟨l, f, r, s, t, u⟩ := o.ring c
    exact .inr ⟨l, f, Told'.told ⟨r, fun g v r' => s g v (ring_range h r'.toRing).2 r', t, u⟩⟩
theorem ro_nil (h : Adj adj n) (no : ∀ g v, ¬ Ring adj g v) : roN adj n n = [] := by
  rcases ro_told h with z | ⟨_, f, t⟩
  · exact z.1
  · exact absurd t.ring (no _ _)
end
/-! ### ways back, by their lengths -/
def Wk (adj : Int → List Int) : Nat → Int → Int → Prop
  | 0, a, b => a = b
  | m + 1, a, b => ∃ c ∈ adj a, Wk adj m c b
structure Dst (adj : Int → List Int) (f k : Int) (m : Nat) : Prop where
  pos : 1 ≤ m
  wk : Wk adj m k f
  min : ∀ j, 1 ≤ j → j < m → ¬ Wk adj j k f
section
variable {adj : Int → List Int} {n : Nat}
theorem Wk.app : ∀ {i j : Nat} {a b c : Int}, Wk adj i a b → Wk adj j b c → Wk adj (i + j) a c
  | 0, j, a, b, c, h, k => by
    rw [show a = b from h, Nat.zero_add]
    exact k
  | i + 1, j, a, b, c, ⟨d, hd, h⟩, k => by
    rw [Nat.add_right_comm]
    exact ⟨d, hd, Wk.app h k⟩
theorem Dst.uniq {f k : Int} {m m' : Nat} (h : Dst adj f k m) (h' : Dst adj f k m') : m = m' := by
  rcases Nat.lt_trichotomy m m' with z | z | z
  · exact absurd h.wk (h'.min m h.pos z)
  · exact z
  · exact absurd h'.wk (h.min m' h'.pos z)
theorem Dst.of_wk {f k : Int} : ∀ {m : Nat}, 1 ≤ m → Wk adj m k f → ∃ m', m' ≤ m ∧ Dst adj f k m' := by
  intro m
  induction m using Nat.strongRecOn with
  | ind m ih =>
    intro hm w
    by_cases c : ∃ j, 1 ≤ j ∧ j < m ∧ Wk adj j k f
    · obtain ⟨j, j1, jm, wj⟩ := c
      obtain ⟨m', l, d⟩ := ih j jm j1 wj
      exact ⟨m', by omega, d⟩
    · exact ⟨m, Nat.le_refl _, hm, w, fun j j1 jm wj => c ⟨j, j1, jm, wj⟩⟩
/-- one step further -/
theorem Dst.succ {f k : Int} {i : Nat} (hi : 1 ≤ i) : Dst adj f k (i + 1) ↔ (∀ m, m ≤ i → ¬ Dst adj f k m) ∧ ∃ c ∈ adj k, Dst adj f c i := by
  constructor
  · intro d
    refine ⟨fun m hm d' => by have := d.uniq d'; omega, ?_⟩
    obtain ⟨c, hc, w⟩ := d.wk
    refine ⟨c, hc, hi, w, fun j j1 jm wj => d.min (j + 1) (by omega) (by omega) ⟨c, hc, wj⟩⟩
  · rintro ⟨h, c, hc, d⟩
    refine ⟨by omega, ⟨c, hc, d.wk⟩, fun j j1 jm wj => ?_⟩
    obtain ⟨m', l, d'⟩ := Dst.of_wk j1 wj
    exact h m' (by omega) d'
theorem Dst.one {f k : Int} : Dst adj f k 1 ↔ f ∈ adj k := by
  constructor
  · intro d
    obtain ⟨c, hc, w⟩ := d.wk
    rw [← show c = f from w]
    exact hc
  · exact fun h => ⟨Nat.le_refl _, ⟨f, h, rfl⟩, fun j j1 jm => by omega⟩
theorem ch_wk : ∀ {r : List Int} {a b : Int}, Ch adj (a :: r ++ [b]) → Wk adj (r.length + 1) a b
  | [], a, b, h => ⟨b, h.1, rfl⟩
  | c :: r, a, b, h => ⟨c, h.1, ch_wk (r := r) h.2⟩
theorem Ring.wk {f : Int} {w : List Int} (h : Ring adj f w) : Wk adj w.length f f := by
  obtain ⟨r, rfl⟩ := h.hd
  exact ch_wk h.ch
theorem wk_ch : ∀ {m : Nat} {a b : Int}, Wk adj (m + 1) a b → ∃ r, r.length = m ∧ Ch adj (a :: r ++ [b])
  | 0, a, b, ⟨c, hc, e⟩ => ⟨[], rfl, by rw [← show c = b from e]; exact ⟨hc, trivial⟩⟩
  | m + 1, a, b, ⟨c, hc, w⟩ => by
    obtain ⟨r, l, h⟩ := wk_ch w
    exact ⟨c :: r, by simp [l], hc, h⟩
theorem Dst.ring {f : Int} {m : Nat} (d : Dst adj f f m) : ∃ w, Ring adj f w ∧ w.length = m := by
  obtain ⟨m', rfl⟩ : ∃ m', m = m' + 1 := ⟨m - 1, by have := d.pos; omega⟩
  obtain ⟨r, l, h⟩ := wk_ch d.wk
  exact ⟨f :: r, ⟨⟨r, rfl⟩, h⟩, by simp [l]⟩
/-- the lines of a shortest ring, seen from their place -/
theorem Ring.at {f : Int} {m : Nat} (d : Dst adj f f m) {v : List Int} (h : Ring adj f v) (l : v.length = m) {j : Nat} {x y : Int} (hx : v[j]? = some x) (hy : v[j + 1]? = some y) : y ∈ adj x ∧ Dst adj f y (m - 1 - j) := by
  have jl : j + 1 < v.length := (List.getElem?_eq_some_iff.mp hy).1
  have e1 : v = v.take j ++ x :: v.drop (j + 1) := by
    obtain ⟨q, rfl⟩ := List.getElem?_eq_some_iff.mp hx
    rw [← List.drop_eq_getElem_cons q]
    exact (List.take_append_drop j v).symm
  have e2 : v.drop (j + 1) = y :: v.drop (j + 2) := by
    obtain ⟨q, rfl⟩ := List.getElem?_eq_some_iff.mp hy
    exact List.drop_eq_getElem_cons q
  have c := h.ch
  rw [e1, e2, List.append_assoc] at c
  have c2 := (ch_split.mp c).2
  have hy' : y ∈ adj x := c2.1
  have wy : Wk adj (m - 1 - j) y f := by
    have w := ch_wk (r := v.drop (j + 2)) (a := y) (b := f) c2.2
    have : (v.drop (j + 2)).length + 1 = m - 1 - j := by rw [List.length_drop]; omega
    rwa [this] at w
  obtain ⟨r, rfl⟩ := h.hd
  have wf : Wk adj (j + 1) f y := by
    cases j with
    | zero =>
      have ex : x = f := by simpa using hx.symm
      rw [ex] at hy'
      exact ⟨y, hy', rfl⟩
    | succ j =>
      have c3 := c
      rw [List.take_succ_cons] at c3
      have e3 : (f :: r.take j) ++ (x :: (y :: (f :: r).drop (j + 1 + 2)) ++ [f]) = (f :: (r.take j ++ [x])) ++ y :: ((f :: r).drop (j + 1 + 2) ++ [f]) := by simp
      rw [e3] at c3
      have c4 := (ch_split.mp c3).1
      have w := ch_wk (r := r.take j ++ [x]) (a := f) (b := y) c4
      have : (r.take j ++ [x]).length + 1 = j + 1 + 1 := by
        rw [List.length_append, List.length_take]
        simp at jl
        simp
        omega
      rwa [this] at w
  refine ⟨hy', by omega, wy, fun i i1 im wi => ?_⟩
  have w2 := wf.app wi
  exact d.min (j + 1 + i) (by omega) (by omega) w2
/-- the ring as the law finds it, so far -/
structure Grd (adj : Int → List Int) (f : Int) (m j : Nat) (u : List Int) : Prop where
  hd : ∃ r, u = f :: r
  len : u.length = j + 1
  ch : Ch adj u
  dst : j = 0 ∨ Dst adj f (lastF f u) (m - j)
  le : ∀ v, Ring adj f v → v.length = m → lexLe u (v.take (j + 1))
theorem Grd.start {f : Int} {m : Nat} : Grd adj f m 0 [f] where
  hd := ⟨[], rfl⟩
  len := rfl
  ch := trivial
  dst := .inl rfl
  le := fun v h _ => by
    obtain ⟨r, rfl⟩ := h.hd
    exact .inl (by simp)
theorem Grd.dst' {f : Int} {m j : Nat} {u : List Int} (d : Dst adj f f m) (h : Grd adj f m j u) : Dst adj f (lastF f u) (m - j) := by
  rcases h.dst with e | e
  · subst e
    obtain ⟨r, e⟩ := h.hd
    have l := h.len
    rw [e] at l
    have : r = [] := List.eq_nil_of_length_eq_zero (by simpa using l)
    rw [e, this]
    exact d
  · exact e
theorem Grd.ex {f : Int} {m j : Nat} {u : List Int} (d : Dst adj f f m) (h : Grd adj f m j u) (hj : j + 1 < m) : ∃ c ∈ adj (lastF f u), Dst adj f c (m - 1 - j) := by
  have e := h.dst' d
  rw [show m - j = (m - 1 - j) + 1 by omega] at e
  exact ((Dst.succ (by omega)).mp e).2
theorem Grd.next {f : Int} {m j : Nat} {u : List Int} (d : Dst adj f f m) (h : Grd adj f m j u) (hj : j + 1 < m) {c : Int} (hc : c ∈ adj (lastF f u)) (hd : Dst adj f c (m - 1 - j)) (hm : ∀ x ∈ adj (lastF f u), Dst adj f x (m - 1 - j) → c ≤ x) :
    Grd adj f m (j + 1) (u ++ [c]) := by
  obtain ⟨r, er⟩ := h.hd
  obtain ⟨t, et⟩ := lastF_split (f := f) (w := u) (by rw [er]; simp)
  refine ⟨⟨r ++ [c], by rw [er]; rfl⟩, by simp [h.len], ?_, .inr (by rw [lastF_app, show m - (j + 1) = m - 1 - j by omega]; exact hd), fun v hv lv => ?_⟩
  · have ch := h.ch
    rw [et] at ch ⊢
    rw [List.append_assoc]
    exact ch_split.mpr ⟨ch, ⟨by simpa [lastF_app] using hc, trivial⟩⟩
  · have jl : j + 1 < v.length := by omega
    have e1 : v.take (j + 1 + 1) = v.take (j + 1) ++ [v[j + 1]] := by rw [List.take_succ_eq_append_getElem jl]
    rw [e1]
    rcases h.le v hv lv with e | lt
    · have hx : v[j]? = some (lastF f u) := by
        have e2 : u[j]? = v[j]? := by rw [e, List.getElem?_take]; simp
        rw [← e2, et, lastF_app]
        have : t.length = j := by
          have l := h.len
          rw [et] at l
          simpa using l
        rw [← this]
        simp
      obtain ⟨h1, h2⟩ := hv.at d lv hx (List.getElem?_eq_getElem jl)
      have h3 := hm _ h1 h2
      rw [← e]
      rcases Int.lt_or_eq_of_le h3 with z | z
      · exact .inr (lexLt.tail (.inl z))
      · rw [← z]
        exact .inl rfl
    · exact .inr lt.app
theorem Grd.ring {f : Int} {m : Nat} {u : List Int} (d : Dst adj f f m) (h : Grd adj f m (m - 1) u) : Ring adj f u ∧ u.length = m ∧ ∀ v, Ring adj f v → v.length = m → lexLe u v := by
  have mp := d.pos
  obtain ⟨r, er⟩ := h.hd
  obtain ⟨t, et⟩ := lastF_split (f := f) (w := u) (by rw [er]; simp)
  have e := h.dst' d
  rw [show m - (m - 1) = 1 by omega] at e
  have hf := Dst.one.mp e
  refine ⟨⟨⟨r, er⟩, ?_⟩, by rw [h.len]; omega, fun v hv lv => ?_⟩
  · have ch := h.ch
    rw [et] at ch
    rw [et, List.append_assoc]
    exact ch_split.mpr ⟨ch, ⟨hf, trivial⟩⟩
  · have := h.le v hv lv
    rwa [show m - 1 + 1 = m by omega, ← lv, List.take_length] at this
/-- what the law finds from the first i lines on -/
def LawR (adj : Int → List Int) (n i : Nat) : Option (List Int) → Prop
  | none => ∀ g m, 0 ≤ g → g < (i : Int) → m ≤ n → ¬ Dst adj g g m
  | some R => ∃ f m, 0 ≤ f ∧ f < (i : Int) ∧ m ≤ n ∧ Dst adj f f m ∧ Ring adj f R ∧ R.length = m ∧ (∀ v, Ring adj f v → v.length = m → lexLe R v) ∧
    (∀ g m', 0 ≤ g → g < (i : Int) → m' ≤ n → Dst adj g g m' → m ≤ m') ∧ ∀ g m', 0 ≤ g → g < f → m' ≤ n → Dst adj g g m' → m < m'
theorem LawR.eq (h : Adj adj n) {o : Option (List Int)} (r : LawR adj n n o) : o.getD [] = roN adj n n := by
  rcases ro_told h with ⟨e, no⟩ | ⟨l, f, t⟩
  · rw [e]
    cases o with
    | none => rfl
    | some R =>
      obtain ⟨f, m, _, _, _, _, rg, _⟩ := r
      exact absurd rg (no _ _)
  · have rr := ring_range h t.ring
    have dt : Dst adj f f (roN adj n n).length := by
      obtain ⟨m', l', d'⟩ := Dst.of_wk (m := (roN adj n n).length) (by
        obtain ⟨q, e⟩ := t.ring.hd
        rw [e]
        simp) t.ring.wk
      obtain ⟨w, rw', lw⟩ := d'.ring
      have := t.short _ _ rw'
      have e : m' = (roN adj n n).length := by omega
      rw [← e]
      exact d'
    cases o with
    | none => exact absurd dt (r f _ rr.1 rr.2 l)
    | some R =>
      obtain ⟨f', m, f0, fn, mn, d', rg, lR, le, s, fs⟩ := r
      have h1 := s f _ rr.1 rr.2 l dt
      have h2 := t.short _ _ rg
      have em : m = (roN adj n n).length := by omega
      have ef : f' = f := by
        rcases Int.lt_trichotomy f' f with z | z | z
        · have := t.first _ _ z rg
          omega
        · exact z
        · have := fs f _ rr.1 z l dt
          omega
      subst ef
      exact (le _ t.ring em.symm).antisymm (t.least _ rg (by omega))
end
end Fl

-- after: wn.tpl
namespace Fl
open PySem PySem.Spec PyProof.Rows L2 RZ
def isRow (d : PyData) : Bool := match d with
  | .tuple [a, b, c] => isNumber a && isNumber b && isWhole c 0 100
  | _ => false
/-- what stands first in a row, as a number -/
def rowAt (d : PyData) : Int := match d with
  | .tuple (.int i :: _) => i
  | _ => 0
def rising : List PyData → Bool
  | a :: b :: r => decide (rowAt a < rowAt b) && rising (b :: r)
  | _ => true
def isTable (d : PyData) : Bool := match d with
  | .tuple ds => decide (1 ≤ ds.length) && decide (ds.length ≤ 20) && ds.all isRow && rising ds
  | _ => false
theorem isRow_ex {d : PyData} (h : isRow d = true) : ∃ i j k, d = .tuple [.int i, .int j, .int k] := by
  unfold isRow at h
  split at h
  · rename_i a b c
    simp only [Bool.and_eq_true] at h
    obtain ⟨⟨h1, h2⟩, h3⟩ := h
    cases a <;> simp [isNumber, isWhole] at h1
    cases b <;> simp [isNumber, isWhole] at h2
    cases c <;> simp [isWhole] at h3
    exact ⟨_, _, _, rfl⟩
  · cases h
theorem At.row {H : Hp} {i j k : Int} {v : V} (h : At H (.tuple [.int i, .int j, .int k]) v) : ∃ a, v = .ref a ∧ H a = some (.tup [.int i, .int j, .int k]) := by
  obtain ⟨a, vs, rfl, ha, v0, r0, rfl, h0, v1, r1, rfl, h1, v2, r2, rfl, h2, h3⟩ := h
  cases (show _ = _ from h0)
  cases (show _ = _ from h1)
  cases (show _ = _ from h2)
  cases (show _ = _ from h3)
  exact ⟨a, rfl, ha⟩
/-- neighbours rise -/
def ups (ds : List PyData) : List Bool := List.zipWith (fun a b => decide (rowAt a < rowAt b)) (ds.take (ds.length - 1)) (ds.drop 1)
theorem ups_len (ds : List PyData) : (ups ds).length = ds.length - 1 := by simp [ups]
theorem ups_all : ∀ ds : List PyData, (ups ds).all id = rising ds
  | [] => rfl
  | [_] => rfl
  | a :: b :: r => by
    have ih := ups_all (b :: r)
    have e : ups (a :: b :: r) = decide (rowAt a < rowAt b) :: ups (b :: r) := by simp [ups]
    rw [e, List.all_cons, ih]
    rfl
theorem ups_get {ds : List PyData} {i : Nat} {a b : PyData} (h1 : ds[i]? = some a) (h2 : ds[i + 1]? = some b) : (ups ds)[i]? = some (decide (rowAt a < rowAt b)) := by
  have l := (List.getElem?_eq_some_iff.mp h2).1
  unfold ups
  rw [List.getElem?_zipWith, List.getElem?_take, if_pos (by omega), List.getElem?_drop, Nat.add_comm 1 i, h1, h2]
section
variable {P : Program} {w : World} {K : PySem.W.Frag} {mg : Str → Option Value} {base : Heap}
abbrev s_is_row : Stmt := topS 16
theorem sc_is_row : FnScope ["thing"] ["thing"] (defScope s_is_row) := ⟨rfl, rfl, rfl, by decide +kernel, rfl, by decide +kernel, by decide +kernel⟩
def sp_is_row : Sp1 := fun a H Q _ => ∃ d, At H d a ∧ Q (.bl (isRow d)) H
theorem ok_is_row (M : Mg mg) (G_is_whole : Has P w K mg base "is_whole" ["thing", "least", "most"] 1 (sp3 sp_is_whole)) (G_is_number : Has P w K mg base "is_number" ["thing"] 2 (sp1 sp_is_number)) (D : DefAt K mg "is_row" s_is_row ["thing"]) :
    Has P w K mg base "is_row" ["thing"] 3 (sp1 sp_is_row) := by
  refine .mk1 D sc_is_row fun f cdv A outer s H a Q E hr h => ⟨_, (pss_cons (ps_if (PW.pt (pw_or (pt_not (pt_val (pe_callB (k_isi K rfl) (by rfl) M.isinstance (by decide +kernel) (pa_cons (pv 0) (pa_cons (pe_bltn (v := .ty "tuple") (by rfl) M.tuple (by decide +kernel) rfl) pa_nil))))) (pw_or1 (pt_cmpR (k_ne K rfl hr) (pe_callB (k_len K rfl) (by rfl) M.len (by decide +kernel) (pa_cons (pv 0) pa_nil)) pe_int (nomark _))))) (pss_one (ps_ret pe_bl)) pss_nil)
    (pss_one (ps_ret (pe_and (pe_own G_is_number (hr.mono (by first | decide | omega)) (by rfl) p_body (pa_cons (pe_ix (k_ix K rfl) (pv 0) pe_int (fun _ _ => rfl)) pa_nil)) (pe_and (pe_own G_is_number (hr.mono (by first | decide | omega)) (by rfl) p_body (pa_cons (pe_ix (k_ix K rfl) (pv 0) pe_int (fun _ _ => rfl)) pa_nil)) (pe_one (pe_own G_is_whole (hr.mono (by first | decide | omega)) (by rfl) p_body (pa_cons (pe_ix (k_ix K rfl) (pv 0) pe_int (fun _ _ => rfl)) (pa_cons pe_int (pa_cons pe_int pa_nil)))))))))), ?_⟩
  obtain ⟨d, hd, q⟩ := h
  refine Fl.go_start (σ0 := [some _]) rfl ?_
  cases d <;> first | exact hd.elim | skip
  case tuple =>
    rename_i ds
    obtain ⟨t, vs, rfl, ht, hvs⟩ := hd
    walk_at "s"
    refine if_n (fun c => ?_) (fun c => ?_)
    · walk_at "s"
      have e : isRow (.tuple ds) = false := by
        have l := hvs.length
        unfold isRow
        split
        · rename_i he
          injection he with he
          subst he
          exact absurd (by rw [l]; rfl) c
        · rfl
      rw [e] at q
      exact q
    · obtain ⟨d0, d1, d2, v0, v1, v2, rfl, rfl, h0, h1, h2⟩ := hvs.ex3 (by omega)
      walk_at "s"
      have e : isRow (.tuple [d0, d1, d2]) = (isNumber d0 && isNumber d1 && isWhole d2 0 100) := rfl
      rw [e] at q
      refine if_b (fun c1 => ?_) (fun c1 => ?_)
      · walk_at "s"
        refine if_b (fun c2 => ?_) (fun c2 => ?_)
        · walk_at "s"
          rw [c1, c2] at q
          exact q
        · rw [c1, c2] at q
          exact q
      · rw [c1] at q
        exact q
  all_goals (walk_at "s"; exact q)
instance {H : Hp} {Q : VK} {E : XK} {v : V} : Step (sp_is_row v H Q E) (∃ d, At H d v ∧ Q (.bl (isRow d)) H) := ⟨fun h => h⟩
abbrev s_is_table : Stmt := topS 17
theorem sc_is_table : FnScope ["thing", "one", "other", "row"] ["thing"] (defScope s_is_table) := ⟨rfl, rfl, rfl, by decide +kernel, rfl, by decide +kernel, by decide +kernel⟩
def sp_is_table : Sp1 := fun a H Q _ => ∃ d, At H d a ∧ ∀ H', Same H H' → Q (.bl (isTable d)) H'
instance {H : Hp} {Q : VK} {E : XK} {v : V} : Step (sp_is_table v H Q E) (∃ d, At H d v ∧ SmQ H fun H' => Q (.bl (isTable d)) H') := ⟨fun h => h⟩
theorem ok_is_table (M : Mg mg) (c_MOST_ROWS : ∃ t, mg "MOST_ROWS" = some (.int 20 t)) (G_is_row : Has P w K mg base "is_row" ["thing"] 3 (sp1 sp_is_row)) (D : DefAt K mg "is_table" s_is_table ["thing"]) :
    Has P w K mg base "is_table" ["thing"] 4 (sp1 sp_is_table) := by
  refine .mk1 D sc_is_table fun f cdv A outer s H a Q E hr h => ⟨_, (pss_cons (ps_if (PW.pt (pw_or (pt_not (pt_val (pe_callB (k_isi K rfl) (by rfl) M.isinstance (by decide +kernel) (pa_cons (pv 0) (pa_cons (pe_bltn (v := .ty "tuple") (by rfl) M.tuple (by decide +kernel) rfl) pa_nil))))) (pw_or (pt_cmpR o_lt (pe_callB (k_len K rfl) (by rfl) M.len (by decide +kernel) (pa_cons (pv 0) pa_nil)) pe_int (nomark _)) (pw_or1 (pt_cmpR o_gt (pe_callB (k_len K rfl) (by rfl) M.len (by decide +kernel) (pa_cons (pv 0) pa_nil)) (pe_gi (by rfl) c_MOST_ROWS) (nomark _)))))) (pss_one (ps_ret pe_bl)) pss_nil)
    (pss_cons (ps_if (pt_not (pt_val (pe_callB (k_all K rfl rfl) (by rfl) M.all (by decide +kernel) (pa_cons (pe_lc (own := [("row", 3)]) (g := gName 3) (by rfl) sc_is_table.nd (k_pi K rfl (pv 0)) (blkOk_by (N := ["thing", "one", "other", "row"]) (sc := (defScope s_is_table)) (own := [("row", 3)]) (by decide +kernel)) (fun _ _ _ _ _ => (pg_name (i := 3) sc_is_table.nd rfl (by first | exact Or.inl rfl | exact Or.inr rfl))) (fun _ _ _ _ _ => pts_nil) (fun _ _ _ _ _ => (pe_own G_is_row (hr.mono (by first | decide | omega)) (by rfl) passL (pa_cons (pv 3) pa_nil)))) pa_nil)))) (pss_one (ps_ret pe_bl)) pss_nil)
    (pss_one (ps_ret (pe_callB (k_all K rfl rfl) (by rfl) M.all (by decide +kernel) (pa_cons (pe_lc (own := [("one", 1), ("other", 2)]) (g := gTup K 2 (gCons (gName 1) (gCons (gName 2) gNil))) (by rfl) sc_is_table.nd (k_zip K rfl (by rfl) M.zip (pa_cons (pe_slice (k_sl K rfl) (pv 0) po_none (po_some (pe_un o_neg pe_int))) (pa_cons (pe_slice (k_sl K rfl) (pv 0) (po_some pe_int) po_none) pa_nil))) (blkOk_by (N := ["thing", "one", "other", "row"]) (sc := (defScope s_is_table)) (own := [("one", 1), ("other", 2)]) (by decide +kernel)) (fun _ _ _ _ _ => (pg_tup (by rfl) (pgs_cons (pg_name (i := 1) sc_is_table.nd rfl (by first | exact Or.inl rfl | exact Or.inr rfl)) (pgs_cons (pg_name (i := 2) sc_is_table.nd rfl (by first | exact Or.inl rfl | exact Or.inr rfl)) pgs_nil)))) (fun _ _ _ _ _ => pts_nil) (fun _ _ _ _ _ => (pe_cmpR o_lt (pe_ix (k_ix K rfl) (pv 1) pe_int (fun _ _ => rfl)) (pe_ix (k_ix K rfl) (pv 2) pe_int (fun _ _ => rfl)) (nomark _)))) pa_nil)))))), ?_⟩
  obtain ⟨d, hd, q⟩ := h
  refine Fl.go_start (σ0 := [some _, none, none, none]) rfl ?_
  cases d <;> first | exact hd.elim | skip
  case tuple =>
    rename_i ds
    obtain ⟨t, vs, rfl, ht, hvs⟩ := hd
    have l := hvs.length
    walk_at "s"
    refine if_d (fun c => ?_) (fun c => ?_)
    · walk_at "s"
      have e : isTable (.tuple ds) = false := by simp [isTable, show ¬ 1 ≤ ds.length by omega]
      rw [e] at q
      exact q _ (.refl _)
    walk_at "s"
    refine if_d (fun c => ?_) (fun c => ?_)
    · walk_at "s"
      have e : isTable (.tuple ds) = false := by simp [isTable, show ¬ ds.length ≤ 20 by omega]
      rw [e] at q
      exact q _ (.refl _)
    walk_at "s"
    refine lc_seqT ((ds.map isRow).map V.bl) ht (by simp [l]) (by simp; omega) (fun _ => rfl) (fun i x y H' ex ey sm R hR => ?_) (fun D1 H1 hD1 sm1 eD1 => ?_)
    · obtain ⟨d, ed, hd⟩ := hvs.ix ex
      have e : y = .bl (isRow d) := by
        rw [List.getElem?_map, List.getElem?_map, ed] at ey
        exact (Option.some.inj ey).symm
      subst e
      walk_at "s"
      exact hR _ (.refl _)
    walk_at "s"
    have eA : (ds.map isRow).all id = ds.all isRow := by rw [List.all_map]; rfl
    rw [eA]
    refine if_b (fun c => ?_) (fun c => ?_)
    · walk_at "s"
      have e : isTable (.tuple ds) = false := by
        have c' : ds.all isRow = false := by simpa using c
        simp only [isTable, c', Bool.and_false, Bool.false_and]
      rw [e] at q
      exact q _ (by walk_at "sm")
    have c' : ds.all isRow = true := by simpa using c
    walk_at "s"
    rename_i p1 K1 sm2 e1 p2 K2 sm3 e2
    rw [cut_init] at e1
    rw [cut_tail] at e2
    refine lc_zipT ((ups ds).map V.bl) (by walk_at "hp") e2 (by simp) (by simp [ups_len, l]) (by simp [ups_len]; omega) (fun _ _ => rfl) (fun i x z y H' ex ez ey sm R hR => ?_) (fun D2 H2 hD2 sm4 eD2 => ?_)
    · have hi : i < vs.length - 1 := by
        have := (List.getElem?_eq_some_iff.mp ex).1
        rw [List.length_take] at this
        omega
      rw [List.getElem?_take, if_pos hi] at ex
      rw [List.getElem?_drop, Nat.add_comm] at ez
      obtain ⟨d, ed, hd⟩ := hvs.ix ex
      obtain ⟨d', ed', hd'⟩ := hvs.ix ez
      have ra := List.all_eq_true.mp c'
      obtain ⟨i1, i2, i3, rfl⟩ := isRow_ex (ra d (List.mem_of_getElem? ed))
      obtain ⟨j1, j2, j3, rfl⟩ := isRow_ex (ra d' (List.mem_of_getElem? ed'))
      obtain ⟨b1, rfl, hb1⟩ := hd.row
      obtain ⟨b2, rfl, hb2⟩ := hd'.row
      have ey' : y = .bl (decide (i1 < j1)) := by
        rw [List.getElem?_map, ups_get ed ed'] at ey
        exact (Option.some.inj ey).symm
      subst ey'
      walk_at "s"
      exact hR _ (.refl _)
    walk_at "s"
    have e : isTable (.tuple ds) = (ups ds).all id := by
      rw [ups_all]
      simp only [isTable, c', Bool.and_true]
      rw [decide_eq_true (by omega : 1 ≤ ds.length), decide_eq_true (by omega : ds.length ≤ 20)]
      simp
    rw [e] at q
    exact q _ (by walk_at "sm")
  all_goals (walk_at "s"; exact q _ (.refl _))
/-! ### what a table tells -/
def isRowT (r : Int × Int × Int) : PyData := .tuple [.int r.1, .int r.2.1, .int r.2.2]
def atTab (rows : List (Int × Int × Int)) (n : Int) : Int := rows.foldl (fun f r => if r.1 ≤ n then r.2.1 + (n - r.1) * r.2.2 / 100 else f) 0
theorem atTab_snoc (rows : List (Int × Int × Int)) (r : Int × Int × Int) (n : Int) : atTab (rows ++ [r]) n = if r.1 ≤ n then r.2.1 + (n - r.1) * r.2.2 / 100 else atTab rows n := by
  unfold atTab
  rw [List.foldl_append]
  rfl
/-- rows whose percents are small -/
def SmallP (rows : List (Int × Int × Int)) : Prop := ∀ r ∈ rows, 0 ≤ r.2.2 ∧ r.2.2 ≤ 100
abbrev s_at_number : Stmt := topS 18
theorem sc_at_number : FnScope ["table", "number", "found", "row"] ["table", "number"] (defScope s_at_number) := ⟨rfl, rfl, rfl, by decide +kernel, rfl, by decide +kernel, by decide +kernel⟩
def sp_at_number : Sp2 := fun a b H Q _ => ∃ (rows : List (Int × Int × Int)) (n : Int), At H (.tuple (rows.map isRowT)) a ∧ b = .int n ∧ SmallP rows ∧ Q (.int (atTab rows n)) H
theorem ok_at_number (M : Mg mg) (D : DefAt K mg "at_number" s_at_number ["table", "number"]) : Has P w K mg base "at_number" ["table", "number"] 1 (sp2 sp_at_number) := by
  refine .mk2 D sc_at_number fun f cdv A outer s H a b Q E hr h => ⟨_, (pss_cons (ps_set (i := 2) sc_at_number.nd rfl (by first | exact Or.inl rfl | exact Or.inr rfl) pe_int)
    (pss_cons (ps_for own_p (by rfl) (k_pi K rfl (pv 0)) (pg_name (i := 3) sc_at_number.nd rfl (by first | exact Or.inl rfl | exact Or.inr rfl)) (pss_one (ps_if (pt_cmpR o_le (pe_ix (k_ix K rfl) (pv 3) pe_int (fun _ _ => rfl)) (pv 1) (nomark _)) (pss_one (ps_set (i := 2) sc_at_number.nd rfl (by first | exact Or.inl rfl | exact Or.inr rfl) (pe_op (k_add K rfl) (pe_ix (k_ix K rfl) (pv 3) pe_int (fun _ _ => rfl)) (pe_op o_div (pe_op o_mul (pe_op o_sub (pv 1) (pe_ix (k_ix K rfl) (pv 3) pe_int (fun _ _ => rfl))) (pe_ix (k_ix K rfl) (pv 3) pe_int (fun _ _ => rfl))) pe_int)))) pss_nil)))
    (pss_one (ps_ret (pv 2))))), ?_⟩
  obtain ⟨rows, n, hd, rfl, hp, q⟩ := h
  refine Fl.go_start (σ0 := [some _, some _, none, none]) rfl ?_
  obtain ⟨t, vs, rfl, ht, hvs⟩ := hd
  walk_at "s"
  refine for_tpl (fun i σ H' => H' = H ∧ ∃ x, σ = [some (.ref t), some (.int n), some (.int (atTab (rows.take i) n)), x]) ht ⟨rfl, none, rfl⟩ (fun i σ H' _ h => by rw [h.1]; exact ht) (fun i x σ H' ex h => ?_) (fun σ H' h => ?_)
  · obtain ⟨rfl, y, rfl⟩ := h
    obtain ⟨d, ed, hd⟩ := hvs.ix ex
    rw [List.getElem?_map] at ed
    cases er : rows[i]? with
    | none => rw [er] at ed; cases ed
    | some r =>
      rw [er] at ed
      have ed := Option.some.inj ed
      subst ed
      obtain ⟨b, rfl, hb⟩ := hd.row
      have hs := hp r (List.mem_of_getElem? er)
      have et := atTab_snoc (rows.take i) r n
      rw [take_snoc er] at et
      walk_at "s"
      refine if_d (fun c => ?_) (fun c => ?_)
      · walk_at "s"
        exact ⟨rfl, _, by rw [et, if_pos c]; rfl⟩
      · walk_at "s"
        exact ⟨rfl, _, by rw [et, if_neg c]; rfl⟩
  · obtain ⟨rfl, y, rfl⟩ := h
    have l := hvs.length
    rw [List.length_map] at l
    rw [l, List.take_length]
    walk_at "s"
    exact q
end
end Fl

-- after: gen0.tpl tabs.tpl
namespace Fl
open PySem PySem.Spec PyProof.Rows L2 RZ
/-- rows as the law draws them: so many, rising, small -/
structure Drawn (rows : List (Int × Int × Int)) : Prop where
  pos : 1 ≤ rows.length
  few : rows.length ≤ 20
  ok : ∀ r ∈ rows, (-1000000000 ≤ r.1 ∧ r.1 ≤ 1000000000) ∧ (-1000000000 ≤ r.2.1 ∧ r.2.1 ≤ 1000000000) ∧ 0 ≤ r.2.2 ∧ r.2.2 ≤ 100
  up : rows.Pairwise fun a b => a.1 < b.1
theorem isWhole_in {i lo hi : Int} (h1 : lo ≤ i) (h2 : i ≤ hi) : isWhole (.int i) lo hi = true := by simp [isWhole, h1, h2]
theorem rising_of : ∀ {rows : List (Int × Int × Int)}, rows.Pairwise (fun a b => a.1 < b.1) → rising (rows.map isRowT) = true
  | [], _ => rfl
  | [_], _ => rfl
  | a :: b :: r, h => by
    rw [List.pairwise_cons] at h
    have h1 := h.1 b (by simp)
    have ih := rising_of h.2
    show (decide (a.1 < b.1) && rising ((b :: r).map isRowT)) = true
    rw [ih, decide_eq_true h1]
    rfl
theorem Drawn.table {rows : List (Int × Int × Int)} (h : Drawn rows) : isTable (.tuple (rows.map isRowT)) = true := by
  have e : (rows.map isRowT).all isRow = true := by
    rw [List.all_map, List.all_eq_true]
    intro r hr
    obtain ⟨h1, h2, h3⟩ := h.ok r hr
    show (isNumber (.int r.1) && isNumber (.int r.2.1) && isWhole (.int r.2.2) 0 100) = true
    unfold isNumber
    rw [isWhole_in h1.1 h1.2, isWhole_in h2.1 h2.2, isWhole_in h3.1 h3.2]
    rfl
  simp only [isTable, List.length_map]
  rw [e, rising_of h.up, decide_eq_true h.pos, decide_eq_true h.few]
  rfl
theorem Drawn.small {rows : List (Int × Int × Int)} (h : Drawn rows) : SmallP rows := fun r hr => (h.ok r hr).2.2
theorem isRowT_at {H : Hp} {r : Int × Int × Int} {a : Addr} (h : H a = some (.tup [.int r.1, .int r.2.1, .int r.2.2])) : At H (isRowT r) (.ref a) := ⟨a, _, rfl, h, _, _, rfl, rfl, _, _, rfl, rfl, _, _, rfl, rfl, rfl⟩
theorem isRowT_tup (rows : List (Int × Int × Int)) : tupsOnly (rows.map isRowT) = true := tupsOnly_all fun d hd => by
  obtain ⟨r, _, rfl⟩ := List.mem_map.mp hd
  rfl
theorem rows_le {H H' : Hp} {rows : List (Int × Int × Int)} {vs : List V} (h : AtAll H (rows.map isRowT) vs) (e : LeT H H') : AtAll H' (rows.map isRowT) vs := h.leT e (isRowT_tup rows)
section
variable {P : Program} {w : World} {K : PySem.W.Frag} {mg : Str → Option Value} {base : Heap}
abbrev s__law_table : Stmt := topS 57
theorem sc__law_table : FnScope ["_law_state", "_law_many", "_law_start", "_law_rows", "_law_k", "_law_percent"] ["_law_state"] (defScope s__law_table) := ⟨rfl, rfl, rfl, by decide +kernel, rfl, by decide +kernel, by decide +kernel⟩
def sp_law_table : Sp1 := fun a H Q _ => ∃ s x, a = .ref s ∧ H s = some (.lst [.int x]) ∧ ∀ (rows : List (Int × Int × Int)) v H', Drawn rows → Gs s H H' → At H' (.tuple (rows.map isRowT)) v → Q v H'
theorem ok_law_table (M : Mg mg) (G__law_next : Has P w K mg base "_law_next" ["_law_state", "_law_size"] 1 (sp2 sp_next)) (G__law_number : Has P w K mg base "_law_number" ["_law_state"] 2 (sp1 sp_number)) (D : DefAt K mg "_law_table" s__law_table ["_law_state"]) :
    Has P w K mg base "_law_table" ["_law_state"] 3 (sp1 sp_law_table) := by
  refine .mk1 D sc__law_table fun f cdv A outer s0 H a Q E hr h => ⟨_, (pss_cons (ps_set (i := 1) sc__law_table.nd rfl (by first | exact Or.inl rfl | exact Or.inr rfl) (pe_op (k_add K rfl) pe_int (pe_own G__law_next (hr.mono (by first | decide | omega)) (by rfl) p_body (pa_cons (pv 0) (pa_cons pe_int pa_nil)))))
    (pss_meet (ps_if (pt_cmpR (k_eq K rfl hr) (pe_own G__law_next (hr.mono (by first | decide | omega)) (by rfl) p_body (pa_cons (pv 0) (pa_cons pe_int pa_nil))) pe_int (nomark _)) (pss_one (ps_set (i := 1) sc__law_table.nd rfl (by first | exact Or.inl rfl | exact Or.inr rfl) (pe_op (k_add K rfl) pe_int (pe_own G__law_next (hr.mono (by first | decide | omega)) (by rfl) p_body (pa_cons (pv 0) (pa_cons pe_int pa_nil)))))) pss_nil)
    (pss_cons (ps_set (i := 2) sc__law_table.nd rfl (by first | exact Or.inl rfl | exact Or.inr rfl) (pe_ix (k_ix K rfl) (pe_lst (pa_cons (pe_un o_neg (pe_op o_pow pe_int pe_int)) (pa_cons (pe_op o_sub (pe_own G__law_next (hr.mono (by first | decide | omega)) (by rfl) p_body (pa_cons (pv 0) (pa_cons pe_int pa_nil))) pe_int) (pa_cons (pe_op o_sub (pe_op o_pow pe_int pe_int) (pe_op o_mul pe_int (pv 1))) pa_nil)))) (pe_op o_div (pe_own G__law_next (hr.mono (by first | decide | omega)) (by rfl) p_body (pa_cons (pv 0) (pa_cons pe_int pa_nil))) pe_int) (fun _ _ => rfl)))
    (pss_cons (ps_set (i := 3) sc__law_table.nd rfl (by first | exact Or.inl rfl | exact Or.inr rfl) (pe_lst pa_nil))
    (pss_cons (ps_for own_p (by rfl) (pi_range1 (by rfl) M.range (pa_cons (pv 1) pa_nil)) (pg_name (i := 4) sc__law_table.nd rfl (by first | exact Or.inl rfl | exact Or.inr rfl)) (pss_cons (ps_set (i := 5) sc__law_table.nd rfl (by first | exact Or.inl rfl | exact Or.inr rfl) (pe_ix (k_ix K rfl) (pe_lst (pa_cons pe_int (pa_cons pe_int (pa_cons (pe_own G__law_next (hr.mono (by first | decide | omega)) (by rfl) p_body (pa_cons (pv 0) (pa_cons pe_int pa_nil))) pa_nil)))) (pe_own G__law_next (hr.mono (by first | decide | omega)) (by rfl) p_body (pa_cons (pv 0) (pa_cons pe_int pa_nil))) (fun _ _ => rfl)))
    (pss_cons (ps_expr (k_bm K rfl PySem.F.plainAttrs_list PySem.F.slot_list_append PySem.F.type_list_append mt_append (pv 3) (pa_cons (pe_tup (pa_cons (pv 2) (pa_cons (pe_own G__law_number (hr.mono (by first | decide | omega)) (by rfl) p_body (pa_cons (pv 0) pa_nil)) (pa_cons (pv 5) pa_nil)))) pa_nil)))
    (pss_one (ps_set (i := 2) sc__law_table.nd rfl (by first | exact Or.inl rfl | exact Or.inr rfl) (pe_op (k_add K rfl) (pe_op (k_add K rfl) (pv 2) pe_int) (pe_ix (k_ix K rfl) (pe_lst (pa_cons (pe_own G__law_next (hr.mono (by first | decide | omega)) (by rfl) p_body (pa_cons (pv 0) (pa_cons pe_int pa_nil))) (pa_cons (pe_own G__law_next (hr.mono (by first | decide | omega)) (by rfl) p_body (pa_cons (pv 0) (pa_cons pe_int pa_nil))) pa_nil))) (pe_own G__law_next (hr.mono (by first | decide | omega)) (by rfl) p_body (pa_cons (pv 0) (pa_cons pe_int pa_nil))) (fun _ _ => rfl))))))))
    (pss_one (ps_ret (pe_callTy (k_tuple K rfl) (by rfl) M.tuple (by decide +kernel) (pa_cons (pv 3) pa_nil))))))))), ?_⟩
  obtain ⟨s, x, rfl, hs, q⟩ := h
  refine Fl.go_start (σ0 := [some _, none, none, none, none, none]) rfl ?_
  walk_at "s"
  refine meet (fun σ' H' => ∃ m : Int, σ' = [some (.ref s), some (.int m), none, none, none, none] ∧ 1 ≤ m ∧ m ≤ 20 ∧ Gs s H H') ?_ ?_
  · walk_at "s"
    refine if_d (fun c => ?_) (fun c => ?_)
    · walk_at "s"
      exact ⟨_, rfl, by omega, by omega, by walk_at "gs"⟩
    · walk_at "s"
      exact ⟨_, rfl, by omega, by omega, by walk_at "gs"⟩
  rintro σ1 H1 ⟨m, rfl, m1, m2, gs⟩
  obtain ⟨x1, hx1⟩ := gs.st
  walk_at "s"
  refine ex_pick (fun v => ∃ S : Int, v = .int S ∧ -1000000000 ≤ S ∧ S + 20000 * m ≤ 1000000000) (by omega) (by simp; omega) (fun v hv => ?_) (fun v hv => ?_)
  · simp only [List.mem_cons, List.not_mem_nil, or_false] at hv
    rcases hv with rfl | rfl | rfl
    · exact ⟨_, rfl, by decide, by show (-10 ^ 9 : Int) + _ ≤ _; omega⟩
    · exact ⟨_, rfl, by omega, by omega⟩
    · exact ⟨_, rfl, by show _ ≤ (10 ^ 9 : Int) - _; omega, by show (10 ^ 9 : Int) - _ + _ ≤ _; omega⟩
  obtain ⟨S, rfl, S1, S2⟩ := hv
  walk_at "s"
  rename_i p hp
  have hps : p ≠ s := by walk_at "ne"
  refine for_rng (fun i σ' H' => ∃ (S : Int) (rows : List (Int × Int × Int)) (vs : List V) (xk xp : Option V), σ' = [some (.ref s), some (.int m), some (.int S), some (.ref p), xk, xp] ∧ H' p = some (.lst vs) ∧ AtAll H' (rows.map isRowT) vs ∧ rows.length = i ∧ Gs s H H' ∧
      -1000000000 ≤ S ∧ S + 20000 * (m - i) ≤ 1000000000 ∧ (∀ r ∈ rows, ((-1000000000 ≤ r.1 ∧ r.1 ≤ 1000000000) ∧ (-1000000000 ≤ r.2.1 ∧ r.2.1 ≤ 1000000000) ∧ 0 ≤ r.2.2 ∧ r.2.2 ≤ 100) ∧ r.1 < S) ∧ rows.Pairwise fun a b => a.1 < b.1)
    ⟨S, [], [], none, none, rfl, upd_same, rfl, rfl, by walk_at "gs", S1, by omega, fun r hr => (by simp at hr), List.Pairwise.nil⟩ ?_ ?_
  · rintro i σ' H' hi ⟨S, rows, vs, xk, xp, rfl, hl, hat, hlen, gs', t1, t2, hr, up⟩
    obtain ⟨x', hx'⟩ := gs'.st
    have hvl := hat.length
    rw [List.length_map] at hvl
    walk_at "s"
    refine ex_pick (fun v => ∃ p : Int, v = .int p ∧ 0 ≤ p ∧ p ≤ 100) (by omega) (by simp; omega) (fun v hv => ?_) (fun v hv => ?_)
    · simp only [List.mem_cons, List.not_mem_nil, or_false] at hv
      rcases hv with rfl | rfl | rfl
      · exact ⟨_, rfl, by decide, by decide⟩
      · exact ⟨_, rfl, by decide, by decide⟩
      · exact ⟨_, rfl, by omega, by omega⟩
    obtain ⟨pc, rfl, pc0, pc1⟩ := hv
    walk_at "s"
    rename_i z Hn zl zh gz wz hwz T hT y2 r2 c1 c2 y1 r1 c3 c4 q1 hq y0 r0 c5 c6
    refine ex_pick (fun v => ∃ d : Int, v = .int d ∧ 0 ≤ d ∧ d < 20000) c5 (by simp; omega) (fun v hv => ?_) (fun v hv => ?_)
    · simp only [List.mem_cons, List.not_mem_nil, or_false] at hv
      rcases hv with rfl | rfl
      · exact ⟨_, rfl, by omega, by omega⟩
      · exact ⟨_, rfl, by omega, by omega⟩
    obtain ⟨d, rfl, d0, d1⟩ := hv
    walk_at "s"
    refine ⟨S + 1 + d, rows ++ [(S, z, pc)], vs ++ [.ref T], _, _, rfl, by walk_at "hp", ?_, by simp [hlen], by walk_at "gs", by omega, by omega, fun r h => ?_, ?_⟩
    · rw [List.map_append]
      exact AtAll.append (rows_le hat (by walk_at "lt")) (AtAll.one (isRowT_at (by walk_at "hp")))
    · rcases List.mem_append.mp h with h | h
      · have := hr r h
        exact ⟨this.1, by omega⟩
      · rw [List.mem_singleton.mp h]
        exact ⟨⟨⟨t1, by omega⟩, ⟨zl, zh⟩, pc0, pc1⟩, by show S < S + 1 + d; omega⟩
    · rw [List.pairwise_append]
      refine ⟨up, List.pairwise_singleton _ _, fun a ha b hb => ?_⟩
      rw [List.mem_singleton.mp hb]
      exact (hr a ha).2
  · rintro σ' H' ⟨S, rows, vs, xk, xp, rfl, hl, hat, hlen, gs', t1, t2, hr, up⟩
    walk_at "s"
    rename_i a K1 sm ha
    refine q rows _ _ ⟨by omega, by omega, fun r h => (hr r h).1, up⟩ (by walk_at "gs") ⟨a, vs, rfl, ha, rows_le hat (by walk_at "lt")⟩
instance {H : Hp} {Q : VK} {E : XK} {s : Addr} : Step (sp_law_table (.ref s) H Q E) (∃ xs, H s = some (.lst xs) ∧ (∃ x, xs = [.int x]) ∧ DrwQ s H (fun rows v H' => Drawn rows ∧ At H' (.tuple (rows.map isRowT)) v) fun _ v H' => Q v H') := ⟨fun ⟨xs, h, ⟨x, e⟩, q⟩ => ⟨s, x, rfl, by rw [← e]; exact h, fun rows v H' d g a => q rows v H' g ⟨d, a⟩⟩⟩
abbrev s__law_at : Stmt := topS 65
theorem sc__law_at : FnScope ["_law_table_here", "_law_number_here", "_law_found", "_law_row_here"] ["_law_table_here", "_law_number_here"] (defScope s__law_at) := ⟨rfl, rfl, rfl, by decide +kernel, rfl, by decide +kernel, by decide +kernel⟩
def sp_law_at : Sp2 := fun a b H Q _ => ∃ (rows : List (Int × Int × Int)) (n : Int), At H (.tuple (rows.map isRowT)) a ∧ b = .int n ∧ SmallP rows ∧ Q (.int (atTab rows n)) H
theorem ok_law_at (M : Mg mg) (D : DefAt K mg "_law_at" s__law_at ["_law_table_here", "_law_number_here"]) : Has P w K mg base "_law_at" ["_law_table_here", "_law_number_here"] 1 (sp2 sp_law_at) := by
  refine .mk2 D sc__law_at fun f cdv A outer s H a b Q E hr h => ⟨_, (pss_cons (ps_set (i := 2) sc__law_at.nd rfl (by first | exact Or.inl rfl | exact Or.inr rfl) pe_int)
    (pss_cons (ps_for own_p (by rfl) (k_pi K rfl (pv 0)) (pg_name (i := 3) sc__law_at.nd rfl (by first | exact Or.inl rfl | exact Or.inr rfl)) (pss_one (ps_if (pt_cmpR o_ge (pv 1) (pe_ix (k_ix K rfl) (pv 3) pe_int (fun _ _ => rfl)) (nomark _)) (pss_one (ps_set (i := 2) sc__law_at.nd rfl (by first | exact Or.inl rfl | exact Or.inr rfl) (pe_op (k_add K rfl) (pe_ix (k_ix K rfl) (pv 3) pe_int (fun _ _ => rfl)) (pe_op o_div (pe_op o_mul (pe_op o_sub (pv 1) (pe_ix (k_ix K rfl) (pv 3) pe_int (fun _ _ => rfl))) (pe_ix (k_ix K rfl) (pv 3) pe_int (fun _ _ => rfl))) pe_int)))) pss_nil)))
    (pss_one (ps_ret (pv 2))))), ?_⟩
  obtain ⟨rows, n, hd, rfl, hp, q⟩ := h
  refine Fl.go_start (σ0 := [some _, some _, none, none]) rfl ?_
  obtain ⟨t, vs, rfl, ht, hvs⟩ := hd
  walk_at "s"
  refine for_tpl (fun i σ H' => H' = H ∧ ∃ x, σ = [some (.ref t), some (.int n), some (.int (atTab (rows.take i) n)), x]) ht ⟨rfl, none, rfl⟩ (fun i σ H' _ h => by rw [h.1]; exact ht) (fun i x σ H' ex h => ?_) (fun σ H' h => ?_)
  · obtain ⟨rfl, y, rfl⟩ := h
    obtain ⟨d, ed, hd⟩ := hvs.ix ex
    rw [List.getElem?_map] at ed
    cases er : rows[i]? with
    | none => rw [er] at ed; cases ed
    | some r =>
      rw [er] at ed
      have ed := Option.some.inj ed
      subst ed
      obtain ⟨b, rfl, hb⟩ := hd.row
      have hs := hp r (List.mem_of_getElem? er)
      have et := atTab_snoc (rows.take i) r n
      rw [take_snoc er] at et
      walk_at "s"
      refine if_d (fun c => ?_) (fun c => ?_)
      · walk_at "s"
        exact ⟨rfl, _, by rw [et, if_pos c]; rfl⟩
      · walk_at "s"
        exact ⟨rfl, _, by rw [et, if_neg c]; rfl⟩
  · obtain ⟨rfl, y, rfl⟩ := h
    have l := hvs.length
    rw [List.length_map] at l
    rw [l, List.take_length]
    walk_at "s"
    exact q
end
end Fl

-- after: nm.tpl m4c.tpl lawtab.tpl
namespace Fl
open PySem PySem.Spec PyProof.Rows L2 RZ
/-! ### forms: lines in no ring, their order -/
/-- at what place it stands -/
def pos : List Int → Int → Nat
  | [], _ => 0
  | a :: r, k => if a = k then 0 else pos r k + 1
theorem pos_get : ∀ {xs : List Int} {j : Nat} {o : Int}, xs.Nodup → xs[j]? = some o → pos xs o = j
  | a :: r, 0, o, _, e => by
    have e : a = o := by simpa using e
    simp [pos, e]
  | a :: r, j + 1, o, nd, e => by
    have nd' := List.nodup_cons.mp nd
    have e : r[j]? = some o := by simpa using e
    have ne : ¬ a = o := fun z => nd'.1 (by rw [z]; exact List.mem_of_getElem? e)
    simp [pos, ne, pos_get nd'.2 e]
theorem pos_take : ∀ {xs : List Int} {j : Nat} {k : Int}, k ∈ xs.take j → pos xs k < j
  | [], _, _, h => by simp at h
  | a :: r, 0, _, h => by simp at h
  | a :: r, j + 1, k, h => by
    by_cases c : a = k
    · simp [pos, c]
    · rw [List.take_succ_cons] at h
      have h' := (List.mem_cons.mp h).resolve_left fun e => c e.symm
      have := pos_take h'
      simp only [pos, if_neg c]
      omega
/-- lines that name lower ones alone -/
def Acy (rs : List Rule) : Prop := ∃ rk : Int → Nat, ∀ (i : Nat) r k, rs[i]? = some r → k ∈ r.lines → rk k < rk i
theorem nameL_mem {n : Nat} {r : Rule} {k : Int} : k ∈ nameI "line" n r ↔ (0 ≤ k ∧ k < n) ∧ k ∈ r.lines := by
  rw [nameI_mem, Rule.names_line, List.mem_map]
  constructor
  · rintro ⟨h, a, ha, e⟩
    cases e
    exact ⟨h, ha⟩
  · rintro ⟨h, ha⟩
    exact ⟨h, k, ha, rfl⟩
theorem adjR_lines {n : Nat} {rs : List Rule} {a y : Int} (h : y ∈ adjR n rs a) : 0 ≤ a ∧ (0 ≤ y ∧ y < n) ∧ ∃ r, rs[a.toNat]? = some r ∧ y ∈ r.lines := by
  unfold adjR at h
  split at h
  · rename_i c
    cases e : rs[a.toNat]? with
    | none => rw [e] at h; cases h
    | some r =>
      rw [e] at h
      have := nameL_mem.mp h
      exact ⟨c, this.1, r, rfl, this.2⟩
  · cases h
theorem Acy.adj {n : Nat} {rs : List Rule} (h : Acy rs) : ∃ rk : Int → Nat, ∀ a y, y ∈ adjR n rs a → rk y < rk a := by
  obtain ⟨rk, hk⟩ := h
  refine ⟨rk, fun a y hy => ?_⟩
  obtain ⟨a0, _, r, er, hl⟩ := adjR_lines hy
  have := hk _ r y er hl
  rwa [Int.toNat_of_nonneg a0] at this
theorem Acy.no_ring {n : Nat} {rs : List Rule} (h : Acy rs) : ∀ f w, ¬ Ring (adjR n rs) f w := by
  obtain ⟨rk, hk⟩ := h.adj (n := n)
  have down : ∀ m a b, Wk (adjR n rs) (m + 1) a b → rk b < rk a := by
    intro m
    induction m with
    | zero =>
      rintro a b ⟨c, hc, e⟩
      rw [← show c = b from e]
      exact hk _ _ hc
    | succ m ih =>
      rintro a b ⟨c, hc, w⟩
      have := ih _ _ w
      have := hk _ _ hc
      omega
  intro f w r
  obtain ⟨t, e⟩ := r.hd
  have wk := r.wk
  rw [e, List.length_cons] at wk
  have := down _ _ _ wk
  omega
theorem Acy.ro {n : Nat} {rs : List Rule} (h : Acy rs) : roN (adjR n rs) n n = [] := ro_nil ⟨fun a => (adjR_adj a).1, fun a => (adjR_adj a).2⟩ h.no_ring
end Fl

-- after: gw.tpl ru.tpl
namespace Fl
open PySem PySem.Spec PyProof.Rows L2 RZ
/-! ### what a rule is drawn from, in the heap -/
structure Gen (H : Hp) (s q z p : Addr) (g : Sg) : Prop where
  st : ∃ x, H s = some (.lst [.int x])
  sn : H q = some (.lst (g.seen.map V.int))
  qs : q ≠ s
  sz : H z = some (.tup [.int g.L, .int g.T, .int g.C])
  wd : H p = some (.lst (g.pool.map V.str))
  ps : p ≠ s
  l1 : 1 ≤ g.pool.length
  l2 : g.pool.length ≤ 1000
  l3 : g.seen.length ≤ 1000
  hL : 1 ≤ g.L
theorem Gen.gs {H H' : Hp} {s q z p : Addr} {g : Sg} (h : Gen H s q z p g) (e : Gs s H H') : Gen H' s q z p g where
  st := e.st
  sn := e.keep _ _ h.qs h.sn
  qs := h.qs
  sz := e.keep _ _ (fun w => by
    obtain ⟨x, hx⟩ := h.st
    have h2 := h.sz
    rw [w, hx] at h2
    cases h2) h.sz
  wd := e.keep _ _ h.ps h.wd
  ps := h.ps
  l1 := h.l1
  l2 := h.l2
  l3 := h.l3
  hL := h.hL
section
variable {P : Program} {w : World} {K : PySem.W.Frag} {mg : Str → Option Value} {base : Heap}
abbrev s__law_plain : Stmt := topS 59
theorem sc__law_plain : FnScope ["_law_state", "_law_seen", "_law_sizes_here", "_law_words_here", "_law_kind"] ["_law_state", "_law_seen", "_law_sizes_here", "_law_words_here"] (defScope s__law_plain) := ⟨rfl, rfl, rfl, by decide +kernel, rfl, by decide +kernel, by decide +kernel⟩
def sp_plain : Sp4 := fun a b c e H Q _ => ∃ s q z p g, a = .ref s ∧ b = .ref q ∧ c = .ref z ∧ e = .ref p ∧ Gen H s q z p g ∧ DrwQ s H (fun (r : Rule) v H' => r.ok g 1 ∧ At H' r.d v) fun _ v H' => Q v H'
theorem ok_plain (M : Mg mg) (G__law_next : Has P w K mg base "_law_next" ["_law_state", "_law_size"] 1 (sp2 sp_next)) (G__law_number : Has P w K mg base "_law_number" ["_law_state"] 2 (sp1 sp_number))
    (D : DefAt K mg "_law_plain" s__law_plain ["_law_state", "_law_seen", "_law_sizes_here", "_law_words_here"]) : Has P w K mg base "_law_plain" ["_law_state", "_law_seen", "_law_sizes_here", "_law_words_here"] 3 (sp4 sp_plain) := by
  refine .mk4 D sc__law_plain fun f cdv A outer s0 H a b c e Q E hr h => ⟨_, (pss_cons (ps_set (i := 4) sc__law_plain.nd rfl (by first | exact Or.inl rfl | exact Or.inr rfl) (pe_own G__law_next (hr.mono (by first | decide | omega)) (by rfl) p_body (pa_cons (pv 0) (pa_cons pe_int pa_nil))))
    (pss_cons (ps_if (pt_cmpR (k_eq K rfl hr) (pv 4) pe_int (nomark _)) (pss_one (ps_ret (pe_tup (pa_cons pe_str (pa_cons (pe_own G__law_number (hr.mono (by first | decide | omega)) (by rfl) p_body (pa_cons (pv 0) pa_nil)) pa_nil))))) pss_nil)
    (pss_cons (ps_if (PW.pt (pw_and (pt_cmpR o_lt (pv 4) pe_int (nomark _)) (pw_and1 (pt_cmpR o_gt (pe_callB (k_len K rfl) (by rfl) M.len (by decide +kernel) (pa_cons (pv 1) pa_nil)) pe_int (nomark _))))) (pss_one (ps_ret (pe_tup (pa_cons pe_str (pa_cons (pe_ix (k_ix K rfl) (pv 1) (pe_own G__law_next (hr.mono (by first | decide | omega)) (by rfl) p_body (pa_cons (pv 0) (pa_cons (pe_callB (k_len K rfl) (by rfl) M.len (by decide +kernel) (pa_cons (pv 1) pa_nil)) pa_nil))) (fun _ _ => rfl)) pa_nil))))) pss_nil)
    (pss_cons (ps_if (pt_cmpR (k_eq K rfl hr) (pv 4) pe_int (nomark _)) (pss_one (ps_ret (pe_tup (pa_cons pe_str (pa_cons (pe_own G__law_next (hr.mono (by first | decide | omega)) (by rfl) p_body (pa_cons (pv 0) (pa_cons (pe_ix (k_ix K rfl) (pv 2) pe_int (fun _ _ => rfl)) pa_nil))) pa_nil))))) pss_nil)
    (pss_one (ps_ret (pe_tup (pa_cons pe_str (pa_cons (pe_ix (k_ix K rfl) (pv 3) (pe_own G__law_next (hr.mono (by first | decide | omega)) (by rfl) p_body (pa_cons (pv 0) (pa_cons (pe_callB (k_len K rfl) (by rfl) M.len (by decide +kernel) (pa_cons (pv 3) pa_nil)) pa_nil))) (fun _ _ => rfl)) pa_nil))))))))), ?_⟩
  obtain ⟨s, q, z, p, g, rfl, rfl, rfl, rfl, hg, k⟩ := h
  obtain ⟨x, hs⟩ := hg.st
  have hq := hg.sn
  have hqs := hg.qs
  have hz := hg.sz
  have hp := hg.wd
  have hps := hg.ps
  have hzs : z ≠ s := fun w => by rw [w, hs] at hz; cases hz
  have l1 := hg.l1
  have hL := hg.hL
  refine Fl.go_start (σ0 := [some _, some _, some _, some _, none]) rfl ?_
  walk_at "s"
  rename_i y r h0 h1
  refine if_d (fun c => ?_) (fun c => ?_)
  · walk_at "s"
    rename_i n H2 n0 n1 gs2 _ _ t ht
    exact k (.num n) _ _ (by walk_at "gs") ⟨⟨n0, n1⟩, at2 upd_same rfl rfl⟩
  have l1' : 0 < ((g.pool.map V.str).length : Int) := by simp; omega
  have hL' : 0 < g.L := by omega
  walk_at "s"
  refine if_d (fun c1 => ?wa) (fun c1 => ?wb)
  case' wa =>
    walk_at "s"
    refine if_d (fun c2 => ?wa1) (fun c2 => ?wa2)
  case wa1 =>
    walk_at "s"
    rename_i y2 r2 g0 g1
    refine ex_pick (fun v => ∃ i ∈ g.seen, v = .int i) g0 g1 (fun v hv => by
      obtain ⟨i, hi, e⟩ := List.mem_map.mp hv
      exact ⟨i, hi, e.symm⟩) ?_
    rintro _ ⟨i, hi, rfl⟩
    walk_at "s"
    exact k (.line i) _ _ (by walk_at "gs") ⟨hi, at2 upd_same rfl rfl⟩
  all_goals
    walk_at "s"
    refine if_d (fun c3 => ?_) (fun c3 => ?_)
    · walk_at "s"
      rename_i y2 r2 g0 g1 t ht
      exact k (.earl r2) _ _ (by walk_at "gs") ⟨⟨g0, g1⟩, at2 upd_same rfl rfl⟩
    walk_at "s"
    rename_i y2 r2 g0 g1
    refine ex_pick (fun v => ∃ i ∈ g.pool, v = .str i) g0 g1 (fun v hv => by
      obtain ⟨i, hi, e⟩ := List.mem_map.mp hv
      exact ⟨i, hi, e.symm⟩) ?_
    rintro _ ⟨i, hi, rfl⟩
    walk_at "s"
    exact k (.paper i) _ _ (by walk_at "gs") ⟨hi, at2 upd_same rfl rfl⟩
end
end Fl

-- after: g2.tpl
namespace Fl
open PySem PySem.Spec PyProof.Rows L2 RZ
section
variable {P : Program} {w : World} {K : PySem.W.Frag} {mg : Str → Option Value} {base : Heap}
instance {H : Hp} {Q : VK} {E : XK} {s q z p : Addr} : Step (sp_plain (.ref s) (.ref q) (.ref z) (.ref p) H Q E) (∃ g, Gen H s q z p g ∧ DrwQ s H (fun (r : Rule) v H' => r.ok g 1 ∧ At H' r.d v) fun _ v H' => Q v H') := ⟨fun ⟨g, h, k⟩ => ⟨s, q, z, p, g, rfl, rfl, rfl, rfl, h, k⟩⟩
theorem ops_pick {r : Int} (h0 : 2 ≤ r) (h1 : r < 6) : ∃ w, op4 w ∧ atI [V.str "add", V.str "take", V.str "least", V.str "most"] (r - 2) = some (.str w) := by
  rcases four (r := r - 2) (by omega) (by omega) with e | e | e | e <;> rw [e]
  · exact ⟨_, .inl rfl, rfl⟩
  · exact ⟨_, .inr (.inl rfl), rfl⟩
  · exact ⟨_, .inr (.inr (.inl rfl)), rfl⟩
  · exact ⟨_, .inr (.inr (.inr rfl)), rfl⟩
abbrev s__law_rule : Stmt := topS 60
theorem sc__law_rule : FnScope ["_law_state", "_law_deep", "_law_seen", "_law_sizes_here", "_law_words_here", "_law_kind", "_law_one", "_law_other"] ["_law_state", "_law_deep", "_law_seen", "_law_sizes_here", "_law_words_here"] (defScope s__law_rule) := ⟨rfl, rfl, rfl, by decide +kernel, rfl, by decide +kernel, by decide +kernel⟩
def sp_rule (n : Nat) : Sp5 := fun a b c e i H Q _ => ∃ s q z p g deep, a = .ref s ∧ b = .int deep ∧ c = .ref q ∧ e = .ref z ∧ i = .ref p ∧ Gen H s q z p g ∧ (1 ≤ deep ∧ deep ≤ n) ∧ DrwQ s H (fun (r : Rule) v H' => r.ok g deep.toNat ∧ At H' r.d v) fun _ v H' => Q v H'
instance {H : Hp} {Q : VK} {E : XK} {s q z p : Addr} {deep : Int} {n : Nat} : Step (sp_rule n (.ref s) (.int deep) (.ref q) (.ref z) (.ref p) H Q E) (∃ g, Gen H s q z p g ∧ (1 ≤ deep ∧ deep ≤ n) ∧ DrwQ s H (fun (r : Rule) v H' => r.ok g deep.toNat ∧ At H' r.d v) fun _ v H' => Q v H') := ⟨fun ⟨g, h, k, l⟩ => ⟨s, q, z, p, g, deep, rfl, rfl, rfl, rfl, rfl, h, k, l⟩⟩
theorem ok_rule_step {n : Nat} (M : Mg mg) (G__law_next : Has P w K mg base "_law_next" ["_law_state", "_law_size"] 1 (sp2 sp_next)) (G__law_plain : Has P w K mg base "_law_plain" ["_law_state", "_law_seen", "_law_sizes_here", "_law_words_here"] 3 (sp4 sp_plain))
    (G__law_rule : Has P w K mg base "_law_rule" ["_law_state", "_law_deep", "_law_seen", "_law_sizes_here", "_law_words_here"] (n + 3) (sp5 (sp_rule n))) (D : DefAt K mg "_law_rule" s__law_rule ["_law_state", "_law_deep", "_law_seen", "_law_sizes_here", "_law_words_here"]) : Has P w K mg base "_law_rule" ["_law_state", "_law_deep", "_law_seen", "_law_sizes_here", "_law_words_here"] (n + 3 + 1) (sp5 (sp_rule (n + 1))) := by
  refine .mk5 D sc__law_rule fun f cdv A outer s0 H a b c e i Q E hr h => ⟨_, (pss_cons (ps_set (i := 5) sc__law_rule.nd rfl (by first | exact Or.inl rfl | exact Or.inr rfl) (pe_own G__law_next (hr.mono (by first | decide | omega)) (by rfl) p_body (pa_cons (pv 0) (pa_cons pe_int pa_nil))))
    (pss_cons (ps_if (PW.pt (pw_or (pt_cmpR o_lt (pv 1) pe_int (nomark _)) (pw_or1 (pt_cmpR o_lt (pv 5) pe_int (nomark _))))) (pss_one (ps_ret (pe_own G__law_plain (hr.mono (by first | decide | omega)) (by rfl) p_body (pa_cons (pv 0) (pa_cons (pv 2) (pa_cons (pv 3) (pa_cons (pv 4) pa_nil))))))) pss_nil)
    (pss_cons (ps_set (i := 6) sc__law_rule.nd rfl (by first | exact Or.inl rfl | exact Or.inr rfl) (pe_own G__law_rule (hr.mono (by first | decide | omega)) (by rfl) p_body (pa_cons (pv 0) (pa_cons (pe_op o_sub (pv 1) pe_int) (pa_cons (pv 2) (pa_cons (pv 3) (pa_cons (pv 4) pa_nil)))))))
    (pss_cons (ps_if (pt_cmpR (k_eq K rfl hr) (pv 5) pe_int (nomark _)) (pss_one (ps_ret (pe_tup (pa_cons pe_str (pa_cons (pv 6) (pa_cons (pe_ix (k_ix K rfl) (pe_lst (pa_cons pe_int (pa_cons pe_int (pa_cons (pe_own G__law_next (hr.mono (by first | decide | omega)) (by rfl) p_body (pa_cons (pv 0) (pa_cons pe_int pa_nil))) pa_nil)))) (pe_own G__law_next (hr.mono (by first | decide | omega)) (by rfl) p_body (pa_cons (pv 0) (pa_cons pe_int pa_nil))) (fun _ _ => rfl)) pa_nil)))))) pss_nil)
    (pss_cons (ps_if (PW.pt (pw_and (pt_cmpR (k_eq K rfl hr) (pv 5) pe_int (nomark _)) (pw_and1 (pt_cmpR o_gt (pe_ix (k_ix K rfl) (pv 3) pe_int (fun _ _ => rfl)) pe_int (nomark _))))) (pss_one (ps_ret (pe_tup (pa_cons pe_str (pa_cons (pe_own G__law_next (hr.mono (by first | decide | omega)) (by rfl) p_body (pa_cons (pv 0) (pa_cons (pe_ix (k_ix K rfl) (pv 3) pe_int (fun _ _ => rfl)) pa_nil))) (pa_cons (pv 6) pa_nil)))))) pss_nil)
    (pss_cons (ps_if (pt_cmpR (k_eq K rfl hr) (pv 5) pe_int (nomark _)) (pss_one (ps_ret (pv 6))) pss_nil)
    (pss_cons (ps_set (i := 7) sc__law_rule.nd rfl (by first | exact Or.inl rfl | exact Or.inr rfl) (pe_own G__law_rule (hr.mono (by first | decide | omega)) (by rfl) p_body (pa_cons (pv 0) (pa_cons (pe_callB (c_min2 rfl) (by rfl) M.min (by decide +kernel) (pa_cons (pe_op o_sub (pv 1) pe_int) (pa_cons pe_int pa_nil))) (pa_cons (pv 2) (pa_cons (pv 3) (pa_cons (pv 4) pa_nil)))))))
    (pss_meet (ps_if (pt_cmpR (k_eq K rfl hr) (pe_own G__law_next (hr.mono (by first | decide | omega)) (by rfl) p_body (pa_cons (pv 0) (pa_cons pe_int pa_nil))) pe_int (nomark _)) (pss_one (ps_par (i := 6) (j := 7) (by rfl) sc__law_rule.nd rfl rfl (by decide) rfl rfl (pa_cons (pv 7) (pa_cons (pv 6) pa_nil)) (by rfl))) pss_nil)
    (pss_cons (ps_if (pt_cmpR o_lt (pv 5) pe_int (nomark _)) (pss_one (ps_ret (pe_tup (pa_cons (pe_ix (k_ix K rfl) (pe_lst (pa_cons pe_str (pa_cons pe_str (pa_cons pe_str (pa_cons pe_str pa_nil))))) (pe_op o_sub (pv 5) pe_int) (fun _ _ => rfl)) (pa_cons (pv 6) (pa_cons (pv 7) pa_nil)))))) pss_nil)
    (pss_cons (ps_if (pt_cmpR o_lt (pv 5) pe_int (nomark _)) (pss_one (ps_ret (pe_tup (pa_cons pe_str (pa_cons (pv 6) (pa_cons (pv 7) (pa_cons (pe_own G__law_rule (hr.mono (by first | decide | omega)) (by rfl) p_body (pa_cons (pv 0) (pa_cons (pe_callB (c_min2 rfl) (by rfl) M.min (by decide +kernel) (pa_cons (pe_op o_sub (pv 1) pe_int) (pa_cons pe_int pa_nil))) (pa_cons (pv 2) (pa_cons (pv 3) (pa_cons (pv 4) pa_nil)))))) pa_nil))))))) pss_nil)
    (pss_cons (ps_if (pt_cmpR o_gt (pe_ix (k_ix K rfl) (pv 3) pe_int (fun _ _ => rfl)) pe_int (nomark _)) (pss_one (ps_ret (pe_tup (pa_cons pe_str (pa_cons (pe_own G__law_next (hr.mono (by first | decide | omega)) (by rfl) p_body (pa_cons (pv 0) (pa_cons (pe_ix (k_ix K rfl) (pv 3) pe_int (fun _ _ => rfl)) pa_nil))) (pa_cons (pv 6) (pa_cons (pv 7) pa_nil))))))) pss_nil)
    (pss_one (ps_ret (pe_tup (pa_cons pe_str (pa_cons (pv 7) (pa_cons (pv 6) pa_nil))))))))))))))))), ?_⟩
  obtain ⟨s, q, z, p, g, deep, rfl, rfl, rfl, rfl, rfl, hg, ⟨hd1, hdn⟩, k⟩ := h
  obtain ⟨x, hs⟩ := hg.st
  have hz := hg.sz
  have hzs : z ≠ s := fun w => by rw [w, hs] at hz; cases hz
  obtain ⟨m, rfl⟩ : ∃ m : Nat, deep = m + 1 := ⟨(deep - 1).toNat, by omega⟩
  have em : ((m : Int) + 1).toNat = m + 1 := by omega
  rw [em] at k
  refine Fl.go_start (σ0 := [some _, some _, some _, some _, some _, none, none, none]) rfl ?_
  walk_at "s"
  rename_i y r h0 h1
  refine if_d (fun c => ?wa) (fun c => ?wb)
  case' wb =>
    walk_at "s"
    refine if_d (fun c0 => ?wb1) (fun c0 => ?wb2)
  case wb2 =>
    have hm : 1 ≤ m := by omega
    have e1 : ((m : Int) + 1 - 1).toNat = m := by omega
    walk_at "s"
    refine ⟨g, hg.gs (by walk_at "gs"), ⟨by omega, by omega⟩, fun r1 v1 H1 gs1 ⟨o1, a1⟩ => ?_⟩
    rw [e1] at o1
    have gsA : Gs s H H1 := by walk_at "gs"
    clear gs1
    obtain ⟨x1, hx1⟩ := gsA.st
    have hg1 := hg.gs gsA
    have hz1 := hg1.sz
    walk_at "s"
    refine if_d (fun c1 => ?_) (fun c1 => ?_)
    · walk_at "s"
      rename_i ya ra ra0 ra1 pl hpl yb rb rb0 rb1
      refine ex_pick (fun v => ∃ i : Int, v = .int i ∧ 0 ≤ i ∧ i ≤ 100) rb0 rb1 (fun v hv => by
        simp only [List.mem_cons, List.not_mem_nil, or_false] at hv
        rcases hv with rfl | rfl | rfl
        · exact ⟨_, rfl, by decide, by decide⟩
        · exact ⟨_, rfl, by decide, by decide⟩
        · exact ⟨_, rfl, by omega, by omega⟩) ?_
      rintro _ ⟨i, rfl, i0, i1⟩
      walk_at "s"
      exact k (.part r1 i) _ _ (by walk_at "gs") ⟨⟨⟨i0, i1⟩, o1⟩, at3 upd_same rfl (by walk_at "at") rfl⟩
    walk_at "s"
    refine if_d (fun c2 => ?_) (fun c2 => ?_)
    · walk_at "s"
      refine if_d (fun c3 => ?_) (fun c3 => ?_)
      · walk_at "s"
        rename_i ya ra ra0 ra1 t ht
        exact k (.table ra r1) _ _ (by walk_at "gs") ⟨⟨⟨ra0, ra1⟩, o1⟩, at3 upd_same rfl rfl (by walk_at "at")⟩
      walk_at "s"
      walk_at "yes"
      walk_at "s"
      exact k r1 v1 H1 gsA ⟨Rule.ok_succ o1, a1⟩
    walk_at "s"
    walk_at "no"
    walk_at "s"
    refine ⟨g, hg1, ⟨by split <;> omega, by split <;> omega⟩, fun r2 v2 H2 gs2 ⟨o2, a2⟩ => ?_⟩
    have o2 : r2.ok g m := Rule.ok_mono (by split <;> omega) o2
    have a1' : At H2 r1.d v1 := by walk_at "at"
    have gsB : Gs s H H2 := by walk_at "gs"
    clear gs2
    obtain ⟨x2, hx2⟩ := gsB.st
    have hg2 := hg.gs gsB
    have hz2 := hg2.sz
    walk_at "s"
    refine meet (fun σ' H' => Gs s H H' ∧ ∃ (ra : Rule) (va : V) (rb : Rule) (vb : V), σ' = [some (.ref s), some (.int (m + 1)), some (.ref q), some (.ref z), some (.ref p), some (.int r), some va, some vb] ∧ ra.ok g m ∧ rb.ok g m ∧ At H' ra.d va ∧ At H' rb.d vb) ?_ ?_
    · walk_at "s"
      refine if_d (fun c3 => ?_) (fun c3 => ?_)
      · walk_at "s"
        exact ⟨by walk_at "gs", r2, v2, r1, v1, rfl, o2, o1, by walk_at "at", by walk_at "at"⟩
      · walk_at "s"
        exact ⟨by walk_at "gs", r1, v1, r2, v2, rfl, o1, o2, by walk_at "at", by walk_at "at"⟩
    clear a1 a2 a1' o1 o2
    rintro σ' H3 ⟨gsC, ra, va, rb, vb, rfl, oa, ob, aa, ab⟩
    obtain ⟨x3, hx3⟩ := gsC.st
    have hg3 := hg.gs gsC
    have hz3 := hg3.sz
    walk_at "s"
    refine if_d (fun c3 => ?_) (fun c3 => ?_)
    · walk_at "s"
      obtain ⟨w, hw, ew⟩ := ops_pick (r := r) (by omega) c3
      refine ex_v ew ?_
      walk_at "s"
      exact k (.two w ra rb) _ _ (by walk_at "gs") ⟨⟨hw, oa, ob⟩, at3 upd_same rfl (by walk_at "at") (by walk_at "at")⟩
    walk_at "s"
    refine if_d (fun c4 => ?_) (fun c4 => ?_)
    · walk_at "s"
      refine ⟨g, hg3, ⟨by split <;> omega, by split <;> omega⟩, fun r4 v4 H4 gs4 ⟨o4, a4⟩ => ?_⟩
      have o4 : r4.ok g m := Rule.ok_mono (by split <;> omega) o4
      obtain ⟨x4, hx4⟩ := gs4.st
      walk_at "s"
      exact k (.wher ra rb r4) _ _ (by walk_at "gs") ⟨⟨oa, ob, o4⟩, at4 upd_same rfl (by walk_at "at") (by walk_at "at") (by walk_at "at")⟩
    walk_at "s"
    refine if_d (fun c5 => ?_) (fun c5 => ?_)
    · walk_at "s"
      rename_i yd rd rd0 rd1 t ht
      exact k (.choo rd ra rb) _ _ (by walk_at "gs") ⟨⟨⟨rd0, rd1⟩, oa, ob⟩, at4 upd_same rfl rfl (by walk_at "at") (by walk_at "at")⟩
    walk_at "s"
    exact k (.two "take" rb ra) _ _ (by walk_at "gs") ⟨⟨.inr (.inl rfl), ob, oa⟩, at3 upd_same rfl (by walk_at "at") (by walk_at "at")⟩
  all_goals
    walk_at "s"
    refine ⟨g, hg.gs (by walk_at "gs"), fun r1 v1 H1 gs1 ⟨o1, a1⟩ => ?_⟩
    walk_at "s"
    exact k r1 v1 H1 (by walk_at "gs") ⟨Rule.ok_mono (by omega) o1, a1⟩
theorem ok_rule (M : Mg mg) (G__law_next : Has P w K mg base "_law_next" ["_law_state", "_law_size"] 1 (sp2 sp_next)) (G__law_plain : Has P w K mg base "_law_plain" ["_law_state", "_law_seen", "_law_sizes_here", "_law_words_here"] 3 (sp4 sp_plain)) (D : DefAt K mg "_law_rule" s__law_rule ["_law_state", "_law_deep", "_law_seen", "_law_sizes_here", "_law_words_here"]) :
    ∀ n : Nat, Has P w K mg base "_law_rule" ["_law_state", "_law_deep", "_law_seen", "_law_sizes_here", "_law_words_here"] (n + 3) (sp5 (sp_rule n))
  | 0 => Has.none_left D fun vs H Q E h => by
    obtain ⟨_, _, _, _, _, _, _, _, _, _, _, deep, _, _, _, _, _, _, ⟨h1, h2⟩, _⟩ := h
    omega
  | n + 1 => ok_rule_step M G__law_next G__law_plain (ok_rule M G__law_next G__law_plain D n) D
end
end Fl

-- after: fo0.tpl gen0.tpl g3.tpl
namespace Fl
open PySem PySem.Spec PyProof.Rows L2 RZ
/-! ### the parts of a form, drawn: sizes, an order -/
def rangeI (n : Nat) : List Int := (List.range n).map fun (k : Nat) => (k : Int)
theorem rangeI_nodup (n : Nat) : (rangeI n).Nodup := pw_nodup (range_srt n)
theorem mem_rangeI {n : Nat} {k : Int} : k ∈ rangeI n ↔ 0 ≤ k ∧ k < n := by
  unfold rangeI
  rw [List.mem_map]
  constructor
  · rintro ⟨i, hi, rfl⟩
    have := List.mem_range.mp hi
    omega
  · rintro ⟨h0, h1⟩
    exact ⟨k.toNat, List.mem_range.mpr (by omega), by omega⟩
theorem rangeI_len (n : Nat) : (rangeI n).length = n := by simp [rangeI]
theorem rgV_range (n : Nat) : rgV 0 (n : Int) = (rangeI n).map V.int := by
  simp [rgV, rangeI, Function.comp_def]
theorem pop_at {H : Hp} {Q : VK} {l : Addr} {xs : List Int} {i : Nat} {y : Int} (h : H l = some (.lst (xs.map V.int))) (e : xs[i]? = some y) (s : xs.length < 100000) (q : Q (.int y) (upd H l (.lst ((xs.eraseIdx i).map V.int)))) : rPopAt (.ref l) [.int i] H Q := by
  have il := (List.getElem?_eq_some_iff.mp e).1
  refine ⟨l, xs.map V.int, i, i, .int y, rfl, rfl, h, by omega, by omega, ?_, by rw [List.getElem?_map, e]; rfl, ?_⟩
  · unfold seqIndex?
    rw [List.length_map]
    simp
    omega
  · rw [erase_mapI]
    exact q
theorem erase_perm : ∀ {xs : List Int} {i : Nat} (h : i < xs.length), ([xs[i]] ++ xs.eraseIdx i).Perm xs
  | a :: r, 0, _ => List.Perm.refl _
  | a :: r, i + 1, h => by
    have ih := erase_perm (xs := r) (i := i) (by simpa using h)
    exact (List.Perm.swap a (r[i]'(by simpa using h)) (r.eraseIdx i)).trans (ih.cons a)
section
variable {P : Program} {w : World} {K : PySem.W.Frag} {mg : Str → Option Value} {base : Heap}
abbrev s__law_sizes : Stmt := topS 61
theorem sc__law_sizes : FnScope ["_law_cell", "_law_most", "_law_many", "_law_tables", "_law_choices_here"] ["_law_cell", "_law_most"] (defScope s__law_sizes) := ⟨rfl, rfl, rfl, by decide +kernel, rfl, by decide +kernel, by decide +kernel⟩
/-- so many lines, tables, choices -/
structure SzO (n T C : Nat) (most : Nat) : Prop where
  n1 : 1 ≤ n
  n2 : n ≤ most
  t : T ≤ 5
  c : C ≤ 8
def sp_sizes : Sp2 := fun a b H Q _ => ∃ (c : Int) (most : Nat), a = .int c ∧ b = .int most ∧ 0 ≤ c ∧ (7 ≤ most ∧ most ≤ 40) ∧ ∀ n T C z H', SzO n T C most → Same H H' → H' z = some (.tup [.int (n : Nat), .int (T : Nat), .int (C : Nat)]) → Q (.ref z) H'
theorem ok_sizes (M : Mg mg) (D : DefAt K mg "_law_sizes" s__law_sizes ["_law_cell", "_law_most"]) : Has P w K mg base "_law_sizes" ["_law_cell", "_law_most"] 1 (sp2 sp_sizes) := by
  refine .mk2 D sc__law_sizes fun fa cdv A outer s0 H a b Q E hr h => ⟨_, (pss_cons (ps_set (i := 2) sc__law_sizes.nd rfl (by first | exact Or.inl rfl | exact Or.inr rfl) (pe_op (k_add K rfl) pe_int (pe_op o_mod (pv 0) pe_int)))
    (pss_meet (ps_if (pt_cmpR (k_eq K rfl hr) (pe_op o_mod (pe_op o_div (pv 0) pe_int) pe_int) pe_int (nomark _)) (pss_one (ps_set (i := 2) sc__law_sizes.nd rfl (by first | exact Or.inl rfl | exact Or.inr rfl) (pe_op (k_add K rfl) pe_int (pe_op o_mod (pe_op o_div (pv 0) pe_int) (pe_op o_sub (pv 1) pe_int))))) pss_nil)
    (pss_cons (ps_set (i := 3) sc__law_sizes.nd rfl (by first | exact Or.inl rfl | exact Or.inr rfl) (pe_op o_mod (pe_op o_div (pv 0) pe_int) pe_int))
    (pss_meet (ps_if (pt_cmpR (k_eq K rfl hr) (pe_op o_mod (pe_op o_div (pv 0) pe_int) pe_int) pe_int (nomark _)) (pss_one (ps_set (i := 3) sc__law_sizes.nd rfl (by first | exact Or.inl rfl | exact Or.inr rfl) (pe_op (k_add K rfl) pe_int (pe_op o_mod (pe_op o_div (pv 0) pe_int) pe_int)))) pss_nil)
    (pss_cons (ps_set (i := 4) sc__law_sizes.nd rfl (by first | exact Or.inl rfl | exact Or.inr rfl) (pe_op o_mod (pe_op o_div (pv 0) pe_int) pe_int))
    (pss_meet (ps_if (pt_cmpR (k_eq K rfl hr) (pe_op o_mod (pe_op o_div (pv 0) pe_int) pe_int) pe_int (nomark _)) (pss_one (ps_set (i := 4) sc__law_sizes.nd rfl (by first | exact Or.inl rfl | exact Or.inr rfl) (pe_op (k_add K rfl) pe_int (pe_op o_mod (pe_op o_div (pv 0) pe_int) pe_int)))) pss_nil)
    (pss_one (ps_ret (pe_tup (pa_cons (pv 2) (pa_cons (pv 3) (pa_cons (pv 4) pa_nil)))))))))))), ?_⟩
  obtain ⟨c, most, rfl, rfl, hc, ⟨m7, m40⟩, q⟩ := h
  refine Fl.go_start (σ0 := [some _, some _, none, none, none]) rfl ?_
  walk_at "s"
  refine meet (fun σ' H' => ∃ n : Nat, σ' = [some (.int c), some (.int most), some (.int n), none, none] ∧ (1 ≤ n ∧ n ≤ most) ∧ H' = H) ?_ ?_
  · walk_at "s"
    refine if_d (fun c1 => ?_) (fun c1 => ?_)
    · have p0 : (0 : Int) < (most : Int) - 6 := by omega
      have h0 := Int.emod_nonneg (c / 36) (show (most : Int) - 6 ≠ 0 by omega)
      have h1 := Int.emod_lt_of_pos (c / 36) p0
      walk_at "s"
      exact ⟨(7 + c / 36 % ((most : Int) - 6)).toNat, by rw [Int.toNat_of_nonneg (by omega)]; rfl, by omega, rfl⟩
    · walk_at "s"
      exact ⟨(1 + c % 6).toNat, by rw [Int.toNat_of_nonneg (by omega)]; rfl, by omega, rfl⟩
  rintro σ' H' ⟨n, rfl, hn, rfl⟩
  walk_at "s"
  refine meet (fun σ' H2 => ∃ T : Nat, σ' = [some (.int c), some (.int most), some (.int n), some (.int T), none] ∧ T ≤ 5 ∧ H2 = H') ?_ ?_
  · walk_at "s"
    refine if_d (fun c1 => ?_) (fun c1 => ?_)
    · walk_at "s"
      exact ⟨(3 + c / 29376 % 3).toNat, by rw [Int.toNat_of_nonneg (by omega)]; rfl, by omega, rfl⟩
    · walk_at "s"
      exact ⟨(c / 1224 % 3).toNat, by rw [Int.toNat_of_nonneg (by omega)]; rfl, by omega, rfl⟩
  rintro σ' H2 ⟨T, rfl, hT, rfl⟩
  walk_at "s"
  refine meet (fun σ' H3 => ∃ C : Nat, σ' = [some (.int c), some (.int most), some (.int n), some (.int T), some (.int C)] ∧ C ≤ 8 ∧ H3 = H2) ?_ ?_
  · walk_at "s"
    refine if_d (fun c1 => ?_) (fun c1 => ?_)
    · walk_at "s"
      exact ⟨(4 + c / 2820096 % 5).toNat, by rw [Int.toNat_of_nonneg (by omega)]; rfl, by omega, rfl⟩
    · walk_at "s"
      exact ⟨(c / 88128 % 4).toNat, by rw [Int.toNat_of_nonneg (by omega)]; rfl, by omega, rfl⟩
  rintro σ' H3 ⟨C, rfl, hC, rfl⟩
  walk_at "s"
  exact q n T C _ _ ⟨hn.1, hn.2, hT, hC⟩ (by walk_at "sm") upd_same
abbrev s__law_order : Stmt := topS 62
theorem sc__law_order : FnScope ["_law_state", "_law_many", "_law_left", "_law_found"] ["_law_state", "_law_many"] (defScope s__law_order) := ⟨rfl, rfl, rfl, by decide +kernel, rfl, by decide +kernel, by decide +kernel⟩
def sp_order : Sp2 := fun a b H Q _ => ∃ (s : Addr) (x : Int) (n : Nat), a = .ref s ∧ H s = some (.lst [.int x]) ∧ b = .int n ∧ n ≤ 1000 ∧ ∀ (ns : List Int) p H', Gs s H H' → H p = none → H' p = some (.lst (ns.map V.int)) → ns.Perm (rangeI n) → Q (.ref p) H'
theorem ok_order (M : Mg mg) (G__law_next : Has P w K mg base "_law_next" ["_law_state", "_law_size"] 1 (sp2 sp_next)) (D : DefAt K mg "_law_order" s__law_order ["_law_state", "_law_many"]) : Has P w K mg base "_law_order" ["_law_state", "_law_many"] 2 (sp2 sp_order) := by
  refine .mk2 D sc__law_order fun fa cdv A outer s0 H a b Q E hr h => ⟨_, (pss_cons (ps_set (i := 2) sc__law_order.nd rfl (by first | exact Or.inl rfl | exact Or.inr rfl) (pe_listRg rfl (by rfl) M.list (prg_1 (by rfl) M.range (pv 1))))
    (pss_cons (ps_set (i := 3) sc__law_order.nd rfl (by first | exact Or.inl rfl | exact Or.inr rfl) (pe_lst pa_nil))
    (pss_cons (ps_while own_p (pt_cmpR o_gt (pe_callB (k_len K rfl) (by rfl) M.len (by decide +kernel) (pa_cons (pv 2) pa_nil)) pe_int (nomark _)) (pss_one (ps_expr (k_bm K rfl PySem.F.plainAttrs_list PySem.F.slot_list_append PySem.F.type_list_append mt_append (pv 3) (pa_cons (k_bm K rfl PySem.F.plainAttrs_list PySem.F.slot_list_pop PySem.F.type_list_pop mt_popAt (pv 2) (pa_cons (pe_own G__law_next (hr.mono (by first | decide | omega)) (by rfl) p_body (pa_cons (pv 0) (pa_cons (pe_callB (k_len K rfl) (by rfl) M.len (by decide +kernel) (pa_cons (pv 2) pa_nil)) pa_nil))) pa_nil)) pa_nil)))))
    (pss_one (ps_ret (pv 3)))))), ?_⟩
  obtain ⟨s, x, n, rfl, hs, rfl, hn, q⟩ := h
  refine Fl.go_start (σ0 := [some _, some _, none, none]) rfl ?_
  walk_at "s"
  intro l hl
  rw [rgV_range] at *
  walk_at "s"
  rename_i f hf
  have hls : l ≠ s := fun z => by rw [z, hs] at hl; cases hl
  have hfs : f ≠ s := fun z => by rw [z, upd_ne hls.symm, hs] at hf; cases hf
  have hlf : l ≠ f := fun z => by rw [← z, upd_same] at hf; cases hf
  have ff : H f = none := L2.Same.free (Same.new (.refl _) hl) hf
  refine while_go (fun m σ' H' => ∃ xs ys : List Int, σ' = [some (.ref s), some (.int n), some (.ref l), some (.ref f)] ∧ m = xs.length ∧ H' l = some (.lst (xs.map V.int)) ∧ H' f = some (.lst (ys.map V.int)) ∧ (ys ++ xs).Perm (rangeI n) ∧ Gs s H H') n
    ⟨rangeI n, [], rfl, (rangeI_len n).symm, by walk_at "hp", upd_same, by simp, by walk_at "gs"⟩ ?_
  rintro m σ' H' ⟨xs, ys, rfl, rfl, hxs, hys, pm, gs⟩
  obtain ⟨x1, hx1⟩ := gs.st
  have plen := pm.length_eq
  rw [List.length_append, rangeI_len] at plen
  walk_at "s"
  by_cases c : xs = []
  · subst c
    refine if_df (by simp) ?_
    walk_at "s"
    exact q ys f H' gs ff hys (by simpa using pm)
  have cpos := List.length_pos_iff.mpr c
  refine if_dt (by simp; omega) ?_
  refine while_turn ?_
  have l0 : 0 < ((xs.map V.int).length : Int) := by simp; omega
  walk_at "s"
  rename_i yy r r0 r1
  obtain ⟨rn, rfl⟩ : ∃ rn : Nat, r = rn := ⟨r.toNat, by omega⟩
  have rl : rn < xs.length := by simp at r1; omega
  refine pop_at (i := rn) (y := xs[rn]) (by walk_at "hp") (List.getElem?_eq_getElem rl) (by omega) ?_
  walk_at "s"
  refine ⟨(xs.eraseIdx rn).length, by rw [List.length_eraseIdx_of_lt rl]; omega, xs.eraseIdx rn, ys ++ [xs[rn]], rfl, rfl, by walk_at "hp", by rw [upd_same]; simp, ?_, ?_⟩
  · refine List.Perm.trans ?_ pm
    rw [List.append_assoc]
    refine List.Perm.append_left _ ?_
    exact erase_perm rl
  · exact Gs.mut (Gs.mut (gs.trans .put) hl hls.symm) ff hfs.symm
end
end Fl

-- after: nm.tpl m4c.tpl
namespace Fl
open PySem PySem.Spec PyProof.Rows L2 RZ
/-! ### ring_from: lists of lists in the heap -/
def LLs (H0 H : Hp) (S : List Addr) : List (List Int) → List V → Prop
  | [], vs => vs = []
  | xs :: r, vs => ∃ p t, vs = .ref p :: t ∧ (H0 p = none ∧ p ∉ S ∧ H p = some (.lst (xs.map V.int))) ∧ LLs H0 H S r t
theorem LLs.mono {H0 H H' : Hp} {S S' : List Addr} (k : ∀ p xs, p ∉ S → H p = some (.lst xs) → p ∉ S' ∧ H' p = some (.lst xs)) : ∀ {xss : List (List Int)} {vs : List V}, LLs H0 H S xss vs → LLs H0 H' S' xss vs
  | [], _, h => h
  | xs :: r, _, ⟨p, t, e, ⟨h1, h2, h3⟩, h⟩ => ⟨p, t, e, ⟨h1, (k _ _ h2 h3).1, (k _ _ h2 h3).2⟩, h.mono k⟩
theorem LLs.length {H0 H : Hp} {S : List Addr} : ∀ {xss : List (List Int)} {vs : List V}, LLs H0 H S xss vs → vs.length = xss.length
  | [], _, h => by rw [show _ = _ from h]; rfl
  | _ :: _, _, ⟨p, t, e, _, h⟩ => by rw [e, List.length_cons, List.length_cons, h.length]
theorem LLs.ix {H0 H : Hp} {S : List Addr} : ∀ {xss : List (List Int)} {vs : List V} {i : Nat} {v : V}, LLs H0 H S xss vs → vs[i]? = some v → ∃ p xs, v = .ref p ∧ xss[i]? = some xs ∧ H0 p = none ∧ p ∉ S ∧ H p = some (.lst (xs.map V.int))
  | [], _, _, _, h, e => by rw [show _ = _ from h] at e; simp at e
  | xs :: r, _, 0, _, ⟨p, t, e1, ⟨h1, h2, h3⟩, h⟩, e => by
    subst e1
    exact ⟨p, xs, (Option.some.inj e).symm, rfl, h1, h2, h3⟩
  | _ :: _, _, i + 1, _, ⟨p, t, e1, _, h⟩, e => by
    subst e1
    obtain ⟨q, xs, a, b, r⟩ := h.ix (i := i) (by simpa using e)
    exact ⟨q, xs, a, by simpa using b, r⟩
theorem LLs.append {H0 H : Hp} {S : List Addr} : ∀ {xss yss : List (List Int)} {vs us : List V}, LLs H0 H S xss vs → LLs H0 H S yss us → LLs H0 H S (xss ++ yss) (vs ++ us)
  | [], _, _, _, h, k => by rw [show _ = _ from h]; exact k
  | _ :: _, _, _, _, ⟨p, t, e, h0, h⟩, k => by subst e; exact ⟨p, _, rfl, h0, h.append k⟩
theorem LLs.one {H0 H : Hp} {S : List Addr} {p : Addr} {xs : List Int} (h1 : H0 p = none) (h2 : p ∉ S) (h3 : H p = some (.lst (xs.map V.int))) : LLs H0 H S [xs] [.ref p] := ⟨p, [], rfl, ⟨h1, h2, h3⟩, rfl⟩
theorem LLs.dp {K : PySem.W.Frag} {H0 H : Hp} {S : List Addr} : ∀ {xss : List (List Int)} {vs : List V}, LLs H0 H S xss vs → DpAll K H vs (xss.map fun xs => .list (xs.map PyData.int))
  | [], _, h => by rw [show _ = _ from h]; exact .nil
  | _ :: _, _, ⟨p, t, e, ⟨_, _, h3⟩, h⟩ => by subst e; exact .cons (dp_ints h3) h.dp
theorem lay_ll (xss : List (List Int)) : PyData.canLayAll0 (xss.map fun xs => .list (xs.map PyData.int)) = true :=
  lay_all _ fun d hd => by
    obtain ⟨xs, _, rfl⟩ := List.mem_map.mp hd
    simp only [PyData.canLay0]
    exact lay_ints xs
theorem atI_last {xs : List Int} {f : Int} (h : xs ≠ []) : atI (xs.map V.int) (-1) = some (.int (lastF f xs)) := by
  obtain ⟨u, e⟩ := lastF_split (f := f) h
  generalize lastF f xs = z at e
  subst e
  have l : (u ++ [z]).map V.int = u.map V.int ++ [.int z] := by simp
  rw [l]
  have e2 : ixN (u.map V.int ++ [V.int z]).length (-1) = some u.length := by
    unfold ixN
    simp
    omega
  unfold atI
  rw [e2]
  show (u.map V.int ++ [V.int z])[u.length]? = _
  rw [List.getElem?_append_right (by simp)]
  simp
theorem foldE_snoc {α β ε : Type} {g : β → α → Except ε β} {b st : β} {p : List α} {x : α} (h : foldE g b p = .ok st) : foldE g b (p ++ [x]) = g st x := by
  rw [foldE_app, h]
  show foldE g st [x] = _
  rw [foldE]
  cases g st x <;> rfl
theorem foldE_err {α β ε : Type} {g : β → α → Except ε β} {b : β} {p q : List α} {e : ε} (h : foldE g b p = .error e) : foldE g b (p ++ q) = .error e := by
  rw [foldE_app, h]
theorem rf_nil {adj : Int → List Int} {f : Int} {m : Nat} {seen : List Int} : rf adj f m [] seen = [] := by
  cases m <;> simp [rf]
theorem meas_next {adj : Int → List Int} {n : Nat} {f : Int} (h : Adj adj n) (hf : 0 ≤ f ∧ f < n) {l m : Nat} {ways : List (List Int)} {seen : List Int} (b : BI adj f l ways seen) (c : ways ≠ []) {st : List Int × List (List Int)}
    (e : foldE (rfStep f) (seen, []) (rfPairs adj f ways) = .ok st) (hm : meas n ways seen ≤ m + 1) : meas n st.2 st.1 ≤ m := by
  obtain ⟨h1, h2⟩ := b.next h.srt c e
  have ls' := range_len h1.nd fun x hx => by
    obtain ⟨_, a, ha⟩ := h1.up x hx
    exact h.rng a x ha
  unfold meas at hm ⊢
  rw [if_neg c] at hm
  by_cases c2 : st.2 = []
  · rw [if_pos c2]
    omega
  · rw [if_neg c2]
    have := List.length_pos_iff.mpr c2
    omega
theorem pth_last {adj : Int → List Int} {n : Nat} {f : Int} (h : Adj adj n) (hf : 0 ≤ f ∧ f < n) {l : Nat} {w : List Int} (p : Pth adj f l w) : 0 ≤ lastF f w ∧ lastF f w < n := by
  cases l with
  | zero =>
    obtain ⟨r, rfl, e⟩ := p.hd
    have : r = [] := List.eq_nil_of_length_eq_zero e
    subst this
    exact hf
  | succ l =>
    obtain ⟨u, y, rfl, _, hy, _⟩ := p.split
    rw [lastF_app]
    exact h.rng _ _ hy
theorem notin_i {K : PySem.W.Frag} {H : Hp} {Q : VK} {p : Addr} {k : Int} {ns : List Int} (h : H p = some (.lst (ns.map V.int))) (q : Q (.bl (!decide (k ∈ ns))) H) : uNotIn K (.int k) (.ref p) H Q := by
  refine notin_k (b := false) ⟨k, rfl⟩ (fun u hu => ?_) h ?_
  · obtain ⟨i, _, rfl⟩ := List.mem_map.mp hu
    exact ⟨i, rfl⟩
  · have e : decide (V.int k ∈ ns.map V.int) = decide (k ∈ ns) := by
      congr 1
      simp
    rw [e]
    exact q
theorem in_i {K : PySem.W.Frag} {H : Hp} {Q : VK} {p : Addr} {k : Int} {ns : List Int} (h : H p = some (.lst (ns.map V.int))) (q : Q (.bl (decide (k ∈ ns))) H) : uIn K (.int k) (.ref p) H Q := by
  refine .inl ⟨p, ns.map V.int, rfl, .inl (.of h), rfl, List.all_eq_true.mpr fun u hu => ?_, ?_⟩
  · obtain ⟨i, _, rfl⟩ := List.mem_map.mp hu
    rfl
  · rw [inV_k (b := false) ⟨k, rfl⟩ fun u hu => by
      obtain ⟨i, _, rfl⟩ := List.mem_map.mp hu
      exact ⟨i, rfl⟩]
    have e : decide (V.int k ∈ ns.map V.int) = decide (k ∈ ns) := by
      congr 1
      simp
    rw [e]
    exact q
/-- the lines of a form or of a list -/
structure Lns (g : Sg) (n : Nat) (rs : List Rule) : Prop where
  good : ∀ r ∈ rs, GoodR g r
  len : rs.length = n
  gL : g.L = n
  few : n ≤ 1000
theorem Lns.adj {g : Sg} {n : Nat} {rs : List Rule} (_ : Lns g n rs) : Adj (adjR n rs) n := ⟨fun a => (adjR_adj a).1, fun a => (adjR_adj a).2⟩
theorem rfPairs_snoc {adj : Int → List Int} {f : Int} {ways : List (List Int)} {i : Nat} {w : List Int} (h : ways[i]? = some w) : rfPairs adj f (ways.take (i + 1)) = rfPairs adj f (ways.take i) ++ (adj (lastF f w)).map fun y => (w, y) := by
  unfold rfPairs
  rw [List.take_add_one, h, List.flatMap_append]
  simp
theorem rfPairs_part {adj : Int → List Int} {f : Int} {ways : List (List Int)} {i j : Nat} {w : List Int} (h : ways[i]? = some w) : ∃ q, rfPairs adj f ways = (rfPairs adj f (ways.take i) ++ ((adj (lastF f w)).take j).map fun y => (w, y)) ++ q := by
  have hl := (List.getElem?_eq_some_iff.mp h).1
  refine ⟨((adj (lastF f w)).drop j).map (fun y => (w, y)) ++ rfPairs adj f (ways.drop (i + 1)), ?_⟩
  have e : rfPairs adj f ways = rfPairs adj f (ways.take (i + 1)) ++ rfPairs adj f (ways.drop (i + 1)) := by
    unfold rfPairs
    rw [← List.flatMap_append, List.take_append_drop]
  rw [e, rfPairs_snoc h, List.append_assoc, List.append_assoc, ← List.append_assoc (List.map _ _), ← List.map_append, List.take_append_drop]
section
variable {P : Program} {w : World} {K : PySem.W.Frag} {mg : Str → Option Value} {base : Heap}
abbrev s_ring_from : Stmt := topS 36
theorem sc_ring_from : FnScope ["lines", "first", "ways", "seen", "longer", "way", "line"] ["lines", "first"] (defScope s_ring_from) := ⟨rfl, rfl, rfl, by decide +kernel, rfl, by decide +kernel, by decide +kernel⟩
def sp_ring_from : Sp2 := fun a b H Q _ => ∃ (l : Addr) (vs : List V) (rs : List Rule) (g : Sg) (n : Nat) (f : Int), a = .ref l ∧ H l = some (.lst vs) ∧ AtAll H (rs.map Rule.d) vs ∧ Lns g n rs ∧ b = .int f ∧ (0 ≤ f ∧ f < n) ∧
  ∀ p H', Same H H' → H p = none → H' p = some (.lst ((rfAll (adjR n rs) n f).map V.int)) → Q (.ref p) H'
theorem ok_ring_from (M : Mg mg) (G_named : Has P w K mg base "named" ["rule", "word"] 2 (sp2 (sp_law_named 8))) (D : DefAt K mg "ring_from" s_ring_from ["lines", "first"]) : Has P w K mg base "ring_from" ["lines", "first"] 3 (sp2 sp_ring_from) := by
  refine .mk2 D sc_ring_from fun fa cdv A outer s H a b Q E hr h => ⟨_, (pss_cons (ps_set (i := 2) sc_ring_from.nd rfl (by first | exact Or.inl rfl | exact Or.inr rfl) (pe_lst (pa_cons (pe_lst (pa_cons (pv 1) pa_nil)) pa_nil)))
    (pss_cons (ps_set (i := 3) sc_ring_from.nd rfl (by first | exact Or.inl rfl | exact Or.inr rfl) (pe_lst pa_nil))
    (pss_cons (ps_while own_p (pt_cmpR (k_neE K rfl hr) (pv 2) (pe_lst pa_nil) (nomark _)) (pss_cons (ps_set (i := 4) sc_ring_from.nd rfl (by first | exact Or.inl rfl | exact Or.inr rfl) (pe_lst pa_nil))
    (pss_cons (ps_for own_p (by rfl) (k_pi K rfl (pv 2)) (pg_name (i := 5) sc_ring_from.nd rfl (by first | exact Or.inl rfl | exact Or.inr rfl)) (pss_one (ps_for own_p (by rfl) (k_pi K rfl (pe_own G_named (hr.mono (by first | decide | omega)) (by rfl) p_body (pa_cons (pe_ix (k_ix K rfl) (pv 0) (pe_ix (k_ix K rfl) (pv 5) (pe_un o_neg pe_int) (fun _ _ => rfl)) (fun _ _ => rfl)) (pa_cons pe_str pa_nil)))) (pg_name (i := 6) sc_ring_from.nd rfl (by first | exact Or.inl rfl | exact Or.inr rfl)) (pss_cons (ps_if (pt_cmpR (k_eq K rfl hr) (pv 6) (pv 1) (nomark _)) (pss_one (ps_ret (pv 5))) pss_nil)
    (pss_one (ps_if (PW.pt (pw_and (pt_cmpR o_gt (pv 6) (pv 1) (nomark _)) (pw_and1 (pt_cmpR (k_notin K rfl hr) (pv 6) (pv 3) (by rfl))))) (pss_cons (ps_expr (k_bm K rfl PySem.F.plainAttrs_list PySem.F.slot_list_append PySem.F.type_list_append mt_append (pv 3) (pa_cons (pv 6) pa_nil)))
    (pss_one (ps_expr (k_bm K rfl PySem.F.plainAttrs_list PySem.F.slot_list_append PySem.F.type_list_append mt_append (pv 4) (pa_cons (pe_op (k_add K rfl) (pv 5) (pe_lst (pa_cons (pv 6) pa_nil))) pa_nil))))) pss_nil))))))
    (pss_one (ps_set (i := 2) sc_ring_from.nd rfl (by first | exact Or.inl rfl | exact Or.inr rfl) (pv 4))))))
    (pss_one (ps_ret (pe_lst pa_nil)))))), ?_⟩
  obtain ⟨l, lv, rs, g, n, f, rfl, hl, hat, hL, rfl, hf, q⟩ := h
  have hadj := hL.adj
  refine Fl.go_start (σ0 := [some _, some _, none, none, none, none, none]) rfl ?_
  walk_at "s"
  rename_i w0 hw0 wa hwa sa hsa
  have n1 : w0 ≠ sa := fun z => by rw [← z, upd_ne (by rintro rfl; rw [upd_same] at hwa; cases hwa), upd_same] at hsa; cases hsa
  have n2 : wa ≠ sa := fun z => by rw [← z, upd_same] at hsa; cases hsa
  have n3 : w0 ≠ wa := fun z => by rw [← z, upd_same] at hwa; cases hwa
  have hw0' : (upd (upd (upd H w0 (.lst [.int f])) wa (.lst [.ref w0])) sa (.lst [])) w0 = some (.lst [.int f]) := by walk_at "hp"
  have fwa : H wa = none := L2.Same.free (Same.new (.refl _) hw0) hwa
  have fsa : H sa = none := L2.Same.free (Same.new (Same.new (.refl _) hw0) hwa) hsa
  refine while_go (fun m σ' H' => ∃ (wa sa : Addr) (vs : List V) (wss : List (List Int)) (seen : List Int) (k : Nat) (y4 y5 y6 : Option V), σ' = [some (.ref l), some (.int f), some (.ref wa), some (.ref sa), y4, y5, y6] ∧
    H' wa = some (.lst vs) ∧ LLs H H' [sa] wss vs ∧ H' sa = some (.lst (seen.map V.int)) ∧ H sa = none ∧ H wa = none ∧ wa ≠ sa ∧ Same H H' ∧ BI (adjR n rs) f k wss seen ∧ meas n wss seen ≤ m ∧ rf (adjR n rs) f m wss seen = rfAll (adjR n rs) n f) (n + 1)
    ⟨wa, sa, [.ref w0], [[f]], [], 0, none, none, none, rfl, by walk_at "hp", .one hw0 (by simpa using n1) hw0', upd_same, fsa, fwa, n2, by walk_at "sm", BI.start, by simp [meas], rfl⟩ ?_
  clear hw0' n1 n2 n3 fwa fsa hw0 hwa hsa
  rintro m σ' H1 ⟨wa, sa, vs, wss, seen, k, y4, y5, y6, rfl, hwa, hll, hsa, hsf, hwf, hne, sm, bi, hm, hres⟩
  walk_at "s"
  rename_i pe hpe
  have hll' : LLs H (upd H1 pe (.lst [])) [sa] wss vs := hll.mono fun p xs hp h => ⟨hp, Same.new (.refl _) hpe _ _ h⟩
  refine ne_e (by walk_at "hp") (by walk_at "hp") hll'.dp (lay_ll _) ?_
  have lvs := hll.length
  by_cases hv : wss = []
  · subst hv
    have ev : vs = [] := List.eq_nil_of_length_eq_zero (by simpa using lvs)
    subst ev
    walk_at "s"
    rename_i pr hpr
    rw [rf_nil] at hres
    exact q pr _ (by walk_at "sm") (by walk_at "fr") (by rw [← hres]; exact upd_same)
  have ev : vs.isEmpty = false := by
    cases vs with
    | nil => exact absurd (List.eq_nil_of_length_eq_zero (by simpa using lvs.symm)) hv
    | cons _ _ => rfl
  rw [ev]
  obtain ⟨m, rfl⟩ : ∃ m', m = m' + 1 := ⟨m - 1, by
    unfold meas at hm
    rw [if_neg hv] at hm
    omega⟩
  have kn : k < n := by
    have h1 := bi.cnt hv
    have h2 := range_len (n := n) (xs := f :: seen) (List.nodup_cons.mpr ⟨fun z => by have := (bi.up f z).1; omega, bi.nd⟩) fun x hx => by
      rcases List.mem_cons.mp hx with rfl | hx
      · exact hf
      obtain ⟨_, a, ha⟩ := bi.up x hx
      exact hadj.rng a x ha
    rw [List.length_cons] at h2
    omega
  have hn := hL.few
  walk_at "s"
  refine while_turn ?_
  walk_at "s"
  rename_i la hla
  have dla : la ≠ sa := fun z => by rw [z, upd_ne (ne_of_none hsa hpe), hsa] at hla; cases hla
  have dlw : la ≠ wa := fun z => by rw [z, upd_ne (ne_of_none hwa hpe), hwa] at hla; cases hla
  have fla : H la = none := L2.Same.free (Same.new sm hpe) hla
  have kp : ∀ p o, H1 p = some o → (upd (upd H1 pe (.lst [])) la (.lst [])) p = some o := fun p o h => Same.new (Same.new (.refl _) hpe) hla _ _ h
  refine for_lst (xs := vs) (fun i σ' H' => ∃ (st : List Int × List (List Int)) (us : List V) (y5 y6 : Option V), σ' = [some (.ref l), some (.int f), some (.ref wa), some (.ref sa), some (.ref la), y5, y6] ∧ foldE (rfStep f) (seen, []) (rfPairs (adjR n rs) f (wss.take i)) = .ok st ∧ H' wa = some (.lst vs) ∧
      LLs H H' [sa, la] wss vs ∧ H' sa = some (.lst (st.1.map V.int)) ∧ H' la = some (.lst us) ∧ LLs H H' [sa, la] st.2 us ∧ Same H H')
    (by walk_at "hp") ⟨(seen, []), [], _, _, rfl, by simp [rfPairs, foldE], by walk_at "hp", hll.mono fun p xs hp h => ⟨?_, kp _ _ h⟩, kp _ _ hsa, upd_same, rfl, by walk_at "sm"⟩ (fun i σ' H' _ ⟨_, _, _, _, _, _, e, _⟩ => e) ?_ ?_
  · simp only [List.mem_cons, List.not_mem_nil, or_false, not_or] at hp ⊢
    exact ⟨hp, fun z => by rw [z] at h; rw [upd_ne (ne_of_none h hpe), h] at hla; cases hla⟩
  · rintro i x σ' H3 ex ⟨st, us, y5', y6', rfl, hfe, hwa3, hll3, hsa3, hla3, hus3, sm3⟩
    obtain ⟨p, w, rfl, ew, hpf, hpS, hpw⟩ := hll3.ix ex
    have hw := bi.pth w (List.mem_of_getElem? ew)
    have hwn : w ≠ [] := by
      obtain ⟨r, e, _⟩ := hw.hd
      rw [e]
      simp
    obtain ⟨j0, j1⟩ := pth_last hadj hf hw
    obtain ⟨jn, ej⟩ : ∃ jn : Nat, lastF f w = jn := ⟨(lastF f w).toNat, by omega⟩
    have jl : jn < rs.length := by rw [hL.len]; omega
    obtain ⟨r, er⟩ : ∃ r, rs[jn]? = some r := ⟨rs[jn], List.getElem?_eq_getElem jl⟩
    obtain ⟨v0, ev0, hv0⟩ := hat.get (i := jn) (d := r.d) (by rw [List.getElem?_map, er]; rfl)
    have hl3 := sm3 _ _ hl
    have eadj : adjR n rs (lastF f w) = nameI "line" n r := by rw [ej]; exact adjR_at er
    walk_at "s"
    refine ex_v (atI_last (f := f) hwn) ?_
    rw [ej]
    walk_at "s"
    refine ex_v (atI_nat ev0) ?_
    walk_at "s"
    refine named_use (hL.good r (List.mem_of_getElem? er)) (hv0.le (Same.le sm3)) (.inl rfl) (n := n) (by simp [wordN]; exact hL.gL) fun nl H4 sm4 hnl enl => ?_
    rw [← eadj] at enl
    generalize hys : adjR n rs (lastF f w) = ys at *
    obtain ⟨hps, hpl⟩ := (show p ≠ sa ∧ p ≠ la by simpa using hpS)
    have fnl : H nl = none := L2.Same.free sm3 hnl
    have nls : nl ≠ sa := fun z => by rw [z, hsa3] at hnl; cases hnl
    have nll : nl ≠ la := fun z => by rw [z, hla3] at hnl; cases hnl
    have lw := hw.len
    refine for_lst (xs := ys.map V.int) (fun j σ' H' => ∃ (st : List Int × List (List Int)) (us : List V) (y6 : Option V), σ' = [some (.ref l), some (.int f), some (.ref wa), some (.ref sa), some (.ref la), some (.ref p), y6] ∧
        foldE (rfStep f) (seen, []) (rfPairs (adjR n rs) f (wss.take i) ++ (ys.take j).map fun y => (w, y)) = .ok st ∧ H' nl = some (.lst (ys.map V.int)) ∧ H' wa = some (.lst vs) ∧ LLs H H' [sa, la] wss vs ∧ H' sa = some (.lst (st.1.map V.int)) ∧ H' la = some (.lst us) ∧
        LLs H H' [sa, la] st.2 us ∧ Same H H' ∧ H' p = some (.lst (w.map V.int)))
      enl ⟨st, us, _, rfl, by simpa using hfe, enl, sm4 _ _ hwa3, hll3.mono fun p xs hp h => ⟨hp, sm4 _ _ h⟩, sm4 _ _ hsa3, sm4 _ _ hla3, hus3.mono fun p xs hp h => ⟨hp, sm4 _ _ h⟩, L2.Same.trans sm3 sm4, sm4 _ _ hpw⟩ (fun i σ' H' _ ⟨_, _, _, _, _, e, _⟩ => e) ?_ ?_
    · rintro j x σ' H5 ex2 ⟨st5, us5, y6'', rfl, hfe5, hnl5, hwa5, hll5, hsa5, hla5, hus5, sm5, hp5⟩
      obtain ⟨y, ey, rfl⟩ : ∃ y, ys[j]? = some y ∧ x = .int y := by
        rw [List.getElem?_map] at ex2
        cases e : ys[j]? with
        | none => rw [e] at ex2; cases ex2
        | some y => rw [e] at ex2; exact ⟨y, rfl, (Option.some.inj ex2).symm⟩
      obtain ⟨q1, eq1⟩ := rfPairs_part (adj := adjR n rs) (f := f) (j := j) ew
      rw [hys] at eq1
      obtain ⟨q2, eq2⟩ := rfPairs_part (adj := adjR n rs) (f := f) (j := j + 1) ew
      rw [hys] at eq2
      have esn : rfPairs (adjR n rs) f (wss.take i) ++ (ys.take (j + 1)).map (fun y => (w, y)) = (rfPairs (adjR n rs) f (wss.take i) ++ (ys.take j).map fun y => (w, y)) ++ [(w, y)] := by
        rw [← take_snoc ey, List.map_append, List.append_assoc]
        rfl
      have hst := foldE_snoc (x := (w, y)) hfe5
      rw [← esn] at hst
      obtain ⟨ln1, ln2⟩ := turn_len hadj.srt hadj.rng bi eq1 hfe5
      have lus := hus5.length
      rw [show rfStep f st5 (w, y) = if y = f then .error w else if f < y ∧ y ∉ st5.1 then .ok (st5.1 ++ [y], st5.2 ++ [w ++ [y]]) else .ok st5 from rfl] at hst
      walk_at "s"
      refine if_d (fun c => ?_) (fun c => ?_)
      · walk_at "s"
        rw [if_pos c] at hst
        have herr := foldE_err (q := q2) hst
        rw [← eq2] at herr
        refine q p H5 sm5 hpf ?_
        rw [← hres, rf, if_neg hv, herr]
        exact hp5
      rw [if_neg c] at hst
      walk_at "s"
      refine if_d (fun c2 => ?_) (fun c2 => ?_)
      · walk_at "s"
        refine notin_i hsa5 ?_
        by_cases c3 : y ∈ st5.1
        · rw [decide_eq_true c3]
          rw [if_neg fun z => z.2 c3] at hst
          walk_at "s"
          exact ⟨st5, us5, _, rfl, hst, hnl5, hwa5, hll5, hsa5, hla5, hus5, sm5, hp5⟩
        · rw [decide_eq_false c3]
          rw [if_pos ⟨c2, c3⟩] at hst
          walk_at "s"
          rename_i t1 ht1 t2 ht2
          have e1 : st5.1.map V.int ++ [V.int y] = (st5.1 ++ [y]).map V.int := by simp
          have e2 : w.map V.int ++ [V.int y] = (w ++ [y]).map V.int := by simp
          rw [e1] at ht1 ht2 ⊢
          rw [e2]
          have kp : ∀ p o, p ≠ sa → p ≠ la → H5 p = some o → (upd (upd (upd (upd H5 sa (.lst ((st5.1 ++ [y]).map V.int))) t1 (.lst [.int y])) t2 (.lst ((w ++ [y]).map V.int))) la (.lst (us5 ++ [.ref t2]))) p = some o := fun p o h1 h2 h => by walk_at "hp"
          have s5 : (upd H5 sa (.lst ((st5.1 ++ [y]).map V.int))) sa = some (.lst ((st5.1 ++ [y]).map V.int)) := upd_same
          have t2s : t2 ≠ sa := fun z => by rw [z, upd_ne (ne_of_none s5 ht1), s5] at ht2; cases ht2
          have l5 : (upd H5 sa (.lst ((st5.1 ++ [y]).map V.int))) la = some (.lst us5) := by rw [upd_ne dla]; exact hla5
          have t2l : t2 ≠ la := fun z => by rw [z, upd_ne (ne_of_none l5 ht1), l5] at ht2; cases ht2
          have t2f : H t2 = none := by
            have s6 : Same H (upd (upd H5 sa (.lst ((st5.1 ++ [y]).map V.int))) t1 (.lst [.int y])) := by walk_at "sm"
            exact L2.Same.free s6 ht2
          exact ⟨(st5.1 ++ [y], st5.2 ++ [w ++ [y]]), us5 ++ [.ref t2], _, rfl, hst, kp _ _ nls nll hnl5, kp _ _ hne dlw.symm hwa5, hll5.mono fun p xs hp h => ⟨hp, kp _ _ (by simp at hp; exact hp.1) (by simp at hp; exact hp.2) h⟩, by walk_at "hp", upd_same,
            (hus5.mono fun p xs hp h => ⟨hp, kp _ _ (by simp at hp; exact hp.1) (by simp at hp; exact hp.2) h⟩).append (.one t2f (by simp; exact ⟨t2s, t2l⟩) (by rw [upd_ne t2l, upd_same])), by walk_at "sm", kp _ _ hps hpl hp5⟩
      · walk_at "s"
        rw [if_neg fun z => c2 z.1] at hst
        exact ⟨st5, us5, _, rfl, hst, hnl5, hwa5, hll5, hsa5, hla5, hus5, sm5, hp5⟩
    · rintro σ' H5 ⟨st5, us5, y6'', rfl, hfe5, hnl5, hwa5, hll5, hsa5, hla5, hus5, sm5, hp5⟩
      rw [List.length_map, List.take_length] at hfe5
      refine ⟨st5, us5, _, _, rfl, ?_, hwa5, hll5, hsa5, hla5, hus5, sm5⟩
      rw [rfPairs_snoc ew, hys]
      exact hfe5
  · rintro σ' H3 ⟨st, us, y5', y6', rfl, hfe, hwa3, hll3, hsa3, hla3, hus3, sm3⟩
    rw [lvs, List.take_length] at hfe
    obtain ⟨bi', _⟩ := bi.next hadj.srt hv hfe
    walk_at "s"
    refine ⟨m, Nat.lt_succ_self _, la, sa, us, st.2, st.1, k + 1, _, _, _, rfl, hla3, hus3.mono fun p xs hp h => ⟨fun z => hp (by simp at z; simp [z]), h⟩, hsa3, hsf, fla, dla, sm3, bi', meas_next hadj hf bi hv hfe hm, ?_⟩
    rw [← hres, rf, if_neg hv, hfe]
end
end Fl

-- after: fo1.tpl lawtab.tpl rg.tpl
namespace Fl
open PySem PySem.Spec PyProof.Rows L2 RZ
/-! ### the form that is drawn -/
theorem Rule.ok_sub {g g' : Sg} (hL : g'.L = g.L) (hT : g'.T = g.T) (hC : g'.C = g.C) (hs : ∀ k ∈ g.seen, k ∈ g'.seen) (hp : ∀ s ∈ g.pool, s ∈ g'.pool) : ∀ {n : Nat} {r : Rule}, r.ok g n → r.ok g' n
  | 0, _, h => h.elim
  | _ + 1, .num _, h => h
  | _ + 1, .paper _, h => hp _ h
  | _ + 1, .line _, h => hs _ h
  | _ + 1, .earl _, h => ⟨h.1, by rw [hL]; exact h.2⟩
  | _ + 1, .two _ _ _, h => ⟨h.1, ok_sub hL hT hC hs hp h.2.1, ok_sub hL hT hC hs hp h.2.2⟩
  | _ + 1, .part _ _, h => ⟨h.1, ok_sub hL hT hC hs hp h.2⟩
  | _ + 1, .table _ _, h => ⟨⟨h.1.1, by rw [hT]; exact h.1.2⟩, ok_sub hL hT hC hs hp h.2⟩
  | _ + 1, .wher _ _ _, h => ⟨ok_sub hL hT hC hs hp h.1, ok_sub hL hT hC hs hp h.2.1, ok_sub hL hT hC hs hp h.2.2⟩
  | _ + 1, .choo _ _ _, h => ⟨⟨h.1.1, by rw [hC]; exact h.1.2⟩, ok_sub hL hT hC hs hp h.2.1, ok_sub hL hT hC hs hp h.2.2⟩
theorem Rule.ok_lines {g : Sg} : ∀ {n : Nat} {r : Rule}, r.ok g n → ∀ k ∈ r.lines, k ∈ g.seen
  | 0, _, h, _, _ => h.elim
  | _ + 1, .num _, _, _, hk => by cases hk
  | _ + 1, .paper _, _, _, hk => by cases hk
  | _ + 1, .line _, h, k, hk => by rw [List.mem_singleton.mp hk]; exact h
  | _ + 1, .earl _, _, _, hk => by cases hk
  | _ + 1, .two _ _ _, h, k, hk => (List.mem_append.mp hk).elim (ok_lines h.2.1 k) (ok_lines h.2.2 k)
  | _ + 1, .part _ _, h, k, hk => ok_lines (r := _) h.2 k hk
  | _ + 1, .table _ _, h, k, hk => ok_lines (r := _) h.2 k hk
  | _ + 1, .wher _ _ _, h, k, hk => (List.mem_append.mp hk).elim (fun z => (List.mem_append.mp z).elim (ok_lines h.1 k) (ok_lines h.2.1 k)) (ok_lines h.2.2 k)
  | _ + 1, .choo _ _ _, h, k, hk => (List.mem_append.mp hk).elim (ok_lines h.2.1 k) (ok_lines h.2.2 k)
structure Frm where
  rs : List Rule
  tbs : List (List (Int × Int × Int))
  C : Nat
  owed : Nat
  ws : List Str
def tbD (rows : List (Int × Int × Int)) : PyData := .tuple (rows.map isRowT)
def Frm.g (F : Frm) : Sg := ⟨F.rs.length, F.tbs.length, F.C, rangeI F.rs.length, F.ws ++ [("a" : Str)]⟩
structure Frm.Ok (F : Frm) (most : Nat) : Prop where
  good : ∀ r ∈ F.rs, r.ok F.g 8
  acy : Acy F.rs
  n1 : 1 ≤ F.rs.length
  n2 : F.rs.length ≤ most
  t5 : F.tbs.length ≤ 5
  c8 : F.C ≤ 8
  ow : F.owed < F.rs.length
  tb : ∀ t ∈ F.tbs, Drawn t
  w1 : 1 ≤ F.ws.length
  w8 : F.ws.length ≤ 8
  wd : ∀ s ∈ F.ws, WdT s
theorem wdt_a : WdT "a" := ⟨⟨by decide +kernel, by decide +kernel⟩, by decide +kernel⟩
theorem Frm.Ok.pool {F : Frm} {m : Nat} (h : F.Ok m) : ∀ s ∈ F.g.pool, WdT s := fun s hs => (List.mem_append.mp hs).elim (h.wd s) fun z => by rw [List.mem_singleton.mp z]; exact wdt_a
theorem Frm.Ok.goodR {F : Frm} {m : Nat} (h : F.Ok m) : ∀ r ∈ F.rs, GoodR F.g r := fun r hr =>
  ⟨h.good r hr, ⟨fun w hw => (h.pool w hw).word, fun k hk => mem_rangeI.mp hk⟩, h.pool, by show (F.ws ++ [("a" : Str)]).length ≤ 40; have := h.w8; simp; omega⟩
theorem Frm.Ok.lns {F : Frm} {m : Nat} (h : F.Ok m) (m40 : m ≤ 1000) : Lns F.g F.rs.length F.rs := ⟨h.goodR, rfl, rfl, by have := h.n2; omega⟩
/-- the parts of a form, as a list -/
def Parts (H0 H : Hp) (p : Addr) (F : Frm) : Prop := ∃ (L Tb W : Addr) (vs ts : List V), H p = some (.lst [.ref L, .ref Tb, .int F.C, .int F.owed, .ref W]) ∧ H L = some (.lst vs) ∧ AtAll H (F.rs.map Rule.d) vs ∧
  H Tb = some (.lst ts) ∧ AtAll H (F.tbs.map tbD) ts ∧ H W = some (.lst (F.ws.map V.str)) ∧ (L ≠ Tb ∧ L ≠ W ∧ L ≠ p) ∧ H0 L = none ∧ H0 p = none
theorem AtAll.set {H : Hp} : ∀ {ds : List PyData} {vs : List V} {j : Nat} {d : PyData} {v : V}, AtAll H ds vs → At H d v → AtAll H (ds.set j d) (vs.set j v)
  | [], _, j, _, _, h, _ => by rw [show _ = _ from h]; simp; exact rfl
  | _ :: _, _, 0, _, _, ⟨u, r, q, h, t⟩, a => by subst q; exact ⟨_, r, rfl, a, t⟩
  | _ :: _, _, j + 1, _, _, ⟨u, r, q, h, t⟩, a => by subst q; exact ⟨u, _, rfl, h, t.set (j := j) a⟩
theorem ixN_nat {n j : Nat} (h : j < n) : ixN n (j : Int) = some j := by
  unfold ixN
  simp
  omega
theorem tbs_tupO (tbs : List (List (Int × Int × Int))) : tupsOnly (tbs.map tbD) = true := tupsOnly_all fun d hd => by
  obtain ⟨t, _, rfl⟩ := List.mem_map.mp hd
  exact isRowT_tup t
theorem rep_flat {x : V} : ∀ n : Nat, (List.replicate n [x]).flatten = List.replicate n x
  | 0 => rfl
  | n + 1 => by rw [List.replicate_succ, List.flatten_cons, rep_flat n]; rfl
theorem atAll_rep {H : Hp} {d : PyData} {v : V} (h : At H d v) : ∀ n : Nat, AtAll H (List.replicate n d) (List.replicate n v)
  | 0 => rfl
  | n + 1 => ⟨v, _, rfl, h, atAll_rep h n⟩
section
variable {P : Program} {w : World} {K : PySem.W.Frag} {mg : Str → Option Value} {base : Heap}
abbrev s__law_form : Stmt := topS 63
theorem sc__law_form : FnScope ["_law_script", "_law_most", "_law_state", "_law_sizes_here", "_law_words_here", "_law_lines", "_law_seen", "_law_line", "_law_deep", "_law_tables", "_law_k"] ["_law_script", "_law_most"] (defScope s__law_form) := ⟨rfl, rfl, rfl, by decide +kernel, rfl, by decide +kernel, by decide +kernel⟩
def sp_form (K : PySem.W.Frag) : Sp2 := fun a b H Q _ => ∃ (sc : Addr) (ns : List Int) (most : Nat), a = .ref sc ∧ Scr K H sc ns ∧ b = .int most ∧ (7 ≤ most ∧ most ≤ 40) ∧ ∀ (F : Frm) p H', F.Ok most → Same H H' → Parts H H' p F → Q (.ref p) H'
theorem ok_form (M : Mg mg) (G__law_cell_at : Has P w K mg base "_law_cell_at" ["_law_script", "_law_k"] 1 (sp2 (sp_cell_at K))) (G__law_mixed : Has P w K mg base "_law_mixed" ["_law_cell", "_law_k"] 1 (sp2 sp_mixed)) (G__law_next : Has P w K mg base "_law_next" ["_law_state", "_law_size"] 1 (sp2 sp_next))
    (G__law_sizes : Has P w K mg base "_law_sizes" ["_law_cell", "_law_most"] 1 (sp2 sp_sizes)) (G__law_words : Has P w K mg base "_law_words" ["_law_state"] 2 (sp1 sp_words)) (G__law_order : Has P w K mg base "_law_order" ["_law_state", "_law_many"] 2 (sp2 sp_order))
    (G__law_rule : Has P w K mg base "_law_rule" ["_law_state", "_law_deep", "_law_seen", "_law_sizes_here", "_law_words_here"] 11 (sp5 (sp_rule 8))) (G__law_table : Has P w K mg base "_law_table" ["_law_state"] 3 (sp1 sp_law_table)) (D : DefAt K mg "_law_form" s__law_form ["_law_script", "_law_most"]) :
    Has P w K mg base "_law_form" ["_law_script", "_law_most"] 12 (sp2 (sp_form K)) := by
  refine .mk2 D sc__law_form fun fa cdv A outer s0 H a b Q E hr h => ⟨_, (pss_cons (ps_set (i := 2) sc__law_form.nd rfl (by first | exact Or.inl rfl | exact Or.inr rfl) (pe_lst (pa_cons (pe_own G__law_mixed (hr.mono (by first | decide | omega)) (by rfl) p_body (pa_cons (pe_own G__law_cell_at (hr.mono (by first | decide | omega)) (by rfl) p_body (pa_cons (pv 0) (pa_cons pe_int pa_nil))) (pa_cons pe_int pa_nil))) pa_nil)))
    (pss_cons (ps_set (i := 3) sc__law_form.nd rfl (by first | exact Or.inl rfl | exact Or.inr rfl) (pe_own G__law_sizes (hr.mono (by first | decide | omega)) (by rfl) p_body (pa_cons (pe_own G__law_mixed (hr.mono (by first | decide | omega)) (by rfl) p_body (pa_cons (pe_own G__law_cell_at (hr.mono (by first | decide | omega)) (by rfl) p_body (pa_cons (pv 0) (pa_cons pe_int pa_nil))) (pa_cons pe_int pa_nil))) (pa_cons (pv 1) pa_nil))))
    (pss_cons (ps_set (i := 4) sc__law_form.nd rfl (by first | exact Or.inl rfl | exact Or.inr rfl) (pe_own G__law_words (hr.mono (by first | decide | omega)) (by rfl) p_body (pa_cons (pv 2) pa_nil)))
    (pss_cons (ps_set (i := 5) sc__law_form.nd rfl (by first | exact Or.inl rfl | exact Or.inr rfl) (pe_op o_mul (pe_lst (pa_cons (pe_tup (pa_cons pe_str (pa_cons pe_int pa_nil))) pa_nil)) (pe_ix (k_ix K rfl) (pv 3) pe_int (fun _ _ => rfl))))
    (pss_cons (ps_set (i := 6) sc__law_form.nd rfl (by first | exact Or.inl rfl | exact Or.inr rfl) (pe_lst pa_nil))
    (pss_cons (ps_for own_p (by rfl) (k_pi K rfl (pe_own G__law_order (hr.mono (by first | decide | omega)) (by rfl) p_body (pa_cons (pv 2) (pa_cons (pe_ix (k_ix K rfl) (pv 3) pe_int (fun _ _ => rfl)) pa_nil)))) (pg_name (i := 7) sc__law_form.nd rfl (by first | exact Or.inl rfl | exact Or.inr rfl)) (pss_cons (ps_set (i := 8) sc__law_form.nd rfl (by first | exact Or.inl rfl | exact Or.inr rfl) (pe_op (k_add K rfl) pe_int (pe_own G__law_next (hr.mono (by first | decide | omega)) (by rfl) p_body (pa_cons (pv 2) (pa_cons pe_int pa_nil)))))
    (pss_meet (ps_if (pt_cmpR (k_eq K rfl hr) (pe_own G__law_next (hr.mono (by first | decide | omega)) (by rfl) p_body (pa_cons (pv 2) (pa_cons pe_int pa_nil))) pe_int (nomark _)) (pss_one (ps_set (i := 8) sc__law_form.nd rfl (by first | exact Or.inl rfl | exact Or.inr rfl) (pe_op (k_add K rfl) pe_int (pe_own G__law_next (hr.mono (by first | decide | omega)) (by rfl) p_body (pa_cons (pv 2) (pa_cons pe_int pa_nil)))))) pss_nil)
    (pss_cons (ps_asg (pe_own G__law_rule (hr.mono (by first | decide | omega)) (by rfl) p_body (pa_cons (pv 2) (pa_cons (pv 8) (pa_cons (pe_callTy (k_list K rfl) (by rfl) M.list (by decide +kernel) (pa_cons (pv 6) pa_nil)) (pa_cons (pv 3) (pa_cons (pv 4) pa_nil)))))) (pg_sub (pv 5) (pv 7) set_list))
    (pss_one (ps_expr (k_bm K rfl PySem.F.plainAttrs_list PySem.F.slot_list_append PySem.F.type_list_append mt_append (pv 6) (pa_cons (pv 7) pa_nil))))))))
    (pss_cons (ps_setLc (i := 9) (own := [("_law_k", 10)]) (g := gName 10) (by rfl) sc__law_form.nd rfl rfl (sw_true rfl rfl rfl (by decide +kernel)) (pi_range1 (by rfl) M.range (pa_cons (pe_ix (k_ix K rfl) (pv 3) pe_int (fun _ _ => rfl)) pa_nil)) (blkOk_by (N := ["_law_script", "_law_most", "_law_state", "_law_sizes_here", "_law_words_here", "_law_lines", "_law_seen", "_law_line", "_law_deep", "_law_tables", "_law_k"]) (sc := (defScope s__law_form)) (own := [("_law_k", 10)]) (by decide +kernel)) (fun _ _ _ _ _ => (pg_name (i := 10) sc__law_form.nd rfl (by first | exact Or.inl rfl | exact Or.inr rfl))) (fun _ _ _ _ _ => pts_nil) (fun _ _ _ _ _ => (pe_own G__law_table (hr.mono (by first | decide | omega)) (by rfl) passL (pa_cons (pv 2) pa_nil))))
    (pss_one (ps_ret (pe_lst (pa_cons (pv 5) (pa_cons (pv 9) (pa_cons (pe_ix (k_ix K rfl) (pv 3) pe_int (fun _ _ => rfl)) (pa_cons (pe_own G__law_next (hr.mono (by first | decide | omega)) (by rfl) p_body (pa_cons (pv 2) (pa_cons (pe_ix (k_ix K rfl) (pv 3) pe_int (fun _ _ => rfl)) pa_nil))) (pa_cons (pv 4) pa_nil))))))))))))))), ?_⟩
  obtain ⟨sc, scn, most, rfl, hS, rfl, ⟨m7, m40⟩, q⟩ := h
  refine Fl.go_start (σ0 := [some _, some _, none, none, none, none, none, none, none, none, none]) rfl ?_
  walk_at "s"
  rename_i za zb zbl zbh st hst zc cell c0 c1
  refine ⟨cell, most, rfl, rfl, c0, ⟨m7, m40⟩, fun n T C z H1 so sm1 hz => ?_⟩
  have hst1 : H1 st = some (.lst [.int zb]) := sm1 _ _ upd_same
  have sm01 : Same H H1 := by walk_at "sm"
  walk_at "s"
  refine ⟨st, zb, rfl, hst1, fun W H2 ws gs2 hW hWf w1 w8 ow => ?_⟩
  obtain ⟨x2, hx2⟩ := gs2.st
  have hzs : z ≠ st := fun e => by rw [e, hst1] at hz; cases hz
  have hz2 := gs2.keep _ _ hzs hz
  have hWs : W ≠ st := fun e => by rw [e, hst1] at hWf; cases hWf
  have sm02 : Same H H2 := fun b u hb => gs2.keep _ _ (fun e => by rw [e, hst] at hb; cases hb) (sm01 _ _ hb)
  have n1 := so.n1
  have n2 := so.n2
  have t5 := so.t
  have c8 := so.c
  walk_at "s"
  rename_i p0 hp0 l1 hl1 L hL S hSS
  rw [Int.toNat_natCast, rep_flat] at *
  have hLs : L ≠ st := by
    have h1 : (upd (upd H2 p0 (.tup [.str "number", .int 0])) l1 (.lst [.ref p0])) st = some (.lst [.int x2]) := by walk_at "hp"
    exact fun e => by rw [e, h1] at hL; cases hL
  have hSs : S ≠ st := by
    have h1 : (upd (upd (upd H2 p0 (.tup [.str "number", .int 0])) l1 (.lst [.ref p0])) L (.lst (List.replicate n (.ref p0)))) st = some (.lst [.int x2]) := by walk_at "hp"
    exact fun e => by rw [e, h1] at hSS; cases hSS
  have hSL : S ≠ L := fun e => by rw [e, upd_same] at hSS; cases hSS
  have hLW : L ≠ W := by
    have h1 : (upd (upd H2 p0 (.tup [.str "number", .int 0])) l1 (.lst [.ref p0])) W = some (.lst (ws.map V.str)) := by walk_at "hp"
    exact fun e => by rw [e, h1] at hL; cases hL
  have hSW : S ≠ W := by
    have h1 : (upd (upd (upd H2 p0 (.tup [.str "number", .int 0])) l1 (.lst [.ref p0])) L (.lst (List.replicate n (.ref p0)))) W = some (.lst (ws.map V.str)) := by walk_at "hp"
    exact fun e => by rw [e, h1] at hSS; cases hSS
  have sm3 : Same H (upd (upd (upd (upd H2 p0 (.tup [.str "number", .int 0])) l1 (.lst [.ref p0])) L (.lst (List.replicate n (.ref p0)))) S (.lst [])) := by walk_at "sm"
  have fL : H L = none := by
    have h1 : Same H (upd (upd H2 p0 (.tup [.str "number", .int 0])) l1 (.lst [.ref p0])) := by walk_at "sm"
    exact L2.Same.free h1 hL
  have fS : H S = none := by
    have h1 : Same H (upd (upd (upd H2 p0 (.tup [.str "number", .int 0])) l1 (.lst [.ref p0])) L (.lst (List.replicate n (.ref p0)))) := by walk_at "sm"
    exact L2.Same.free h1 hSS
  have f3 : (upd (upd (upd (upd H2 p0 (.tup [.str "number", .int 0])) l1 (.lst [.ref p0])) L (.lst (List.replicate n (.ref p0)))) S (.lst [])) st = some (.lst [.int x2]) := by walk_at "hp"
  have z3 : (upd (upd (upd (upd H2 p0 (.tup [.str "number", .int 0])) l1 (.lst [.ref p0])) L (.lst (List.replicate n (.ref p0)))) S (.lst [])) z = some (.tup [.int n, .int T, .int C]) := by walk_at "hp"
  have w3 : (upd (upd (upd (upd H2 p0 (.tup [.str "number", .int 0])) l1 (.lst [.ref p0])) L (.lst (List.replicate n (.ref p0)))) S (.lst [])) W = some (.lst (ws.map V.str)) := by walk_at "hp"
  have L3 : (upd (upd (upd (upd H2 p0 (.tup [.str "number", .int 0])) l1 (.lst [.ref p0])) L (.lst (List.replicate n (.ref p0)))) S (.lst [])) L = some (.lst (List.replicate n (.ref p0))) := by walk_at "hp"
  have S3 : (upd (upd (upd (upd H2 p0 (.tup [.str "number", .int 0])) l1 (.lst [.ref p0])) L (.lst (List.replicate n (.ref p0)))) S (.lst [])) S = some (.lst []) := upd_same
  have A3 : At (upd (upd (upd (upd H2 p0 (.tup [.str "number", .int 0])) l1 (.lst [.ref p0])) L (.lst (List.replicate n (.ref p0)))) S (.lst [])) (Rule.num 0).d (.ref p0) :=
    (show At _ (.tuple [.str "number", .int 0]) _ by walk_at "at2")
  clear hSS hL hl1 hp0
  generalize upd (upd (upd (upd H2 p0 (.tup [.str "number", .int 0])) l1 (.lst [.ref p0])) L (.lst (List.replicate n (.ref p0)))) S (.lst []) = H3 at *
  clear hz2 hx2 sm02 sm01 hst1 hS
  refine ⟨st, x2, n, rfl, f3, rfl, by omega, fun ord o H4 gs4 hof ho pm => ?_⟩
  have plen := pm.length_eq
  rw [rangeI_len] at plen
  have ond : ord.Nodup := pm.nodup_iff.mpr (rangeI_nodup n)
  have orng : ∀ k ∈ ord, 0 ≤ k ∧ k < n := fun k hk => mem_rangeI.mp (pm.mem_iff.mp hk)
  have hos : o ≠ st := fun e => by rw [e, f3] at hof; cases hof
  have hoL : o ≠ L := fun e => by rw [e, L3] at hof; cases hof
  have hoS : o ≠ S := fun e => by rw [e, S3] at hof; cases hof
  obtain ⟨g, hg⟩ : ∃ g : Sg, g = ⟨n, T, C, rangeI n, ws⟩ := ⟨_, rfl⟩
  have hzL : z ≠ L := fun e => by rw [e, L3] at z3; cases z3
  have hzS : z ≠ S := fun e => by rw [e, S3] at z3; cases z3
  have z4 := gs4.keep _ _ hzs z3
  have w4 := gs4.keep _ _ hWs w3
  refine for_lst (fun i σ' H' => ∃ (rs : List Rule) (vs : List V) (y7 y8 : Option V), σ' = [some (.ref sc), some (.int most), some (.ref st), some (.ref z), some (.ref W), some (.ref L), some (.ref S), y7, y8, none, none] ∧ H' L = some (.lst vs) ∧ AtAll H' (rs.map Rule.d) vs ∧ rs.length = n ∧ (∀ r ∈ rs, r.ok g 8) ∧
      (∀ j k r, j < i → ord[j]? = some k → rs[k.toNat]? = some r → r.ok { g with seen := ord.take j } 8) ∧ H' S = some (.lst ((ord.take i).map V.int)) ∧ (∃ x, H' st = some (.lst [.int x])) ∧ (∀ b u, b ≠ st → b ≠ L → b ≠ S → H4 b = some u → H' b = some u) ∧ Same H H')
    ho ⟨List.replicate n (.num 0), List.replicate n (.ref p0), none, none, rfl, gs4.keep _ _ hLs L3, ?_, by simp, fun r hr => ?_, fun j k r hj => by omega, gs4.keep _ _ hSs S3, gs4.st, fun b u _ _ _ h => h, ?_⟩ (fun i σ' H' _ ⟨_, _, _, _, _, _, _, _, _, _, _, _, kp, _⟩ => kp _ _ hos hoL hoS ho) ?_ ?_
  · rw [List.map_replicate]
    exact (atAll_rep A3 n).le (gs4.le f3)
  · rw [List.eq_of_mem_replicate hr]
    exact ⟨by decide, by decide⟩
  · exact fun b u hb => gs4.keep _ _ (fun e => by rw [e, hst] at hb; cases hb) (sm3 _ _ hb)
  · rintro i x σ' H5 ex ⟨rs, vs, y7, y8, rfl, hL5, ha5, lr, hok, hseen, hS5, ⟨x5, hx5⟩, kp, sm5⟩
    obtain ⟨k, ek, rfl⟩ : ∃ k, ord[i]? = some k ∧ x = .int k := by
      rw [List.getElem?_map] at ex
      cases e : ord[i]? with
      | none => rw [e] at ex; cases ex
      | some y => rw [e] at ex; exact ⟨y, rfl, (Option.some.inj ex).symm⟩
    have kr := orng k (List.mem_of_getElem? ek)
    obtain ⟨kn, rfl⟩ : ∃ kn : Nat, k = kn := ⟨k.toNat, by omega⟩
    have il := (List.getElem?_eq_some_iff.mp ek).1
    have lv := ha5.length
    rw [List.length_map, lr] at lv
    have z5 := kp _ _ hzs hzL hzS z4
    have w5 := kp _ _ hWs hLW.symm hSW.symm w4
    walk_at "s"
    refine meet (fun σ' H' => ∃ deep : Int, σ' = [some (.ref sc), some (.int most), some (.ref st), some (.ref z), some (.ref W), some (.ref L), some (.ref S), some (.int kn), some (.int deep), none, none] ∧ (1 ≤ deep ∧ deep ≤ 8) ∧ Gs st H5 H') ?_ ?_
    · walk_at "s"
      refine if_d (fun c => ?_) (fun c => ?_)
      · walk_at "s"
        exact ⟨_, rfl, ⟨by omega, by omega⟩, by walk_at "gs"⟩
      · walk_at "s"
        exact ⟨_, rfl, ⟨by omega, by omega⟩, by walk_at "gs"⟩
    rintro σ' H6 ⟨deep, rfl, hdeep, gs6⟩
    obtain ⟨x6, hx6⟩ := gs6.st
    have L6 := gs6.keep _ _ hLs hL5
    have S6 := gs6.keep _ _ hSs hS5
    have z6 := gs6.keep _ _ hzs z5
    have w6 := gs6.keep _ _ hWs w5
    have a6 := ha5.le (gs6.le hx5)
    walk_at "s"
    rename_i qa hqa
    have hqs : qa ≠ st := fun e => by rw [e, hx6] at hqa; cases hqa
    refine ⟨{ g with seen := ord.take i }, ⟨⟨x6, by walk_at "hp"⟩, upd_same, hqs, by rw [hg]; walk_at "hp", by rw [hg]; walk_at "hp", hWs, by rw [hg]; exact w1, by rw [hg]; show ws.length ≤ 1000; omega, by show (ord.take i).length ≤ 1000; rw [List.length_take]; omega, by rw [hg]; show (1 : Int) ≤ n; omega⟩, ⟨by omega, by omega⟩, fun r v H7 gs7 ⟨ro, ra⟩ => ?_⟩
    have ro8 : r.ok { g with seen := ord.take i } 8 := Rule.ok_mono (by omega) ro
    have gs67 : Gs st H6 H7 := (show Gs st H6 (upd H6 qa (.lst ((ord.take i).map V.int))) by walk_at "gs").trans gs7
    have L7 := gs67.keep _ _ hLs L6
    have S7 := gs67.keep _ _ hSs S6
    obtain ⟨x7, hx7⟩ := gs67.st
    have a7 := a6.le (gs67.le hx6)
    walk_at "s"
    refine ex_j (ixN_nat (n := vs.length) (j := kn) (by omega)) ?_
    walk_at "s"
    have lt7 : LeT H7 (upd (upd H7 L (.lst (vs.set kn v))) S (.lst ((ord.take i).map V.int ++ [V.int kn]))) := LeT.put1 (by rw [upd_ne hSL]; exact S7) (LeT.put1 L7 (.refl _))
    refine ⟨rs.set kn r, vs.set kn v, _, _, rfl, by walk_at "hp", ?_, by rw [List.length_set]; exact lr, fun r' hr' => ?_, fun j k' r' hj ej er => ?_, ?_, ⟨x7, by walk_at "hp"⟩, fun b u h1 h2 h3 h => ?_, ?_⟩
    · rw [List.map_set]
      exact (a7.leT lt7 (rules_tupO rs)).set (ra.leT lt7 r.tupO)
    · rcases List.mem_or_eq_of_mem_set hr' with z | z
      · exact hok r' z
      · rw [z]
        exact Rule.ok_sub (g := { g with seen := ord.take i }) (g' := g) rfl rfl rfl (fun k hk => by rw [hg]; show k ∈ rangeI n; exact pm.mem_iff.mp (List.mem_of_mem_take hk)) (fun s hs => hs) ro8
    · have k'r := orng k' (List.mem_of_getElem? ej)
      obtain ⟨kk, rfl⟩ : ∃ kk : Nat, k' = kk := ⟨k'.toNat, by omega⟩
      rw [Int.toNat_natCast] at er
      rcases Nat.lt_or_eq_of_le (show j ≤ i by omega) with c | c
      · have ne : kn ≠ kk := fun e => by
          subst e
          have h1 := pos_get ond ek
          have h2 := pos_get ond ej
          omega
        rw [List.getElem?_set_ne ne] at er
        exact hseen j kk r' c ej (by rw [Int.toNat_natCast]; exact er)
      · subst c
        rw [ek] at ej
        have e : kn = kk := by
          have := Option.some.inj ej
          omega
        subst e
        rw [List.getElem?_set_self (by omega)] at er
        rw [← Option.some.inj er]
        exact ro8
    · rw [upd_same, ← take_snoc ek, List.map_append]
      rfl
    · have h5 := kp b u h1 h2 h3 h
      have h7 := gs67.keep _ _ h1 (gs6.keep _ _ h1 h5)
      walk_at "hp"
    · refine Same.mut (Same.mut ?_ fL) fS
      exact fun b u hb => gs67.keep _ _ (fun e => by rw [e, hst] at hb; cases hb) (gs6.keep _ _ (fun e => by rw [e, hst] at hb; cases hb) (sm5 _ _ hb))
  · rintro σ' H5 ⟨rs, vs, y7, y8, rfl, hL5, ha5, lr, hok, hseen, hS5, ⟨x5, hx5⟩, kp, sm5⟩
    rw [List.length_map] at hseen hS5
    have z5 := kp _ _ hzs hzL hzS z4
    have w5 := kp _ _ hWs hLW.symm hSW.symm w4
    walk_at "s"
    refine lc_rng (fun D i H' => ∃ (tbs : List (List (Int × Int × Int))) (acc : List V), H' D = some (.lst acc) ∧ AtAll H' (tbs.map tbD) acc ∧ tbs.length = i ∧ (∀ t ∈ tbs, Drawn t) ∧ Gs st H5 H') (fun D hD => ⟨[], [], upd_same, rfl, rfl, by simp, (Gs.refl hx5).new hD⟩) (fun D i H' hD hi ⟨tbs, acc, hacc, ha, lt, ho, gs⟩ => ?_) (fun Tb H6 hTb ⟨tbs, acc, hacc, ha, lt, ho, gs⟩ => ?_)
    · have := so.t
      obtain ⟨x', hx'⟩ := gs.st
      have hDs : D ≠ st := fun e => by rw [e, hx5] at hD; cases hD
      have la := ha.length
      rw [List.length_map] at la
      refine ⟨rfl, ?_⟩
      walk_at "s"
      rename_i rows v H7 gs7 wz wy hwy
      obtain ⟨dr, av⟩ := wz
      have hD7 := gs7.keep _ _ hDs hacc
      have ha7 := ha.le (gs7.le hx')
      have ltt : LeT H7 (upd H7 D (.lst (acc ++ [v]))) := LeT.put1 hD7 (.refl _)
      refine ⟨tbs ++ [rows], acc ++ [v], upd_same, ?_, by simp [lt], fun t ht => ?_, (gs.trans gs7).mut hD hDs.symm⟩
      · rw [List.map_append]
        exact (ha7.leT ltt (tbs_tupO tbs)).append (.one (av.leT ltt (isRowT_tup rows)))
      · exact (List.mem_append.mp ht).elim (ho t) fun z => by rw [List.mem_singleton.mp z]; exact dr
    have hTst : Tb ≠ st := fun e => by rw [e, hx5] at hTb; cases hTb
    have hTL : L ≠ Tb := fun e => by rw [← e, hL5] at hTb; cases hTb
    obtain ⟨x6, hx6⟩ := gs.st
    have L6 := gs.keep _ _ hLs hL5
    have z6 := gs.keep _ _ hzs z5
    have w6 := gs.keep _ _ hWs w5
    have a6 := ha5.le (gs.le hx5)
    walk_at "s"
    rename_i yo ro ro0 ro1 p hp
    have lT : tbs.length = T := by omega
    have fp : H p = none := by
      have h1 : Same H (upd H6 st (.lst [.int yo])) := fun b u hb => by
        have ne : b ≠ st := fun e => by rw [e, hst] at hb; cases hb
        rw [upd_ne ne]
        exact gs.keep _ _ ne (sm5 _ _ hb)
      exact L2.Same.free h1 hp
    have hLp : L ≠ p := fun e => by
      rw [← e, upd_ne hLs, L6] at hp
      cases hp
    refine q ⟨rs, tbs, C, ro.toNat, ws⟩ p _ ⟨fun r hr => ?_, ?_, by show 1 ≤ rs.length; omega, by show rs.length ≤ most; omega, by show tbs.length ≤ 5; have := so.t; omega, so.c, by show ro.toNat < rs.length; omega, ho, w1, w8, ow⟩ ?_
      ⟨L, Tb, W, vs, acc, by rw [upd_same]; show some (HO.lst [_, _, _, V.int ro, _]) = some (HO.lst [_, _, _, V.int (ro.toNat : Int), _]); rw [Int.toNat_of_nonneg ro0], by walk_at "hp", a6.le (by walk_at "le"), by walk_at "hp", ha.le (by walk_at "le"), by walk_at "hp", ⟨hTL, hLW, hLp⟩, fL, fp⟩
    · refine Rule.ok_sub (g := g) (g' := Frm.g ⟨rs, tbs, C, ro.toNat, ws⟩) ?_ ?_ ?_ (fun k hk => ?_) (fun s hs => ?_) (hok r hr)
      · rw [hg]; show (rs.length : Int) = n; omega
      · rw [hg]; show (tbs.length : Int) = T; omega
      · rw [hg]; rfl
      · rw [hg] at hk
        show k ∈ rangeI rs.length
        rw [lr]
        exact hk
      · rw [hg] at hs
        exact List.mem_append_left _ hs
    · refine ⟨pos ord, fun i r k er hk => ?_⟩
      have il := (List.getElem?_eq_some_iff.mp er).1
      have hm : ((i : Nat) : Int) ∈ ord := pm.mem_iff.mpr (mem_rangeI.mpr ⟨by omega, by show (i : Int) < n; have : i < rs.length := il; omega⟩)
      obtain ⟨j, hj, ej⟩ := List.getElem_of_mem hm
      have ej' : ord[j]? = some (i : Int) := by rw [List.getElem?_eq_getElem hj, ej]
      have h1 := hseen j i r (by omega) ej' (by rw [Int.toNat_natCast]; exact er)
      have h2 : k ∈ ord.take j := Rule.ok_lines h1 k hk
      rw [pos_get ond ej']
      exact pos_take h2
    · exact Same.new (fun b u hb => by
        have ne : b ≠ st := fun e => by rw [e, hst] at hb; cases hb
        rw [upd_ne ne]
        exact gs.keep _ _ ne (sm5 _ _ hb)) hp
end
end Fl

-- after: rg.tpl
namespace Fl
open PySem PySem.Spec PyProof.Rows L2 RZ
section
variable {P : Program} {w : World} {K : PySem.W.Frag} {mg : Str → Option Value} {base : Heap}
abbrev s_ring_of : Stmt := topS 37
theorem sc_ring_of : FnScope ["lines", "found", "first", "one"] ["lines"] (defScope s_ring_of) := ⟨rfl, rfl, rfl, by decide +kernel, rfl, by decide +kernel, by decide +kernel⟩
def sp_ring_of : Sp1 := fun a H Q _ => ∃ (l : Addr) (vs : List V) (rs : List Rule) (g : Sg) (n : Nat), a = .ref l ∧ H l = some (.lst vs) ∧ AtAll H (rs.map Rule.d) vs ∧ Lns g n rs ∧
  ∀ p H', Same H H' → H p = none → H' p = some (.lst ((roN (adjR n rs) n n).map V.int)) → Q (.ref p) H'
theorem ok_ring_of (M : Mg mg) (G_ring_from : Has P w K mg base "ring_from" ["lines", "first"] 3 (sp2 sp_ring_from)) (D : DefAt K mg "ring_of" s_ring_of ["lines"]) : Has P w K mg base "ring_of" ["lines"] 4 (sp1 sp_ring_of) := by
  refine .mk1 D sc_ring_of fun fa cdv A outer s H a Q E hr h => ⟨_, (pss_cons (ps_set (i := 1) sc_ring_of.nd rfl (by first | exact Or.inl rfl | exact Or.inr rfl) (pe_lst pa_nil))
    (pss_cons (ps_for own_p (by rfl) (pi_range1 (by rfl) M.range (pa_cons (pe_callB (k_len K rfl) (by rfl) M.len (by decide +kernel) (pa_cons (pv 0) pa_nil)) pa_nil)) (pg_name (i := 2) sc_ring_of.nd rfl (by first | exact Or.inl rfl | exact Or.inr rfl)) (pss_cons (ps_set (i := 3) sc_ring_of.nd rfl (by first | exact Or.inl rfl | exact Or.inr rfl) (pe_own G_ring_from (hr.mono (by first | decide | omega)) (by rfl) p_body (pa_cons (pv 0) (pa_cons (pv 2) pa_nil))))
    (pss_one (ps_if (PW.pt (pw_and (pt_cmpR (k_neE K rfl hr) (pv 3) (pe_lst pa_nil) (nomark _)) (pw_and1 (PW.pt (pw_or (pt_cmpR (k_eqE K rfl hr) (pv 1) (pe_lst pa_nil) (nomark _)) (pw_or1 (pt_cmpR o_lt (pe_callB (k_len K rfl) (by rfl) M.len (by decide +kernel) (pa_cons (pv 3) pa_nil)) (pe_callB (k_len K rfl) (by rfl) M.len (by decide +kernel) (pa_cons (pv 1) pa_nil)) (nomark _)))))))) (pss_one (ps_set (i := 1) sc_ring_of.nd rfl (by first | exact Or.inl rfl | exact Or.inr rfl) (pv 3))) pss_nil))))
    (pss_one (ps_ret (pv 1))))), ?_⟩
  obtain ⟨l, lv, rs, g, n, rfl, hl, hat, hL, q⟩ := h
  have lvn : lv.length = n := by
    have := hat.length
    rw [List.length_map, hL.len] at this
    exact this
  have hn := hL.few
  refine Fl.go_start (σ0 := [some _, none, none, none]) rfl ?_
  walk_at "s"
  rename_i f0 hf0
  refine for_rng (fun i σ' H' => ∃ (p : Addr) (y2 y3 : Option V), σ' = [some (.ref l), some (.ref p), y2, y3] ∧ H' p = some (.lst ((roN (adjR n rs) n i).map V.int)) ∧ H p = none ∧ Same H H') ⟨f0, none, none, rfl, upd_same, hf0, by walk_at "sm"⟩ ?_ ?_
  · rintro i σ' H1 hi ⟨p, y2, y3, rfl, hp, hpf, sm⟩
    have hi' : i < n := by omega
    have hl1 := sm _ _ hl
    walk_at "s"
    refine ⟨l, lv, rs, g, n, 0 + (i : Int), rfl, hl1, hat.le (Same.le sm), hL, rfl, ⟨by omega, by omega⟩, fun o H2 sm2 hof ho => ?_⟩
    rw [Int.zero_add] at ho
    have hp2 := sm2 _ _ hp
    obtain ⟨ok, ol⟩ := rfAll_ok hL.adj (f := (i : Int)) ⟨by omega, by omega⟩
    have ol2 : (roN (adjR n rs) n i).length ≤ n := by
      have o := roN_ok hL.adj i (by omega)
      by_cases c : roN (adjR n rs) n i = []
      · rw [c]; simp
      · exact (o.ring c).1
    walk_at "s"
    rename_i p1 hp1
    refine ne_eI (by walk_at "hp") (by walk_at "hp") ?_
    walk_at "s"
    have res : roN (adjR n rs) n (i + 1) = roStep (adjR n rs) n (roN (adjR n rs) n i) i := rfl
    unfold roStep at res
    have fin1 : ∀ H', Same H2 H' → roN (adjR n rs) n (i + 1) = rfAll (adjR n rs) n i → ∃ (p : Addr) (y2 y3 : Option V), [some (.ref l), some (.ref o), some (.int (0 + (i : Int))), some (.ref o)] = [some (V.ref l), some (.ref p), y2, y3] ∧ H' p = some (.lst ((roN (adjR n rs) n (i + 1)).map V.int)) ∧ H p = none ∧ Same H H' :=
      fun H' e r => ⟨o, _, _, rfl, by rw [r]; exact e _ _ ho, L2.Same.free sm hof, L2.Same.trans sm (L2.Same.trans sm2 e)⟩
    have fin0 : ∀ H', Same H2 H' → roN (adjR n rs) n (i + 1) = roN (adjR n rs) n i → ∃ (p' : Addr) (y2 y3 : Option V), [some (.ref l), some (.ref p), some (.int (0 + (i : Int))), some (.ref o)] = [some (V.ref l), some (.ref p'), y2, y3] ∧ H' p' = some (.lst ((roN (adjR n rs) n (i + 1)).map V.int)) ∧ H p' = none ∧ Same H H' :=
      fun H' e r => ⟨p, _, _, rfl, by rw [r]; exact e _ _ hp2, hpf, L2.Same.trans sm (L2.Same.trans sm2 e)⟩
    by_cases c : rfAll (adjR n rs) n i = []
    · rw [if_neg fun z => z.1 c] at res
      rw [c]
      walk_at "s"
      exact fin0 _ (by walk_at "sm") res
    have c' : (rfAll (adjR n rs) n i).isEmpty = false := by simpa using c
    rw [c']
    walk_at "s"
    rename_i p2 hp2'
    refine eq_eI (by walk_at "hp") (by walk_at "hp") ?_
    walk_at "s"
    by_cases c2 : roN (adjR n rs) n i = []
    · rw [if_pos ⟨c, .inl c2⟩] at res
      rw [c2]
      walk_at "s"
      exact fin1 _ (by walk_at "sm") res
    have c2' : (roN (adjR n rs) n i).isEmpty = false := by simpa using c2
    rw [c2']
    walk_at "s"
    refine if_d (fun c3 => ?_) (fun c3 => ?_)
    · rw [if_pos ⟨c, .inr (by simpa using c3)⟩] at res
      walk_at "s"
      exact fin1 _ (by walk_at "sm") res
    · rw [if_neg fun z => z.2.elim c2 fun z2 => c3 (by simpa using z2)] at res
      walk_at "s"
      exact fin0 _ (by walk_at "sm") res
  · rintro σ' H1 ⟨p, y2, y3, rfl, hp, hpf, sm⟩
    walk_at "s"
    refine q p H1 sm hpf ?_
    rw [hp]
    congr 5
end
end Fl

-- after: fo2.tpl ro.tpl r2.tpl tabs.tpl
namespace Fl
open PySem PySem.Spec PyProof.Rows L2 RZ
def Frm.d (F : Frm) : PyData := .tuple [.tuple (F.rs.map Rule.d), .tuple (F.tbs.map tbD), .int F.C, .int F.owed]
theorem Frm.tupO (F : Frm) : tupOnly F.d = true := by
  show tupsOnly [.tuple (F.rs.map Rule.d), .tuple (F.tbs.map tbD), .int F.C, .int F.owed] = true
  simp [tupsOnly, tupOnly, rules_tupO, tbs_tupO]
theorem Frm.at {F : Frm} {H : Hp} {v : V} (h : At H F.d v) : ∃ (f L T : Addr) (vs ts : List V), v = .ref f ∧ H f = some (.tup [.ref L, .ref T, .int F.C, .int F.owed]) ∧ H L = some (.tup vs) ∧ AtAll H (F.rs.map Rule.d) vs ∧ H T = some (.tup ts) ∧ AtAll H (F.tbs.map tbD) ts := by
  obtain ⟨f, us, rfl, hf, u0, r0, rfl, ⟨L, vs, rfl, hL, ha⟩, u1, r1, rfl, ⟨T, ts, rfl, hT, hb⟩, u2, r2, rfl, h2, u3, r3, rfl, h3, h4⟩ := h
  cases (show u2 = .int F.C from h2)
  cases (show u3 = .int F.owed from h3)
  cases (show r3 = [] from h4)
  exact ⟨f, L, T, vs, ts, rfl, hf, hL, ha, hT, hb⟩
section
variable {P : Program} {w : World} {K : PySem.W.Frag} {mg : Str → Option Value} {base : Heap}
abbrev s_form_of : Stmt := topS 35
theorem sc_form_of : FnScope ["lines", "tables", "choices", "owed", "many", "line", "table"] ["lines", "tables", "choices", "owed"] (defScope s_form_of) := ⟨rfl, rfl, rfl, by decide +kernel, rfl, by decide +kernel, by decide +kernel⟩
def sp_form_of : Sp4 := fun a b c e H Q _ => ∃ (F : Frm) (L Tb : Addr) (vs ts : List V), F.Ok 40 ∧ a = .ref L ∧ H L = some (.lst vs) ∧ AtAll H (F.rs.map Rule.d) vs ∧ b = .ref Tb ∧ H Tb = some (.lst ts) ∧ AtAll H (F.tbs.map tbD) ts ∧ c = .int F.C ∧ e = .int F.owed ∧
  ∀ v H', Same H H' → At H' F.d v → Q v H'
theorem ok_form_of (M : Mg mg) (c_MOST_LINES : ∃ t, mg "MOST_LINES" = some (.int 40 t)) (c_MOST_TABLES : ∃ t, mg "MOST_TABLES" = some (.int 5 t)) (c_MOST_CHOICES : ∃ t, mg "MOST_CHOICES" = some (.int 8 t))
    (G_is_table : Has P w K mg base "is_table" ["thing"] 4 (sp1 sp_is_table)) (G_is_whole : Has P w K mg base "is_whole" ["thing", "least", "most"] 1 (sp3 sp_is_whole)) (G_is_rule : Has P w K mg base "is_rule" ["thing", "lines", "tables", "choices"] 4 (sp4 sp_is_rule)) (G_ring_of : Has P w K mg base "ring_of" ["lines"] 4 (sp1 sp_ring_of))
    (D : DefAt K mg "form_of" s_form_of ["lines", "tables", "choices", "owed"]) : Has P w K mg base "form_of" ["lines", "tables", "choices", "owed"] 5 (sp4 sp_form_of) := by
  refine .mk4 D sc_form_of fun fa cdv A outer s0 H a b c e Q E hr h => ⟨_, (pss_cons (ps_if (PW.pt (pw_or (pt_cmpR o_gt (pe_callB (k_len K rfl) (by rfl) M.len (by decide +kernel) (pa_cons (pv 1) pa_nil)) (pe_gi (by rfl) c_MOST_TABLES) (nomark _)) (pw_or1 (pt_not (pt_val (pe_callB (k_all K rfl rfl) (by rfl) M.all (by decide +kernel) (pa_cons (pe_lc (own := [("table", 6)]) (g := gName 6) (by rfl) sc_form_of.nd (k_pi K rfl (pv 1)) (blkOk_by (N := ["lines", "tables", "choices", "owed", "many", "line", "table"]) (sc := (defScope s_form_of)) (own := [("table", 6)]) (by decide +kernel)) (fun _ _ _ _ _ => (pg_name (i := 6) sc_form_of.nd rfl (by first | exact Or.inl rfl | exact Or.inr rfl))) (fun _ _ _ _ _ => pts_nil) (fun _ _ _ _ _ => (pe_own G_is_table (hr.mono (by first | decide | omega)) (by rfl) passL (pa_cons (pv 6) pa_nil)))) pa_nil))))))) (pss_one ps_no) pss_nil)
    (pss_cons (ps_set (i := 4) sc_form_of.nd rfl (by first | exact Or.inl rfl | exact Or.inr rfl) (pe_callB (k_len K rfl) (by rfl) M.len (by decide +kernel) (pa_cons (pv 0) pa_nil)))
    (pss_cons (ps_if (PW.pt (pw_or (pt_cmpR o_lt (pv 4) pe_int (nomark _)) (pw_or (pt_cmpR o_gt (pv 4) (pe_gi (by rfl) c_MOST_LINES) (nomark _)) (pw_or (pt_not (pt_val (pe_own G_is_whole (hr.mono (by first | decide | omega)) (by rfl) p_body (pa_cons (pv 2) (pa_cons pe_int (pa_cons (pe_gi (by rfl) c_MOST_CHOICES) pa_nil)))))) (pw_or1 (pt_not (pt_val (pe_own G_is_whole (hr.mono (by first | decide | omega)) (by rfl) p_body (pa_cons (pv 3) (pa_cons pe_int (pa_cons (pe_op o_sub (pv 4) pe_int) pa_nil))))))))))) (pss_one ps_no) pss_nil)
    (pss_cons (ps_for own_p (by rfl) (k_pi K rfl (pv 0)) (pg_name (i := 5) sc_form_of.nd rfl (by first | exact Or.inl rfl | exact Or.inr rfl)) (pss_one (ps_if (pt_not (pt_val (pe_own G_is_rule (hr.mono (by first | decide | omega)) (by rfl) p_body (pa_cons (pv 5) (pa_cons (pv 4) (pa_cons (pe_callB (k_len K rfl) (by rfl) M.len (by decide +kernel) (pa_cons (pv 1) pa_nil)) (pa_cons (pv 2) pa_nil))))))) (pss_one ps_no) pss_nil)))
    (pss_cons (ps_if (pt_cmpR (k_neE K rfl hr) (pe_own G_ring_of (hr.mono (by first | decide | omega)) (by rfl) p_body (pa_cons (pv 0) pa_nil)) (pe_lst pa_nil) (nomark _)) (pss_one ps_no) pss_nil)
    (pss_one (ps_ret (pe_tup (pa_cons (pe_callTy (k_tuple K rfl) (by rfl) M.tuple (by decide +kernel) (pa_cons (pv 0) pa_nil)) (pa_cons (pe_callTy (k_tuple K rfl) (by rfl) M.tuple (by decide +kernel) (pa_cons (pv 1) pa_nil)) (pa_cons (pv 2) (pa_cons (pv 3) pa_nil)))))))))))), ?_⟩
  obtain ⟨F, L, Tb, vs, ts, ok, rfl, hL, hvs, rfl, hT, hts, rfl, rfl, q⟩ := h
  have lvs := hvs.length
  have lts := hts.length
  rw [List.length_map] at lvs lts
  have n1 := ok.n1
  have n2 := ok.n2
  have t5 := ok.t5
  have c8 := ok.c8
  have hw := ok.ow
  have hLn := ok.lns (by decide)
  refine Fl.go_start (σ0 := [some _, some _, some _, some _, none, none, none]) rfl ?_
  walk_at "s"
  refine if_df (by omega) ?_
  walk_at "s"
  refine lc_seqL (List.replicate ts.length (.bl true)) hT (by simp) (by simp; omega) (fun _ => rfl) (fun i x y H' ex ey sm R hR => ?_) (fun D1 H1 hD1 sm1 eD1 => ?_)
  · obtain ⟨d0, ed, hd⟩ := hts.ix ex
    obtain ⟨t, et, rfl⟩ : ∃ t, F.tbs[i]? = some t ∧ d0 = tbD t := by
      rw [List.getElem?_map] at ed
      cases e : F.tbs[i]? with
      | none => rw [e] at ed; cases ed
      | some t => rw [e] at ed; exact ⟨t, rfl, (Option.some.inj ed).symm⟩
    have il := (List.getElem?_eq_some_iff.mp ex).1
    have : y = .bl true := by
      rw [List.getElem?_replicate] at ey
      rw [if_pos il] at ey
      exact (Option.some.inj ey).symm
    subst this
    have e := (ok.tb t (List.mem_of_getElem? et)).table
    have e : isTable (tbD t) = true := e
    have hd' := hd.le (Same.le sm)
    walk_at "s"
    rename_i H2 sm2
    rw [e]
    exact hR _ sm2
  have ebl : List.replicate ts.length (V.bl true) = (List.replicate ts.length true).map V.bl := by rw [List.map_replicate]
  rw [ebl] at eD1
  walk_at "s"
  rw [show (List.replicate ts.length true).all id = true by simp]
  have hL1 := sm1 _ _ hL
  have hT1 := sm1 _ _ hT
  walk_at "s"
  refine if_df (by omega) ?_
  walk_at "s"
  refine if_df (by omega) ?_
  walk_at "s"
  rw [show isWhole (.int F.C) 0 8 = true from isWhole_of (by omega) (by omega)]
  walk_at "s"
  rw [show isWhole (.int F.owed) 0 ((vs.length : Int) - 1) = true from isWhole_of (by omega) (by omega)]
  walk_at "s"
  refine for_lst (fun i σ' H' => ∃ y5 : Option V, σ' = [some (.ref L), some (.ref Tb), some (.int F.C), some (.int F.owed), some (.int vs.length), y5, none] ∧ Same H1 H') hL1 ⟨none, rfl, .refl _⟩ (fun i σ' H' _ ⟨_, _, e⟩ => e _ _ hL1) ?_ ?_
  · rintro i x σ' H2 ex ⟨y5, rfl, sm2⟩
    obtain ⟨d0, ed, hd⟩ := hvs.ix ex
    obtain ⟨r, er, rfl⟩ : ∃ r, F.rs[i]? = some r ∧ d0 = r.d := by
      rw [List.getElem?_map] at ed
      cases e : F.rs[i]? with
      | none => rw [e] at ed; cases ed
      | some t => rw [e] at ed; exact ⟨t, rfl, (Option.some.inj ed).symm⟩
    have gr := ok.goodR r (List.mem_of_getElem? er)
    have e : isR (vs.length : Int) (ts.length : Int) F.C 8 r.d = true := by
      rw [lvs, lts]
      exact Rule.isR gr.fine gr.ok
    have hT2 := sm2 _ _ hT1
    walk_at "s"
    refine ⟨r.d, vs.length, ts.length, F.C, hd.le (Same.le (L2.Same.trans sm1 sm2)), ⟨gr.okD, Nat.le_trans gr.sz (by decide)⟩, rfl, rfl, rfl, fun H3 sm3 => ?_⟩
    rw [e]
    walk_at "s"
    exact ⟨_, rfl, L2.Same.trans sm2 sm3⟩
  · rintro σ' H2 ⟨y5, rfl, sm2⟩
    have sm12 := L2.Same.trans sm1 sm2
    have hL2 := sm12 _ _ hL
    walk_at "s"
    refine ⟨L, vs, F.rs, F.g, F.rs.length, rfl, hL2, hvs.le (Same.le sm12), hLn, fun R H3 sm3 hR hR3 => ?_⟩
    rw [ok.acy.ro] at hR3
    have sm13 := L2.Same.trans sm12 sm3
    have hL3 := sm13 _ _ hL
    have hT3 := sm13 _ _ hT
    walk_at "s"
    rename_i pe hpe
    refine ne_eI (ns := []) (by walk_at "hp") (by walk_at "hp") ?_
    walk_at "s"
    rename_i a4 H4 sm4 e4 a5 H5 sm5 e5 p6 hp6
    have e45 := sm5 _ _ e4
    have sm35 : Same H3 H5 := by walk_at "sm"
    have sm05 := L2.Same.trans sm13 sm35
    exact q _ _ (Same.new sm05 hp6) (at4 upd_same (at_tup (by walk_at "hp") ((hvs.le (Same.le sm05)).le (by walk_at "le"))) (at_tup (by walk_at "hp") ((hts.le (Same.le sm05)).le (by walk_at "le"))) rfl rfl)
end
end Fl

-- after: fo3.tpl
namespace Fl
open PySem PySem.Spec PyProof.Rows L2 RZ
/-! ### the order of a form -/
def ordT (adj : Int → List Int) (found : List Int) (k : Int) : Bool := decide (k ∉ found) && (adj k).all fun y => decide (y ∈ found)
def ordNext (adj : Int → List Int) (n : Nat) (found : List Int) : Option Int := (rangeI n).find? (ordT adj found)
def ordN (adj : Int → List Int) (n : Nat) : Nat → List Int
  | 0 => []
  | i + 1 => match ordNext adj n (ordN adj n i) with
    | some k => ordN adj n i ++ [k]
    | none => ordN adj n i
theorem min_rk {rk : Int → Nat} : ∀ {xs : List Int}, xs ≠ [] → ∃ m ∈ xs, ∀ x ∈ xs, rk m ≤ rk x
  | [], h => absurd rfl h
  | [a], _ => ⟨a, by simp, by simp⟩
  | a :: b :: r, _ => by
    obtain ⟨m, hm, h⟩ := min_rk (rk := rk) (xs := b :: r) (by simp)
    by_cases c : rk a ≤ rk m
    · refine ⟨a, by simp, fun x hx => ?_⟩
      rcases List.mem_cons.mp hx with e | e
      · rw [e]; exact Nat.le_refl _
      · exact Nat.le_trans c (h x e)
    · refine ⟨m, List.mem_cons_of_mem _ hm, fun x hx => ?_⟩
      rcases List.mem_cons.mp hx with e | e
      · rw [e]; omega
      · exact h x e
theorem rangeI_succ (n : Nat) : rangeI (n + 1) = rangeI n ++ [(n : Int)] := by
  unfold rangeI
  rw [List.range_succ, List.map_append]
  rfl
theorem find_range {p : Int → Bool} {j : Nat} (hp : p j = true) (no : ∀ i : Nat, i < j → p i = false) : ∀ {n : Nat}, j < n → (rangeI n).find? p = some (j : Int)
  | 0, h => by omega
  | n + 1, h => by
    rw [rangeI_succ, List.find?_append]
    rcases Nat.lt_or_eq_of_le (show j ≤ n by omega) with c | c
    · rw [find_range hp no c]
      rfl
    · subst c
      have e0 : (rangeI j).find? p = none := by
        rw [List.find?_eq_none]
        intro x hx
        obtain ⟨i, hi, rfl⟩ := List.mem_map.mp hx
        rw [no i (List.mem_range.mp hi)]
        simp
      rw [e0, List.find?_cons_of_pos hp]
      rfl
structure OrdOk (adj : Int → List Int) (n i : Nat) (f : List Int) : Prop where
  len : f.length = i
  nd : f.Nodup
  rng : ∀ k ∈ f, 0 ≤ k ∧ k < n
  ord : ∀ j k, f[j]? = some k → ∀ y ∈ adj k, y ∈ f.take j
theorem OrdOk.next {adj : Int → List Int} {n i : Nat} {f : List Int} (ha : Adj adj n) (hr : ∃ rk : Int → Nat, ∀ a y, y ∈ adj a → rk y < rk a) (h : OrdOk adj n i f) (hi : i < n) : ∃ k, ordNext adj n f = some k := by
  obtain ⟨rk, hk⟩ := hr
  have ne : ((rangeI n).filter fun k => decide (k ∉ f)) ≠ [] := by
    intro e
    have sub : ∀ x ∈ rangeI n, x ∈ f := fun x hx => by
      refine Classical.byContradiction fun c => ?_
      have : x ∈ (rangeI n).filter fun k => decide (k ∉ f) := List.mem_filter.mpr ⟨hx, by simpa using c⟩
      rw [e] at this
      cases this
    have := nodup_le (rangeI_nodup n) sub
    rw [rangeI_len, h.len] at this
    omega
  obtain ⟨m, hm, hmin⟩ := min_rk (rk := rk) ne
  obtain ⟨hm1, hm2⟩ := List.mem_filter.mp hm
  have t : ordT adj f m = true := by
    unfold ordT
    rw [Bool.and_eq_true, List.all_eq_true]
    refine ⟨hm2, fun y hy => ?_⟩
    rw [decide_eq_true_eq]
    refine Classical.byContradiction fun c => ?_
    have h1 := hmin y (List.mem_filter.mpr ⟨mem_rangeI.mpr (ha.rng _ _ hy), by simpa using c⟩)
    have := hk _ _ hy
    omega
  cases e : ordNext adj n f with
  | some k => exact ⟨k, rfl⟩
  | none =>
    unfold ordNext at e
    rw [List.find?_eq_none] at e
    exact absurd t (e m hm1)
theorem OrdOk.snoc {adj : Int → List Int} {n i : Nat} {f : List Int} {k : Int} (h : OrdOk adj n i f) (e : ordNext adj n f = some k) : OrdOk adj n (i + 1) (f ++ [k]) := by
  unfold ordNext at e
  have hm := List.mem_of_find?_eq_some e
  have ht := List.find?_some e
  unfold ordT at ht
  rw [Bool.and_eq_true, decide_eq_true_eq, List.all_eq_true] at ht
  refine ⟨by rw [List.length_append, h.len]; rfl, List.nodup_append.mpr ⟨h.nd, by simp, fun a ha b hb ab => ?_⟩, fun x hx => ?_, fun j x ej y hy => ?_⟩
  · rw [List.mem_singleton.mp hb] at ab
    exact ht.1 (ab ▸ ha)
  · rcases List.mem_append.mp hx with z | z
    · exact h.rng x z
    · rw [List.mem_singleton.mp z]
      exact mem_rangeI.mp hm
  · have hl := h.len
    rcases Nat.lt_or_ge j f.length with c | c
    · rw [List.getElem?_append_left c] at ej
      rw [List.take_append_of_le_length (by omega)]
      exact h.ord j x ej y hy
    · rw [List.getElem?_append_right c] at ej
      have c2 : j - f.length = 0 := by
        have := (List.getElem?_eq_some_iff.mp ej).1
        simp at this
        omega
      rw [c2] at ej
      have ex : k = x := by simpa using ej
      subst ex
      rw [show j = f.length by omega, List.take_left']
      · exact of_decide_eq_true (ht.2 y hy)
      · rfl
theorem ordN_ok {adj : Int → List Int} {n : Nat} (ha : Adj adj n) (hr : ∃ rk : Int → Nat, ∀ a y, y ∈ adj a → rk y < rk a) : ∀ i, i ≤ n → OrdOk adj n i (ordN adj n i)
  | 0, _ => ⟨rfl, List.nodup_nil, by simp [ordN], by simp [ordN]⟩
  | i + 1, hi => by
    have ih := ordN_ok ha hr i (by omega)
    obtain ⟨k, e⟩ := ih.next ha hr (by omega)
    rw [ordN, e]
    exact ih.snoc e
/-- its lines -/
def Frm.adj (F : Frm) : Int → List Int := adjR F.rs.length F.rs
def Frm.ord (F : Frm) : List Int := ordN F.adj F.rs.length F.rs.length
theorem Frm.Ok.adj {F : Frm} {m : Nat} (_ : F.Ok m) : Adj F.adj F.rs.length := ⟨fun a => (adjR_adj a).1, fun a => (adjR_adj a).2⟩
theorem Frm.Ok.ord {F : Frm} {m : Nat} (h : F.Ok m) : OrdOk F.adj F.rs.length F.rs.length F.ord := ordN_ok h.adj (h.acy.adj) _ (Nat.le_refl _)
theorem OrdOk.perm {adj : Int → List Int} {n : Nat} {f : List Int} (h : OrdOk adj n n f) : ∀ k, k ∈ f ↔ 0 ≤ k ∧ k < n := fun k => by
  refine ⟨h.rng k, fun hk => Classical.byContradiction fun c => ?_⟩
  have := range_len (n := n) (xs := k :: f) (List.nodup_cons.mpr ⟨c, h.nd⟩) fun x hx => by
    rcases List.mem_cons.mp hx with rfl | hx
    · exact hk
    · exact h.rng x hx
  rw [List.length_cons, h.len] at this
  omega
section
variable {P : Program} {w : World} {K : PySem.W.Frag} {mg : Str → Option Value} {base : Heap}
abbrev s_order_of : Stmt := topS 38
theorem sc_order_of : FnScope ["form", "found", "line", "one"] ["form"] (defScope s_order_of) := ⟨rfl, rfl, rfl, by decide +kernel, rfl, by decide +kernel, by decide +kernel⟩
def sp_order_of : Sp1 := fun a H Q _ => ∃ F : Frm, F.Ok 40 ∧ At H F.d a ∧ ∀ p H', Same H H' → H p = none → H' p = some (.lst (F.ord.map V.int)) → Q (.ref p) H'
theorem ok_order_of (M : Mg mg) (G_named : Has P w K mg base "named" ["rule", "word"] 2 (sp2 (sp_law_named 8))) (D : DefAt K mg "order_of" s_order_of ["form"]) : Has P w K mg base "order_of" ["form"] 3 (sp1 sp_order_of) := by
  refine .mk1 D sc_order_of fun fa cdv A outer s0 H a Q E hr h => ⟨_, (pss_cons (ps_set (i := 1) sc_order_of.nd rfl (by first | exact Or.inl rfl | exact Or.inr rfl) (pe_lst pa_nil))
    (pss_cons (ps_while own_p (pt_cmpR o_lt (pe_callB (k_len K rfl) (by rfl) M.len (by decide +kernel) (pa_cons (pv 1) pa_nil)) (pe_callB (k_len K rfl) (by rfl) M.len (by decide +kernel) (pa_cons (pe_ix (k_ix K rfl) (pv 0) pe_int (fun _ _ => rfl)) pa_nil)) (nomark _)) (pss_one (ps_for own_p (by rfl) (pi_range1 (by rfl) M.range (pa_cons (pe_callB (k_len K rfl) (by rfl) M.len (by decide +kernel) (pa_cons (pe_ix (k_ix K rfl) (pv 0) pe_int (fun _ _ => rfl)) pa_nil)) pa_nil)) (pg_name (i := 2) sc_order_of.nd rfl (by first | exact Or.inl rfl | exact Or.inr rfl)) (pss_one (ps_if (PW.pt (pw_and (pt_cmpR (k_notin K rfl hr) (pv 2) (pv 1) (by rfl)) (pw_and1 (pt_val (pe_callB (k_all K rfl rfl) (by rfl) M.all (by decide +kernel) (pa_cons (pe_lc (own := [("one", 3)]) (g := gName 3) (by rfl) sc_order_of.nd (k_pi K rfl (pe_own G_named (hr.mono (by first | decide | omega)) (by rfl) p_body (pa_cons (pe_ix (k_ix K rfl) (pe_ix (k_ix K rfl) (pv 0) pe_int (fun _ _ => rfl)) (pv 2) (fun _ _ => rfl)) (pa_cons pe_str pa_nil)))) (blkOk_by (N := ["form", "found", "line", "one"]) (sc := (defScope s_order_of)) (own := [("one", 3)]) (by decide +kernel)) (fun _ _ _ _ _ => (pg_name (i := 3) sc_order_of.nd rfl (by first | exact Or.inl rfl | exact Or.inr rfl))) (fun _ _ _ _ _ => pts_nil) (fun _ _ _ _ _ => (pe_cmpR (k_in K rfl hr) (pv 3) (pv 1) (by rfl)))) pa_nil)))))) (pss_cons (ps_expr (k_bm K rfl PySem.F.plainAttrs_list PySem.F.slot_list_append PySem.F.type_list_append mt_append (pv 1) (pa_cons (pv 2) pa_nil)))
    (pss_one ps_break)) pss_nil)))))
    (pss_one (ps_ret (pv 1))))), ?_⟩
  obtain ⟨F, ok, hat, q⟩ := h
  obtain ⟨f, L, T, vs, ts, rfl, hf, hL, hvs, hT, hts⟩ := Frm.at hat
  have lvs := hvs.length
  rw [List.length_map] at lvs
  have n1 := ok.n1
  have n2 := ok.n2
  have hLn := ok.lns (by decide)
  have hadj := ok.adj
  refine Fl.go_start (σ0 := [some _, none, none, none]) rfl ?_
  walk_at "s"
  rename_i p0 hp0
  refine while_go (fun m σ' H' => ∃ (i : Nat) (y2 : Option V), σ' = [some (.ref f), some (.ref p0), y2, none] ∧ m = F.rs.length - i ∧ i ≤ F.rs.length ∧ H' p0 = some (.lst ((ordN F.adj F.rs.length i).map V.int)) ∧ Same H H') F.rs.length
    ⟨0, none, rfl, by omega, by omega, upd_same, by walk_at "sm"⟩ ?_
  rintro m σ' H1 ⟨i, y2, rfl, rfl, hi, hp1, sm⟩
  have oi := ordN_ok hadj ok.acy.adj i hi
  have li := oi.len
  have hf1 := sm _ _ hf
  have hL1 := sm _ _ hL
  walk_at "s"
  rw [List.length_map, li, lvs]
  refine if_d (fun c => ?_) (fun c => ?_)
  · refine while_turn ?_
    obtain ⟨k0, ek⟩ := oi.next hadj ok.acy.adj (by omega)
    walk_at "s"
    refine for_rng (fun j σ' H' => ∃ y2 : Option V, σ' = [some (.ref f), some (.ref p0), y2, none] ∧ H' p0 = some (.lst ((ordN F.adj F.rs.length i).map V.int)) ∧ Same H H' ∧ ∀ k : Nat, k < j → ordT F.adj (ordN F.adj F.rs.length i) k = false) ⟨_, rfl, hp1, sm, fun k hk => by omega⟩ ?_ ?_
    · rintro j σ' H2 hj ⟨y2, rfl, hp2, sm2, no⟩
      rw [Int.zero_add]
      have hf2 := sm2 _ _ hf
      have hL2 := sm2 _ _ hL
      have jl : j < F.rs.length := by omega
      obtain ⟨r, er⟩ : ∃ r, F.rs[j]? = some r := ⟨F.rs[j], List.getElem?_eq_getElem jl⟩
      obtain ⟨v0, ev0, hv0⟩ := hvs.get (i := j) (d := r.d) (by rw [List.getElem?_map, er]; rfl)
      have eadj : F.adj j = nameI "line" F.rs.length r := adjR_at er
      walk_at "s"
      refine notin_i hp2 ?_
      walk_at "s"
      have skip : ∀ H3, Same H2 H3 → ordT F.adj (ordN F.adj F.rs.length i) j = false → ∃ y2' : Option V, [some (.ref f), some (.ref p0), some (.int (j : Int)), none] = [some (V.ref f), some (.ref p0), y2', none] ∧ H3 p0 = some (.lst ((ordN F.adj F.rs.length i).map V.int)) ∧ Same H H3 ∧ ∀ k : Nat, k < j + 1 → ordT F.adj (ordN F.adj F.rs.length i) k = false :=
        fun H3 sm3 e => ⟨_, rfl, sm3 _ _ hp2, L2.Same.trans sm2 sm3, fun k hk => by
          rcases Nat.lt_or_eq_of_le (show k ≤ j by omega) with z | z
          · exact no k z
          · rw [z]; exact e⟩
      by_cases c1 : (j : Int) ∈ ordN F.adj F.rs.length i
      · rw [decide_eq_true c1]
        walk_at "s"
        exact skip _ (.refl _) (by unfold ordT; simp [c1])
      rw [decide_eq_false c1]
      walk_at "s"
      refine ex_v (atI_nat ev0) ?_
      walk_at "s"
      refine named_use (ok.goodR r (List.mem_of_getElem? er)) (hv0.le (Same.le sm2)) (.inl rfl) (n := F.rs.length) (by rw [wordN, if_neg (by decide +kernel)]; rfl) fun nl H4 sm4 hnl enl => ?_
      rw [← eadj] at enl
      have lns : (F.adj j).length ≤ 40 := Nat.le_trans (range_len (pw_nodup (hadj.srt _)) (hadj.rng _)) n2
      have hp4 := sm4 _ _ hp2
      walk_at "s"
      refine lc_seqL (((F.adj j).map fun o => decide (o ∈ ordN F.adj F.rs.length i)).map V.bl) enl (by simp) (by simp; omega) (fun _ => rfl) (fun i2 x y H' ex ey sm5 R' hR' => ?_) (fun D1 H5 hD1 sm5 eD1 => ?_)
      · obtain ⟨o, eo, rfl⟩ : ∃ o, (F.adj j)[i2]? = some o ∧ x = .int o := by
          rw [List.getElem?_map] at ex
          cases e : (F.adj j)[i2]? with
          | none => rw [e] at ex; cases ex
          | some o => rw [e] at ex; exact ⟨o, rfl, (Option.some.inj ex).symm⟩
        have e : y = .bl (decide (o ∈ ordN F.adj F.rs.length i)) := by
          rw [List.getElem?_map, List.getElem?_map, eo] at ey
          exact (Option.some.inj ey).symm
        subst e
        walk_at "s"
        refine in_i (sm5 _ _ hp4) ?_
        exact hR' _ (.refl _)
      walk_at "s"
      have et : ((F.adj j).map fun o => decide (o ∈ ordN F.adj F.rs.length i)).all id = ordT F.adj (ordN F.adj F.rs.length i) j := by
        unfold ordT
        rw [decide_eq_true c1, Bool.true_and, List.all_map]
        rfl
      rw [et]
      refine if_b (fun c2 => ?_) (fun c2 => ?_)
      · have e1 : ordNext F.adj F.rs.length (ordN F.adj F.rs.length i) = some (j : Int) := find_range c2 no jl
        have e2 : ordN F.adj F.rs.length (i + 1) = ordN F.adj F.rs.length i ++ [(j : Int)] := by rw [ordN, e1]
        have hp5 := sm5 _ _ hp4
        walk_at "s"
        exact ⟨F.rs.length - (i + 1), by omega, i + 1, _, rfl, rfl, by omega, by rw [upd_same, e2]; simp, Same.mut (L2.Same.trans sm2 (L2.Same.trans sm4 sm5)) hp0⟩
      · walk_at "s"
        exact skip _ (L2.Same.trans sm4 sm5) c2
    · rintro σ' H2 ⟨y2, rfl, hp2, sm2, no⟩
      exfalso
      unfold ordNext at ek
      have hm := List.mem_of_find?_eq_some ek
      have ht := List.find?_some ek
      have kr := mem_rangeI.mp hm
      have := no k0.toNat (by omega)
      rw [Int.toNat_of_nonneg kr.1, ht] at this
      cases this
  · walk_at "s"
    have e : i = F.rs.length := by omega
    subst e
    exact q p0 H1 sm hp0 hp1
end
end Fl

-- after: fo4.tpl
namespace Fl
open PySem PySem.Spec PyProof.Rows L2 RZ
/-! ### what a rule comes to -/
structure Sgt where
  lines : List Int
  papers : Str → Int
  earl : List Int
  tbs : List (List (Int × Int × Int))
  tk : List Bool
def joinV (w : Str) (x y : Int) : Int := if w = "add" then x + y else if w = "take" then x - y else if w = "least" then (if y < x then y else x) else if y > x then y else x
def Sgt.ear (S : Sgt) (k : Int) : Int := if S.earl = [] then 0 else S.earl.getD k.toNat 0
def Rule.val (S : Sgt) : Rule → Int
  | .num n => n
  | .paper w => S.papers w
  | .line k => S.lines.getD k.toNat 0
  | .earl k => S.ear k
  | .two w a b => joinV w (a.val S) (b.val S)
  | .part a p => a.val S * p / 100
  | .table k a => atTab (S.tbs.getD k.toNat []) (a.val S)
  | .wher a b c => if 0 < a.val S then b.val S else c.val S
  | .choo k a b => if S.tk.getD k.toNat false = true then b.val S else a.val S
theorem names_paper (w : Str) : ∀ r : Rule, (V.str w ∈ r.names "paper" → True) := fun _ _ => trivial
theorem Rule.val_congr {S S' : Sgt} (ht : S.tbs = S'.tbs) : ∀ {r : Rule}, (∀ k ∈ r.lines, S.lines.getD k.toNat 0 = S'.lines.getD k.toNat 0) → (∀ w, V.str w ∈ r.names "paper" → S.papers w = S'.papers w) →
    (∀ k, V.int k ∈ r.names "earlier" → S.ear k = S'.ear k) → (∀ k, V.int k ∈ r.names "choose" → S.tk.getD k.toNat false = S'.tk.getD k.toNat false) → r.val S = r.val S'
  | .num _, _, _, _, _ => rfl
  | .paper w, _, hp, _, _ => hp w (by simp [Rule.names])
  | .line k, hl, _, _, _ => hl k (by simp [Rule.lines])
  | .earl k, _, _, he, _ => he k (by simp [Rule.names])
  | .two w a b, hl, hp, he, hc => by
    simp only [Rule.val]
    rw [val_congr ht (r := a) (fun k h => hl k (List.mem_append_left _ h)) (fun w h => hp w (List.mem_append_left _ h)) (fun k h => he k (List.mem_append_left _ h)) (fun k h => hc k (List.mem_append_left _ h)),
      val_congr ht (r := b) (fun k h => hl k (List.mem_append_right _ h)) (fun w h => hp w (List.mem_append_right _ h)) (fun k h => he k (List.mem_append_right _ h)) (fun k h => hc k (List.mem_append_right _ h))]
  | .part a p, hl, hp, he, hc => by
    simp only [Rule.val]
    rw [val_congr ht (r := a) hl hp he hc]
  | .table k a, hl, hp, he, hc => by
    simp only [Rule.val]
    rw [ht, val_congr ht (r := a) hl (fun w h => hp w (List.mem_append_right _ h)) (fun k h => he k (List.mem_append_right _ h)) (fun k h => hc k (List.mem_append_right _ h))]
  | .wher a b c, hl, hp, he, hc => by
    simp only [Rule.val]
    rw [val_congr ht (r := a) (fun k h => hl k (List.mem_append_left _ (List.mem_append_left _ h))) (fun w h => hp w (List.mem_append_left _ h)) (fun k h => he k (List.mem_append_left _ h)) (fun k h => hc k (List.mem_append_left _ h)),
      val_congr ht (r := b) (fun k h => hl k (List.mem_append_left _ (List.mem_append_right _ h))) (fun w h => hp w (List.mem_append_right _ (List.mem_append_left _ h))) (fun k h => he k (List.mem_append_right _ (List.mem_append_left _ h))) (fun k h => hc k (List.mem_append_right _ (List.mem_append_left _ h))),
      val_congr ht (r := c) (fun k h => hl k (List.mem_append_right _ h)) (fun w h => hp w (List.mem_append_right _ (List.mem_append_right _ h))) (fun k h => he k (List.mem_append_right _ (List.mem_append_right _ h))) (fun k h => hc k (List.mem_append_right _ (List.mem_append_right _ h)))]
  | .choo k a b, hl, hp, he, hc => by
    simp only [Rule.val]
    rw [hc k (List.mem_append_left _ (by simp)),
      val_congr ht (r := a) (fun k h => hl k (List.mem_append_left _ h)) (fun w h => hp w (List.mem_append_right _ (List.mem_append_left _ h))) (fun k h => he k (List.mem_append_right _ (List.mem_append_left _ h))) (fun k h => hc k (List.mem_append_right _ (List.mem_append_left _ h))),
      val_congr ht (r := b) (fun k h => hl k (List.mem_append_right _ h)) (fun w h => hp w (List.mem_append_right _ (List.mem_append_right _ h))) (fun k h => he k (List.mem_append_right _ (List.mem_append_right _ h))) (fun k h => hc k (List.mem_append_right _ (List.mem_append_right _ h)))]
/-! ### a year -/
def Frm.rule (F : Frm) (k : Int) : Rule := F.rs.getD k.toNat (.num 0)
def Frm.put (F : Frm) (S : Sgt) (ls : List Int) (k : Int) : List Int := ls.set k.toNat ((F.rule k).val { S with lines := ls })
def Frm.upto (F : Frm) (S : Sgt) (j : Nat) : List Int := (F.ord.take j).foldl (F.put S) (List.replicate F.rs.length 0)
/-- the lines of a year -/
def Frm.year (F : Frm) (S : Sgt) : List Int := F.upto S F.rs.length
theorem Frm.upto_succ {F : Frm} {S : Sgt} {j : Nat} {k : Int} (h : F.ord[j]? = some k) : F.upto S (j + 1) = F.put S (F.upto S j) k := by
  unfold Frm.upto
  rw [List.take_add_one, h, List.foldl_append]
  rfl
theorem Frm.upto_len {F : Frm} {S : Sgt} : ∀ j, (F.upto S j).length = F.rs.length := by
  intro j
  unfold Frm.upto
  have : ∀ (ks : List Int) (ls : List Int), (ks.foldl (F.put S) ls).length = ls.length := by
    intro ks
    induction ks with
    | nil => intro ls; rfl
    | cons k r ih =>
      intro ls
      rw [List.foldl_cons, ih]
      unfold Frm.put
      rw [List.length_set]
  rw [this, List.length_replicate]
theorem Frm.year_len {F : Frm} {S : Sgt} : (F.year S).length = F.rs.length := F.upto_len _
theorem getD_set_ne {ls : List Int} {i j : Nat} {x : Int} (h : i ≠ j) : (ls.set i x).getD j 0 = ls.getD j 0 := by
  rw [List.getD_eq_getElem?_getD, List.getD_eq_getElem?_getD, List.getElem?_set_ne h]
theorem getD_set_self {ls : List Int} {i : Nat} {x : Int} (h : i < ls.length) : (ls.set i x).getD i 0 = x := by
  rw [List.getD_eq_getElem?_getD, List.getElem?_set_self h]
  rfl
/-- what has been told stays -/
theorem Frm.upto_keep {F : Frm} {m : Nat} (ok : F.Ok m) {S : Sgt} {j : Nat} {k : Int} (hk : k ∈ F.ord.take j) : ∀ i, j ≤ i → (F.upto S i).getD k.toNat 0 = (F.upto S j).getD k.toNat 0 := by
  have o := ok.ord
  intro i hi
  induction hi with
  | refl => rfl
  | @step i hi ih =>
    have hi : j ≤ i := hi
    rcases Nat.lt_or_ge i F.ord.length with c | c
    · obtain ⟨x, ex⟩ : ∃ x, F.ord[i]? = some x := ⟨_, List.getElem?_eq_getElem c⟩
      rw [Frm.upto_succ ex]
      unfold Frm.put
      have h1 := o.rng k (List.mem_of_mem_take hk)
      have h2 := o.rng x (List.mem_of_getElem? ex)
      have ne : x ≠ k := fun e => by
        subst e
        have h3 := pos_take hk
        have h4 := pos_get o.nd ex
        omega
      have ne' : x.toNat ≠ k.toNat := by omega
      rw [getD_set_ne ne']
      exact ih
    · have e : F.upto S (i + 1) = F.upto S i := by
        unfold Frm.upto
        rw [List.take_of_length_le (show F.ord.length ≤ i + 1 by omega), List.take_of_length_le c]
      rw [e]
      exact ih
theorem Frm.adj_lines {F : Frm} {m : Nat} (ok : F.Ok m) {i : Nat} {r : Rule} (e : F.rs[i]? = some r) {k : Int} (hk : k ∈ r.lines) : k ∈ F.adj i := by
  unfold Frm.adj
  rw [adjR_at e]
  have g := ok.good r (List.mem_of_getElem? e)
  exact nameL_mem.mpr ⟨mem_rangeI.mp (Rule.ok_lines g k hk), hk⟩
/-- each line is what its rule comes to by the lines told -/
theorem Frm.year_fix {F : Frm} {m : Nat} (ok : F.Ok m) {S : Sgt} {i : Nat} {r : Rule} (e : F.rs[i]? = some r) : (F.year S).getD i 0 = r.val { S with lines := F.year S } := by
  have o := ok.ord
  have il := (List.getElem?_eq_some_iff.mp e).1
  have hm : (i : Int) ∈ F.ord := (o.perm i).mpr ⟨by omega, by omega⟩
  obtain ⟨j, hj, ej⟩ := List.getElem_of_mem hm
  have ej' : F.ord[j]? = some (i : Int) := by rw [List.getElem?_eq_getElem hj, ej]
  have hjn : j < F.rs.length := by rw [← o.len]; exact hj
  have e1 : (F.upto S (j + 1)).getD i 0 = r.val { S with lines := F.upto S j } := by
    rw [Frm.upto_succ ej']
    unfold Frm.put
    rw [Int.toNat_natCast, getD_set_self (by rw [Frm.upto_len]; exact il)]
    have : F.rule i = r := by
      unfold Frm.rule
      rw [Int.toNat_natCast, List.getD_eq_getElem?_getD, e]
      rfl
    rw [this]
  have mem : (i : Int) ∈ F.ord.take (j + 1) := by
    rw [List.take_add_one, ej']
    simp
  have e2 := Frm.upto_keep ok (S := S) mem F.rs.length (by omega)
  rw [Int.toNat_natCast] at e2
  unfold Frm.year
  rw [e2, e1]
  refine Rule.val_congr (S := { S with lines := F.upto S j }) (S' := { S with lines := F.upto S F.rs.length }) rfl (fun k hk => ?_) (fun _ _ => rfl) (fun _ _ => rfl) (fun _ _ => rfl)
  have h1 := Frm.adj_lines ok e hk
  have h2 := o.ord j i ej' k h1
  exact (Frm.upto_keep ok (S := S) h2 F.rs.length (by omega)).symm
end Fl

-- after: ext.tpl
namespace Fl
open PySem PySem.Spec PyProof.Rows L2 RZ
/-! ### dicts: steps -/
section
variable {σ : L2.St} {H : Hp} {nx bk ct : L2.St → Hp → Prop} {rt : VK} {Q : VK} {td ty tv tx : TE} {K : PySem.W.Frag}
instance : Step (tDGet td ty σ H Q) (td σ H fun x H1 => ty σ H1 fun y H2 => ∃ a, x = .ref a ∧ ∃ v, DGet H2 a y (some v) ∧ Q v H2) := ⟨fun h => by
  have e : (fun x H1 => ty σ H1 fun y H2 => ∃ a v, x = .ref a ∧ DGet H2 a y (some v) ∧ Q v H2) = fun (x : V) H1 => ty σ H1 fun y H2 => ∃ a, x = .ref a ∧ ∃ v, DGet H2 a y (some v) ∧ Q v H2 := by
    funext x H1
    congr 1
    funext y H2
    exact propext ⟨fun ⟨a, v, e, d, q⟩ => ⟨a, e, v, d, q⟩, fun ⟨a, e, v, d, q⟩ => ⟨a, v, e, d, q⟩⟩
  show td σ H _
  rw [e]
  exact h⟩
instance : Step (tDIn ty td σ H Q) (ty σ H fun y H1 => td σ H1 fun x H2 => ∃ a, x = .ref a ∧ ∃ o, DGet H2 a y o ∧ Q (.bl o.isSome) H2) := ⟨fun h => by
  have e : (fun y H1 => td σ H1 fun x H2 => ∃ a o, x = .ref a ∧ DGet H2 a y o ∧ Q (.bl o.isSome) H2) = fun (y : V) H1 => td σ H1 fun x H2 => ∃ a, x = .ref a ∧ ∃ o, DGet H2 a y o ∧ Q (.bl o.isSome) H2 := by
    funext y H1
    congr 1
    funext x H2
    exact propext ⟨fun ⟨a, v, e, d, q⟩ => ⟨a, e, v, d, q⟩, fun ⟨a, e, v, d, q⟩ => ⟨a, v, e, d, q⟩⟩
  show ty σ H _
  rw [e]
  exact h⟩
instance : Step (tDNotIn ty td σ H Q) (ty σ H fun y H1 => td σ H1 fun x H2 => ∃ a, x = .ref a ∧ ∃ o, DGet H2 a y o ∧ Q (.bl (!o.isSome)) H2) := ⟨fun h => by
  have e : (fun y H1 => td σ H1 fun x H2 => ∃ a o, x = .ref a ∧ DGet H2 a y o ∧ Q (.bl (!o.isSome)) H2) = fun (y : V) H1 => td σ H1 fun x H2 => ∃ a, x = .ref a ∧ ∃ o, DGet H2 a y o ∧ Q (.bl (!o.isSome)) H2 := by
    funext y H1
    congr 1
    funext x H2
    exact propext ⟨fun ⟨a, v, e, d, q⟩ => ⟨a, e, v, d, q⟩, fun ⟨a, e, v, d, q⟩ => ⟨a, v, e, d, q⟩⟩
  show ty σ H _
  rw [e]
  exact h⟩
instance : Step (sDPut td ty tv ⟨nx, rt, bk, ct⟩ σ H) (tv σ H fun v H1 => td σ H1 fun x H2 => ty σ H2 fun y H3 => ∃ a, x = .ref a ∧ ∃ H4, DPut H3 a y v H4 ∧ nx σ H4) := ⟨fun h => by
  have e : (fun v H1 => td σ H1 fun x H2 => ty σ H2 fun y H3 => ∃ a H4, x = .ref a ∧ DPut H3 a y v H4 ∧ nx σ H4) = fun (v : V) H1 => td σ H1 fun (x : V) H2 => ty σ H2 fun y H3 => ∃ a, x = .ref a ∧ ∃ H4, DPut H3 a y v H4 ∧ nx σ H4 := by
    funext v H1
    congr 1
    funext x H2
    congr 1
    funext y H3
    exact propext ⟨fun ⟨a, v, e, d, q⟩ => ⟨a, e, v, d, q⟩, fun ⟨a, e, v, d, q⟩ => ⟨a, v, e, d, q⟩⟩
  show tv σ H _
  rw [e]
  exact h⟩
instance : Step (tDGet2 td ty tx σ H Q) (td σ H fun x H1 => ∃ a, x = .ref a ∧ IsD H1 a ∧ ty σ H1 fun y H2 => tx σ H2 fun z H3 => ∃ o, DGet H3 a y o ∧ Q (o.getD z) H3) := ⟨fun h => h⟩
instance : Step (tDNewK σ H Q) (NewQ H fun p => Q (.ref p) (upd H p (.dK []))) := ⟨fun h => h⟩
theorem isD_of {a : Addr} {kvs : List (Key × V)} (h : H a = some (.dK kvs)) : IsD H a := .inl ⟨kvs, .inl h⟩
theorem dgetI {a : Addr} {kvs : List (Key × V)} {k : Int} {v : V} {R : V → Prop} (h : H a = some (.dK kvs)) (e : valV kvs (.inl k) = some v) (r : R v) : ∃ v, DGet H a (.int k) (some v) ∧ R v := ⟨v, e ▸ DGet.k (k := .inl k) h, r⟩
theorem dinI {a : Addr} {kvs : List (Key × V)} {k : Int} {R : Option V → Prop} (h : H a = some (.dK kvs)) (r : R (valV kvs (.inl k))) : ∃ o, DGet H a (.int k) o ∧ R o := ⟨_, DGet.k (k := .inl k) h, r⟩
theorem dputI {a : Addr} {kvs : List (Key × V)} {k : Int} {v : V} {R : Hp → Prop} (h : H a = some (.dK kvs)) (l : kvs.length < sizeLine) (r : R (upd H a (.dK (putK kvs (.inl k) v)))) : ∃ H', DPut H a (.int k) v H' ∧ R H' := ⟨_, DPut.k (k := .inl k) h l, r⟩
theorem dgetS {a : Addr} {kvs : List (Key × V)} {k : Str} {v : V} {R : V → Prop} (h : H a = some (.dK kvs)) (e : valV kvs (.inr k) = some v) (r : R v) : ∃ v, DGet H a (.str k) (some v) ∧ R v := ⟨v, e ▸ DGet.k (k := .inr k) h, r⟩
theorem dinS {a : Addr} {kvs : List (Key × V)} {k : Str} {R : Option V → Prop} (h : H a = some (.dK kvs)) (r : R (valV kvs (.inr k))) : ∃ o, DGet H a (.str k) o ∧ R o := ⟨_, DGet.k (k := .inr k) h, r⟩
theorem dputS {a : Addr} {kvs : List (Key × V)} {k : Str} {v : V} {R : Hp → Prop} (h : H a = some (.dK kvs)) (l : kvs.length < sizeLine) (r : R (upd H a (.dK (putK kvs (.inr k) v)))) : ∃ H', DPut H a (.str k) v H' ∧ R H' := ⟨_, DPut.k (k := .inr k) h l, r⟩
theorem putK_length {κ : Type} [DecidableEq κ] {kvs : List (κ × V)} {k : κ} {v : V} : (putK kvs k v).length ≤ kvs.length + 1 := by
  unfold putK
  split <;> simp
/-- range with a step down -/
instance {ta : TA} {R : It → Hp → Prop} : Step (iRng3 ta σ H R) (ta σ H fun vs H1 => ∃ (i j c : Int) (n : Nat), vs = [.int i, .int j, .int c] ∧ RgC i j c n ∧ R (Itc i c n) H1) := ⟨fun h => h⟩
theorem rng_down {i j : Int} {R : It → Hp → Prop} (h : -(2 ^ 62) ≤ i ∧ i < 2 ^ 62 ∧ -(2 ^ 62) ≤ j ∧ j < 2 ^ 62) (r : R (Itc i (-1) (i - j).toNat) H) : ∃ (i' j' c : Int) (n : Nat), [V.int i, V.int j, V.int (-1)] = [.int i', .int j', .int c] ∧ RgC i' j' c n ∧ R (Itc i' c n) H :=
  ⟨i, j, -1, _, rfl, RgC.neg h.1 h.2.1 h.2.2.1 h.2.2.2, r⟩
theorem for_rngC {g : TG} {tb : TS} {lo c : Int} {n : Nat} (Pv : Nat → L2.St → Hp → Prop) (h0 : Pv 0 σ H)
    (hs : ∀ (i : Nat) σ H, i < n → Pv i σ H → g (.int (lo + (i : Nat) * c)) σ H fun σ2 H2 => tb ⟨Pv (i + 1), rt, nx, Pv (i + 1)⟩ σ2 H2) (hd : ∀ σ H, Pv n σ H → nx σ H) : forG g tb ⟨nx, rt, bk, ct⟩ σ (Itc lo c n) H :=
  for_rangeC Pv h0 hs hd
theorem min_i {a : Addr} {ns : List Int} (h : H a = some (.lst (ns.map V.int))) (l : ns ≠ []) (q : ∀ m, m ∈ ns → (∀ y, y ∈ ns → m ≤ y) → Q (.int m) H) : rMin K [.ref a] H Q := ⟨a, ns, rfl, .of h, List.length_pos_iff.mpr l, q⟩
end
end Fl

-- after: va0.tpl dct.tpl
namespace Fl
open PySem PySem.Spec PyProof.Rows L2 RZ
/-! ### comes_to -/
/-- a list or a tuple of truths -/
def BoolsAt (H : Hp) (a : Addr) (bs : List Bool) : Prop := H a = some (.lst (bs.map V.bl)) ∨ H a = some (.tup (bs.map V.bl))
/-- papers by their words -/
def PapK (kvs : List (Key × V)) (f : Str → Int) : Prop := ∀ w, (valV kvs (.inr w)).getD (.int 0) = .int (f w)
structure SgtAt (H : Hp) (v : V) (F : Frm) (S : Sgt) : Prop where
  ex : ∃ (s l p e t k : Addr) (kvs : List (Key × V)) (ts : List V), v = .ref s ∧ H s = some (.tup [.ref l, .ref p, .ref e, .ref t, .ref k]) ∧ H l = some (.lst (S.lines.map V.int)) ∧ (H p = some (.dK kvs) ∧ PapK kvs S.papers) ∧
    H e = some (.lst (S.earl.map V.int)) ∧ (H t = some (.tup ts) ∧ AtAll H (S.tbs.map tbD) ts) ∧ BoolsAt H k S.tk
  tb : S.tbs = F.tbs
  ll : S.lines.length = F.rs.length
  le : S.earl = [] ∨ S.earl.length = F.rs.length
  lk : S.tk.length = F.C
theorem SgtAt.same {H H' : Hp} {v : V} {F : Frm} {S : Sgt} (h : SgtAt H v F S) (e : Same H H') : SgtAt H' v F S := by
  obtain ⟨s, l, p, e1, t, k, kvs, ts, h1, h2, h3, ⟨h4, h4'⟩, h5, ⟨h6, h6'⟩, h7⟩ := h.ex
  exact ⟨⟨s, l, p, e1, t, k, kvs, ts, h1, e _ _ h2, e _ _ h3, ⟨e _ _ h4, h4'⟩, e _ _ h5, ⟨e _ _ h6, h6'.le (Same.le e)⟩, h7.imp (e _ _) (e _ _)⟩, h.tb, h.ll, h.le, h.lk⟩
theorem bools_sq {K : PySem.W.Frag} {H : Hp} {a : Addr} {bs : List Bool} (h : BoolsAt H a bs) : IsSq K H a (bs.map V.bl) := by
  rcases h with h | h
  · exact sq_l h
  · exact sq_t h
theorem atI_getD {ls : List Int} {i : Int} (h0 : 0 ≤ i) (h1 : i < ls.length) : atI (ls.map V.int) i = some (.int (ls.getD i.toNat 0)) := by
  obtain ⟨n, rfl⟩ : ∃ n : Nat, i = n := ⟨i.toNat, by omega⟩
  have hl : n < ls.length := by omega
  rw [Int.toNat_natCast, List.getD_eq_getElem?_getD, List.getElem?_eq_getElem hl]
  exact atI_nat (by rw [List.getElem?_map, List.getElem?_eq_getElem hl]; rfl)
theorem atI_getB {ls : List Bool} {i : Int} (h0 : 0 ≤ i) (h1 : i < ls.length) : atI (ls.map V.bl) i = some (.bl (ls.getD i.toNat false)) := by
  obtain ⟨n, rfl⟩ : ∃ n : Nat, i = n := ⟨i.toNat, by omega⟩
  have hl : n < ls.length := by omega
  rw [Int.toNat_natCast, List.getD_eq_getElem?_getD, List.getElem?_eq_getElem hl]
  exact atI_nat (by rw [List.getElem?_map, List.getElem?_eq_getElem hl]; rfl)
theorem At.t2 {H : Hp} {w : Str} {a : PyData} {v : V} (h : At H (.tuple [.str w, a]) v) : ∃ x u, v = .ref x ∧ H x = some (.tup [.str w, u]) ∧ At H a u := by
  obtain ⟨x, us, rfl, hx, u0, r0, rfl, h0, u1, r1, rfl, h1, h2⟩ := h
  cases (show u0 = .str w from h0)
  cases (show r1 = [] from h2)
  exact ⟨x, u1, rfl, hx, h1⟩
theorem At.t3 {H : Hp} {w : Str} {a b : PyData} {v : V} (h : At H (.tuple [.str w, a, b]) v) : ∃ x u1 u2, v = .ref x ∧ H x = some (.tup [.str w, u1, u2]) ∧ At H a u1 ∧ At H b u2 := by
  obtain ⟨x, us, rfl, hx, u0, r0, rfl, h0, u1, r1, rfl, h1, u2, r2, rfl, h2, h3⟩ := h
  cases (show u0 = .str w from h0)
  cases (show r2 = [] from h3)
  exact ⟨x, u1, u2, rfl, hx, h1, h2⟩
theorem At.t4 {H : Hp} {w : Str} {a b c : PyData} {v : V} (h : At H (.tuple [.str w, a, b, c]) v) : ∃ x u1 u2 u3, v = .ref x ∧ H x = some (.tup [.str w, u1, u2, u3]) ∧ At H a u1 ∧ At H b u2 ∧ At H c u3 := by
  obtain ⟨x, us, rfl, hx, u0, r0, rfl, h0, u1, r1, rfl, h1, u2, r2, rfl, h2, u3, r3, rfl, h3, h4⟩ := h
  cases (show u0 = .str w from h0)
  cases (show r3 = [] from h4)
  exact ⟨x, u1, u2, u3, rfl, hx, h1, h2, h3⟩
section
variable {P : Program} {w : World} {K : PySem.W.Frag} {mg : Str → Option Value} {base : Heap}
abbrev s_joined : Stmt := topS 30
theorem sc_joined : FnScope ["kind", "one", "other"] ["kind", "one", "other"] (defScope s_joined) := ⟨rfl, rfl, rfl, by decide +kernel, rfl, by decide +kernel, by decide +kernel⟩
def sp_joined : Sp3 := fun a b c H Q _ => ∃ (w : Str) (x y : Int), a = .str w ∧ b = .int x ∧ c = .int y ∧ Q (.int (joinV w x y)) H
theorem ok_joined (M : Mg mg) (D : DefAt K mg "joined" s_joined ["kind", "one", "other"]) : Has P w K mg base "joined" ["kind", "one", "other"] 1 (sp3 sp_joined) := by
  refine .mk3 D sc_joined fun fa cdv A outer s0 H a b c Q E hr h => ⟨_, (pss_cons (ps_if (pt_cmpR (k_eq K rfl hr) (pv 0) pe_str (nomark _)) (pss_one (ps_ret (pe_op (k_add K rfl) (pv 1) (pv 2)))) pss_nil)
    (pss_cons (ps_if (pt_cmpR (k_eq K rfl hr) (pv 0) pe_str (nomark _)) (pss_one (ps_ret (pe_op o_sub (pv 1) (pv 2)))) pss_nil)
    (pss_cons (ps_if (pt_cmpR (k_eq K rfl hr) (pv 0) pe_str (nomark _)) (pss_one (ps_ret (pe_callB (c_min2 rfl) (by rfl) M.min (by decide +kernel) (pa_cons (pv 1) (pa_cons (pv 2) pa_nil))))) pss_nil)
    (pss_one (ps_ret (pe_callB (c_max2 rfl) (by rfl) M.max (by decide +kernel) (pa_cons (pv 1) (pa_cons (pv 2) pa_nil)))))))), ?_⟩
  obtain ⟨w, x, y, rfl, rfl, rfl, q⟩ := h
  unfold joinV at q
  refine Fl.go_start (σ0 := [some _, some _, some _]) rfl ?_
  walk_at "s"
  refine if_d (fun c => ?_) (fun c => ?_)
  · walk_at "s"
    rw [if_pos c] at q
    exact q
  rw [if_neg c] at q
  walk_at "s"
  refine if_d (fun c => ?_) (fun c => ?_)
  · walk_at "s"
    rw [if_pos c] at q
    exact q
  rw [if_neg c] at q
  walk_at "s"
  refine if_d (fun c => ?_) (fun c => ?_)
  · walk_at "s"
    rw [if_pos c] at q
    exact q
  rw [if_neg c] at q
  walk_at "s"
  exact q
instance {H : Hp} {Q : VK} {E : XK} {w : Str} {x y : Int} : Step (sp_joined (.str w) (.int x) (.int y) H Q E) (Q (.int (joinV w x y)) H) := ⟨fun q => ⟨w, x, y, rfl, rfl, rfl, q⟩⟩
abbrev s_comes_to : Stmt := topS 29
theorem sc_comes_to : FnScope ["rule", "sight", "kind", "one"] ["rule", "sight"] (defScope s_comes_to) := ⟨rfl, rfl, rfl, by decide +kernel, rfl, by decide +kernel, by decide +kernel⟩
def sp_comes (n : Nat) : Sp2 := fun a b H Q _ => ∃ (F : Frm) (S : Sgt) (r : Rule), F.Ok 40 ∧ At H r.d a ∧ r.ok F.g n ∧ SgtAt H b F S ∧ ∀ H', Same H H' → Q (.int (r.val S)) H'
theorem ok_comes_step {n : Nat} (M : Mg mg) (G_at_number : Has P w K mg base "at_number" ["table", "number"] 1 (sp2 sp_at_number)) (G_joined : Has P w K mg base "joined" ["kind", "one", "other"] 1 (sp3 sp_joined))
    (G_comes_to : Has P w K mg base "comes_to" ["rule", "sight"] (n + 1) (sp2 (sp_comes n))) (D : DefAt K mg "comes_to" s_comes_to ["rule", "sight"]) : Has P w K mg base "comes_to" ["rule", "sight"] (n + 1 + 1) (sp2 (sp_comes (n + 1))) := by
  refine .mk2 D sc_comes_to fun fa cdv A outer s0 H a b Q E hr h => ⟨_, (pss_cons (ps_set (i := 2) sc_comes_to.nd rfl (by first | exact Or.inl rfl | exact Or.inr rfl) (pe_ix (k_ix K rfl) (pv 0) pe_int (fun _ _ => rfl)))
    (pss_cons (ps_if (pt_cmpR (k_eq K rfl hr) (pv 2) pe_str (nomark _)) (pss_one (ps_ret (pe_ix (k_ix K rfl) (pv 0) pe_int (fun _ _ => rfl)))) pss_nil)
    (pss_cons (ps_if (pt_cmpR (k_eq K rfl hr) (pv 2) pe_str (nomark _)) (pss_one (ps_ret (pe_ix (k_ix K rfl) (pe_ix (k_ix K rfl) (pv 1) pe_int (fun _ _ => rfl)) (pe_ix (k_ix K rfl) (pv 0) pe_int (fun _ _ => rfl)) (fun _ _ => rfl)))) pss_nil)
    (pss_cons (ps_if (pt_cmpR (k_eq K rfl hr) (pv 2) pe_str (nomark _)) (pss_one (ps_ret (pe_dget2 (hu_of hr) (pe_ix (k_ix K rfl) (pv 1) pe_int (fun _ _ => rfl)) (pe_ix (k_ix K rfl) (pv 0) pe_int (fun _ _ => rfl)) pe_int ⟨rfl, rfl, rfl, rfl⟩))) pss_nil)
    (pss_cons (ps_if (pt_cmpR (k_eq K rfl hr) (pv 2) pe_str (nomark _)) (pss_one (ps_ret (pe_ifExp (pt_cmpR (k_neE K rfl hr) (pe_ix (k_ix K rfl) (pv 1) pe_int (fun _ _ => rfl)) (pe_lst pa_nil) (nomark _)) (pe_ix (k_ix K rfl) (pe_ix (k_ix K rfl) (pv 1) pe_int (fun _ _ => rfl)) (pe_ix (k_ix K rfl) (pv 0) pe_int (fun _ _ => rfl)) (fun _ _ => rfl)) pe_int))) pss_nil)
    (pss_cons (ps_if (pt_cmpR (k_eq K rfl hr) (pv 2) pe_str (nomark _)) (pss_one (ps_ret (pe_own G_at_number (hr.mono (by first | decide | omega)) (by rfl) p_body (pa_cons (pe_ix (k_ix K rfl) (pe_ix (k_ix K rfl) (pv 1) pe_int (fun _ _ => rfl)) (pe_ix (k_ix K rfl) (pv 0) pe_int (fun _ _ => rfl)) (fun _ _ => rfl)) (pa_cons (pe_own G_comes_to (hr.mono (by first | decide | omega)) (by rfl) p_body (pa_cons (pe_ix (k_ix K rfl) (pv 0) pe_int (fun _ _ => rfl)) (pa_cons (pv 1) pa_nil))) pa_nil))))) pss_nil)
    (pss_cons (ps_if (pt_cmpR (k_eq K rfl hr) (pv 2) pe_str (nomark _)) (pss_one (ps_ret (pe_own G_comes_to (hr.mono (by first | decide | omega)) (by rfl) p_body (pa_cons (pe_ifExp (pt_val (pe_ix (k_ix K rfl) (pe_ix (k_ix K rfl) (pv 1) pe_int (fun _ _ => rfl)) (pe_ix (k_ix K rfl) (pv 0) pe_int (fun _ _ => rfl)) (fun _ _ => rfl))) (pe_ix (k_ix K rfl) (pv 0) pe_int (fun _ _ => rfl)) (pe_ix (k_ix K rfl) (pv 0) pe_int (fun _ _ => rfl))) (pa_cons (pv 1) pa_nil))))) pss_nil)
    (pss_cons (ps_set (i := 3) sc_comes_to.nd rfl (by first | exact Or.inl rfl | exact Or.inr rfl) (pe_own G_comes_to (hr.mono (by first | decide | omega)) (by rfl) p_body (pa_cons (pe_ix (k_ix K rfl) (pv 0) pe_int (fun _ _ => rfl)) (pa_cons (pv 1) pa_nil))))
    (pss_cons (ps_if (pt_cmpR (k_eq K rfl hr) (pv 2) pe_str (nomark _)) (pss_one (ps_ret (pe_op o_div (pe_op o_mul (pv 3) (pe_ix (k_ix K rfl) (pv 0) pe_int (fun _ _ => rfl))) pe_int))) pss_nil)
    (pss_cons (ps_if (pt_cmpR (k_eq K rfl hr) (pv 2) pe_str (nomark _)) (pss_one (ps_ret (pe_own G_comes_to (hr.mono (by first | decide | omega)) (by rfl) p_body (pa_cons (pe_ifExp (pt_cmpR o_gt (pv 3) pe_int (nomark _)) (pe_ix (k_ix K rfl) (pv 0) pe_int (fun _ _ => rfl)) (pe_ix (k_ix K rfl) (pv 0) pe_int (fun _ _ => rfl))) (pa_cons (pv 1) pa_nil))))) pss_nil)
    (pss_one (ps_ret (pe_own G_joined (hr.mono (by first | decide | omega)) (by rfl) p_body (pa_cons (pv 2) (pa_cons (pv 3) (pa_cons (pe_own G_comes_to (hr.mono (by first | decide | omega)) (by rfl) p_body (pa_cons (pe_ix (k_ix K rfl) (pv 0) pe_int (fun _ _ => rfl)) (pa_cons (pv 1) pa_nil))) pa_nil)))))))))))))))), ?_⟩
  obtain ⟨F, S, r, ok, hat, hok, hS, q⟩ := h
  have hSx := hS
  obtain ⟨s, l, p, e, t, k, kvs, ts, rfl, hs, hl, ⟨hp, hpk⟩, he, ⟨ht, hts⟩, hk⟩ := hSx.ex
  have ll := hS.ll
  have lk := hS.lk
  have tb := hS.tb
  refine Fl.go_start (σ0 := [some _, some _, none, none]) rfl ?_
  cases r with
  | num i =>
    obtain ⟨x, u, rfl, hx, h1⟩ := At.t2 hat
    cases (show u = .int i from h1)
    walk_at "s"
    exact q _ (.refl _)
  | line i =>
    obtain ⟨x, u, rfl, hx, h1⟩ := At.t2 hat
    cases (show u = .int i from h1)
    have hi := mem_rangeI.mp (show i ∈ rangeI F.rs.length from hok)
    walk_at "s"
    refine ex_v (atI_getD hi.1 (by omega)) ?_
    exact q _ (.refl _)
  | paper x =>
    obtain ⟨x', u, rfl, hx, h1⟩ := At.t2 hat
    cases (show u = .str x from h1)
    walk_at "s"
    refine ⟨isD_of hp, ?_⟩
    walk_at "s"
    refine dinS hp ?_
    rw [hpk x]
    exact q _ (.refl _)
  | earl i =>
    obtain ⟨x, u, rfl, hx, h1⟩ := At.t2 hat
    cases (show u = .int i from h1)
    have hi := (show 0 ≤ i ∧ i < (F.rs.length : Int) from hok)
    have q' : ∀ H', Same H H' → Q (.int (S.ear i)) H' := q
    unfold Sgt.ear at q'
    walk_at "s"
    rename_i pe hpe
    refine ne_eI (by walk_at "hp") (by walk_at "hp") ?_
    walk_at "s"
    by_cases c : S.earl = []
    · rw [if_pos c] at q'
      rw [c]
      walk_at "s"
      exact q' _ (by walk_at "sm")
    · rw [if_neg c] at q'
      have c' : S.earl.isEmpty = false := by simpa using c
      have le := hS.le.resolve_left c
      rw [c']
      walk_at "s"
      refine ex_v (atI_getD hi.1 (by omega)) ?_
      exact q' _ (by walk_at "sm")
  | two x y z =>
    obtain ⟨x', u1, u2, rfl, hx, h1, h2⟩ := At.t3 hat
    have hw := hok.1
    have n1 : ¬ x = "number" := by rintro rfl; exact absurd hw (by unfold op4; decide +kernel)
    have n2 : ¬ x = "line" := by rintro rfl; exact absurd hw (by unfold op4; decide +kernel)
    have n3 : ¬ x = "paper" := by rintro rfl; exact absurd hw (by unfold op4; decide +kernel)
    have n4 : ¬ x = "earlier" := by rintro rfl; exact absurd hw (by unfold op4; decide +kernel)
    have n5 : ¬ x = "table" := by rintro rfl; exact absurd hw (by unfold op4; decide +kernel)
    have n6 : ¬ x = "choose" := by rintro rfl; exact absurd hw (by unfold op4; decide +kernel)
    have n7 : ¬ x = "part" := by rintro rfl; exact absurd hw (by unfold op4; decide +kernel)
    have n8 : ¬ x = "where" := by rintro rfl; exact absurd hw (by unfold op4; decide +kernel)
    walk_at "s"
    refine if_df n1 ?_
    walk_at "s"
    refine if_df n2 ?_
    walk_at "s"
    refine if_df n3 ?_
    walk_at "s"
    refine if_df n4 ?_
    walk_at "s"
    refine if_df n5 ?_
    walk_at "s"
    refine if_df n6 ?_
    walk_at "s"
    refine ⟨F, S, y, ok, h1, hok.2.1, hS, fun H1 sm1 => ?_⟩
    have hx1 := sm1 _ _ hx
    walk_at "s"
    refine if_df n7 ?_
    walk_at "s"
    refine if_df n8 ?_
    walk_at "s"
    refine ⟨F, S, z, ok, h2.le (Same.le sm1), hok.2.2, hS.same sm1, fun H2 sm2 => ?_⟩
    walk_at "s"
    exact q _ (L2.Same.trans sm1 sm2)
  | part x i =>
    obtain ⟨x', u1, u2, rfl, hx, h1, h2⟩ := At.t3 hat
    cases (show u2 = .int i from h2)
    have hi := hok.1
    walk_at "s"
    refine ⟨F, S, x, ok, h1, hok.2, hS, fun H1 sm1 => ?_⟩
    have hx1 := sm1 _ _ hx
    walk_at "s"
    exact q _ sm1
  | table i x =>
    obtain ⟨x', u1, u2, rfl, hx, h1, h2⟩ := At.t3 hat
    cases (show u1 = .int i from h1)
    have hi := (show 0 ≤ i ∧ i < (F.tbs.length : Int) from hok.1)
    obtain ⟨n', rfl⟩ : ∃ n' : Nat, i = n' := ⟨i.toNat, by omega⟩
    obtain ⟨rows, er⟩ : ∃ rows, S.tbs[n']? = some rows := ⟨S.tbs[n']'(by rw [tb]; omega), List.getElem?_eq_getElem _⟩
    obtain ⟨v0, ev0, hv0⟩ := hts.get (i := n') (d := tbD rows) (by rw [List.getElem?_map, er]; rfl)
    have dr := ok.tb rows (by rw [← tb]; exact List.mem_of_getElem? er)
    walk_at "s"
    refine ex_v (atI_nat ev0) ?_
    walk_at "s"
    refine ⟨F, S, x, ok, h2, hok.2, hS, fun H1 sm1 => ?_⟩
    walk_at "s"
    refine ⟨rows, x.val S, hv0.le (Same.le sm1), rfl, dr.small, ?_⟩
    have e : (Rule.table n' x).val S = atTab rows (x.val S) := by
      simp only [Rule.val]
      rw [Int.toNat_natCast, List.getD_eq_getElem?_getD, er]
      rfl
    rw [← e]
    exact q _ sm1
  | wher x y z =>
    obtain ⟨x', u1, u2, u3, rfl, hx, h1, h2, h3⟩ := At.t4 hat
    walk_at "s"
    refine ⟨F, S, x, ok, h1, hok.1, hS, fun H1 sm1 => ?_⟩
    have hx1 := sm1 _ _ hx
    have e : (Rule.wher x y z).val S = if 0 < x.val S then y.val S else z.val S := rfl
    walk_at "s"
    refine if_d (fun c => ?_) (fun c => ?_)
    · rw [e, if_pos c] at q
      walk_at "s"
      refine ⟨F, S, y, ok, h2.le (Same.le sm1), hok.2.1, hS.same sm1, fun H2 sm2 => ?_⟩
      exact q _ (L2.Same.trans sm1 sm2)
    · rw [e, if_neg c] at q
      walk_at "s"
      refine ⟨F, S, z, ok, h3.le (Same.le sm1), hok.2.2, hS.same sm1, fun H2 sm2 => ?_⟩
      exact q _ (L2.Same.trans sm1 sm2)
  | choo i x y =>
    obtain ⟨x', u1, u2, u3, rfl, hx, h1, h2, h3⟩ := At.t4 hat
    cases (show u1 = .int i from h1)
    have hi := (show 0 ≤ i ∧ i < (F.C : Int) from hok.1)
    have hkk := bools_sq (K := K) hk
    have e : (Rule.choo i x y).val S = if S.tk.getD i.toNat false = true then y.val S else x.val S := rfl
    walk_at "s"
    refine ex_v (atI_getB hi.1 (by omega)) ?_
    walk_at "s"
    cases c : S.tk.getD i.toNat false with
    | true =>
      rw [e, if_pos c] at q
      walk_at "s"
      refine ⟨F, S, y, ok, h3, hok.2.2, hS, fun H2 sm2 => ?_⟩
      exact q _ sm2
    | false =>
      rw [e, c] at q
      walk_at "s"
      refine ⟨F, S, x, ok, h2, hok.2.1, hS, fun H2 sm2 => ?_⟩
      exact q _ sm2
theorem ok_comes_to (M : Mg mg) (G_at_number : Has P w K mg base "at_number" ["table", "number"] 1 (sp2 sp_at_number)) (G_joined : Has P w K mg base "joined" ["kind", "one", "other"] 1 (sp3 sp_joined)) (D : DefAt K mg "comes_to" s_comes_to ["rule", "sight"]) :
    ∀ n : Nat, Has P w K mg base "comes_to" ["rule", "sight"] (n + 1) (sp2 (sp_comes n))
  | 0 => Has.none_left D fun vs H Q E h => by
    obtain ⟨_, _, _, F, S, r, _, _, h, _⟩ := h
    exact h
  | n + 1 => ok_comes_step M G_at_number G_joined (ok_comes_to M G_at_number G_joined D n) D
end
end Fl

-- after: gen0.tpl
namespace Fl
open PySem PySem.Spec PyProof.Rows L2 RZ
/-! ### what is refused -/
/-- a class of refusals -/
structure ExcT (K : PySem.W.Frag) (mg : Str → Option Value) (x : Str) (C : Addr) : Prop where
  xC : PySem.W.excIn K C [.type "ValueError", .type "Exception", .type "BaseException", .type "object"] "ValueError.__new__" = true
  gC : mg x = some (.ref C)
  kC : PySem.W.keepIn K (.ref C) = true
  bC : PySem.W.subIn K (.ref C) (.type "BaseException") = some true
  tC : PySem.W.typeIn K (.ref C) = some (.type "type")
  dC : PySem.W.hasDictIn K C = true
section
variable {X : L2.Cx} {x : Str} {ps : List Str} {k : Nat} {sp : Sp} {E : L2.St → XK} {p pos : Pos} {e : Expr} {es : List Expr} {t : TA}
theorem pe_gcls {c : Addr} (hg : Gl X x) (h : X.mg x = some (.ref c)) (hd : (x == ("__debug__" : Str)) = false := by decide) : PE X (.Name x pos) (tC (.ref c)) := pe_glob hg h rfl hd
/-- a call within a try -/
theorem pe_ownS (h : Has X.prog X.w X.K X.mg X.base x ps k sp) (hr : Room k X.A) (hg : Gl X x) (hx : ∀ σ, PassesAt (L2.CX X.prog X.w) X σ (E σ))
    (ha : PA X (e :: es) t) (hdb : (x == ("__debug__" : Str)) = false := by decide) (he : starEach (e :: es) X.env = (false, eval e X.env) :: starEach es X.env := by rfl) (hpl : (backTo pos (starEach es X.env)).any (·.1) = false := by rfl) :
    PE X (.Call (.Name x p) (e :: es) [] pos) (tCallS sp E t) := by
  obtain ⟨f, fd, F, hm, hk, hb⟩ := h.ex
  exact pe_callS F hr hg hm hk hb hx ha hdb he hpl
end
section
variable {σ : L2.St} {H : Hp} {Q : VK} {sp : Sp} {E : L2.St → XK} {t : TA}
instance : Step (tCallS sp E t σ H Q) (t σ H fun vs H1 => sp vs H1 Q (E σ)) := ⟨fun h => h⟩
end
/-- the clause that takes it, the clause that does not -/
theorem wm_yes {K : PySem.W.Frag} {Wo : WX} {D : Ends} {c cls : Value} {d : Option Addr} {ts : Addr → Value → Option Addr → TS} {r : List (Value × (Addr → Value → Option Addr → TS))} {σ : L2.St} {H : Hp} (e : PySem.W.exmOne K cls c = some true) (q : ∀ a, H a = none → ts a cls d D σ H) :
    WE (wMany K Wo D ((c, ts) :: r)) σ cls d H := ⟨true, e, fun _ => q, fun z => nomatch z⟩
theorem wm_no {K : PySem.W.Frag} {Wo : WX} {D : Ends} {c cls : Value} {d : Option Addr} {ts : Addr → Value → Option Addr → TS} {r : List (Value × (Addr → Value → Option Addr → TS))} {σ : L2.St} {H : Hp} (e : PySem.W.exmOne K cls c = some false) (q : WE (wMany K Wo D r) σ cls d H) :
    WE (wMany K Wo D ((c, ts) :: r)) σ cls d H := ⟨false, e, (fun z => nomatch z), fun _ => q⟩
theorem was_yes {K : PySem.W.Frag} {Wo : WX} {D : Ends} {c cls : Value} {d : Option Addr} {i : Nat} {ts : Addr → Value → Option Addr → TS} {σ : L2.St} {H : Hp} (e : PySem.W.exmOne K cls c = some true)
    (q : ∀ a, H a = none → ts a cls d { nx := fun σ' H' => D.nx (σ'.set i none) H', rt := D.rt, bk := fun σ' H' => D.bk (σ'.set i none) H', ct := fun σ' H' => D.ct (σ'.set i none) H' } (σ.set i (some (.ref a))) H) :
    WE (wAs K c i ts Wo D) σ cls d H := ⟨true, e, fun _ => q, fun z => nomatch z⟩
end Fl

-- after: va1.tpl ex.tpl
namespace Fl
open PySem PySem.Spec PyProof.Rows L2 RZ
/-! ### papers, a year -/
def prD (p : Str × Int) : PyData := .tuple [.str p.1, .int p.2]
def papF (ps : List (Str × Int)) (w : Str) : Int := ((ps.find? fun p => decide (p.1 = w)).map (·.2)).getD 0
structure PapOk (ps : List (Str × Int)) : Prop where
  wd : ∀ p ∈ ps, WdT p.1
  num : ∀ p ∈ ps, -1000000000 ≤ p.2 ∧ p.2 ≤ 1000000000
  nd : (ps.map (·.1)).Nodup
  few : ps.length ≤ 60
/-- the dict of these -/
def DicOf (ps : List (Str × Int)) (kvs : List (Key × V)) : Prop := ∀ w, valV kvs (.inr w) = ((ps.find? fun p => decide (p.1 = w)).map (·.2)).map V.int
theorem DicOf.papK {ps : List (Str × Int)} {kvs : List (Key × V)} (h : DicOf ps kvs) : PapK kvs (papF ps) := fun w => by
  rw [h w]
  unfold papF
  cases (ps.find? fun p => decide (p.1 = w)).map (·.2) <;> rfl
theorem DicOf.put {ps : List (Str × Int)} {kvs : List (Key × V)} {p : Str × Int} (h : DicOf ps kvs) (no : p.1 ∉ ps.map (·.1)) : DicOf (ps ++ [p]) (putK kvs (.inr p.1) (.int p.2)) := fun w => by
  rw [valV_put, List.find?_append]
  by_cases c : w = p.1
  · subst c
    have e : ps.find? (fun x => decide (x.1 = p.1)) = none := by
      rw [List.find?_eq_none]
      intro x hx
      have : x.1 ≠ p.1 := fun e => no (e ▸ List.mem_map.mpr ⟨x, hx, rfl⟩)
      simpa using this
    rw [if_pos rfl, e]
    simp
  · rw [if_neg (fun e => c (Sum.inr.inj e)), h w]
    have e : [p].find? (fun x => decide (x.1 = w)) = none := by
      rw [List.find?_eq_none]
      intro x hx
      rw [List.mem_singleton.mp hx]
      simpa using fun e : p.1 = w => c e.symm
    rw [e]
    cases ps.find? (fun x => decide (x.1 = w)) <;> rfl
theorem DicOf.no {ps : List (Str × Int)} {kvs : List (Key × V)} {w : Str} (h : DicOf ps kvs) (no : w ∉ ps.map (·.1)) : valV kvs (.inr w) = Option.none := by
  rw [h w]
  have e : ps.find? (fun x => decide (x.1 = w)) = none := by
    rw [List.find?_eq_none]
    intro x hx
    have : x.1 ≠ w := fun e => no (e ▸ List.mem_map.mpr ⟨x, hx, rfl⟩)
    simpa using this
  rw [e]
  rfl
/-- no paper, behind these -/
def BadP (ps : List (Str × Int)) (x y : PyData) : Prop := okD x = true ∧ (isWord x = false ∨ isWord x = true ∧ isNumber y = false ∨ ∃ w z, x = .str w ∧ y = .int z ∧ isWord x = true ∧ isNumber y = true ∧ w ∈ ps.map (·.1))
def PapBad (H : Hp) (b : V) : Prop := ∃ (l : Addr) (vs : List V) (ps : List (Str × Int)) (x y : PyData) (rest : List PyData), b = .ref l ∧ H l = some (.lst vs) ∧ AtAll H (ps.map prD ++ .tuple [x, y] :: rest) vs ∧ PapOk ps ∧ BadP ps x y
theorem PapBad.same {H H' : Hp} {b : V} (h : PapBad H b) (e : Same H H') : PapBad H' b := by
  obtain ⟨l, vs, ps, x, y, rest, e1, e2, e3, e4⟩ := h
  exact ⟨l, vs, ps, x, y, rest, e1, e _ _ e2, e3.le (Same.le e), e4⟩
section
variable {P : Program} {w : World} {K : PySem.W.Frag} {mg : Str → Option Value} {base : Heap}
abbrev s_papers_of : Stmt := topS 40
theorem sc_papers_of : FnScope ["pairs", "found", "pair"] ["pairs"] (defScope s_papers_of) := ⟨rfl, rfl, rfl, by decide +kernel, rfl, by decide +kernel, by decide +kernel⟩
def sp_papers_of : Sp1 := fun a H Q _ => ∃ (l : Addr) (vs : List V) (ps : List (Str × Int)), a = .ref l ∧ H l = some (.lst vs) ∧ AtAll H (ps.map prD) vs ∧ PapOk ps ∧ ∀ p H' kvs, Same H H' → H p = none → H' p = some (.dK kvs) → DicOf ps kvs → Q (.ref p) H'
/-- .. or the papers are none -/
def sp_papersX (CP : Addr) : Sp1 := fun a H Q E => ∃ (l : Addr) (vs : List V) (ps : List (Str × Int)) (tl : List PyData), a = .ref l ∧ H l = some (.lst vs) ∧ AtAll H (ps.map prD ++ tl) vs ∧ PapOk ps ∧
  ((tl = [] ∧ ∀ p H' kvs, Same H H' → H p = none → H' p = some (.dK kvs) → DicOf ps kvs → Q (.ref p) H') ∨ ∃ x y rest, tl = .tuple [x, y] :: rest ∧ BadP ps x y ∧ ∀ H', Same H H' → E (.ref CP) none H')
theorem papX_good {CP : Addr} {a : V} {H : Hp} {Q : VK} {E : XK} (h : sp_papers_of a H Q E) : sp_papersX CP a H Q E := by
  obtain ⟨l, vs, ps, e, hl, hv, ok, q⟩ := h
  exact ⟨l, vs, ps, [], e, hl, by rw [List.append_nil]; exact hv, ok, .inl ⟨rfl, q⟩⟩
theorem papX_bad {CP : Addr} {a : V} {H : Hp} {Q : VK} {E : XK} (h : PapBad H a) (q : ∀ H', Same H H' → E (.ref CP) none H') : sp_papersX CP a H Q E := by
  obtain ⟨l, vs, ps, x, y, rest, e, hl, hv, ok, b⟩ := h
  exact ⟨l, vs, ps, _, e, hl, hv, ok, .inr ⟨x, y, rest, rfl, b, q⟩⟩
theorem ok_papers_of {CP : Addr} (M : Mg mg) (T_NoPaper : ExcT K mg "NoPaper" CP) (G_is_word : Has P w K mg base "is_word" ["thing"] 1 (sp1 sp_is_word)) (G_is_number : Has P w K mg base "is_number" ["thing"] 2 (sp1 sp_is_number)) (D : DefAt K mg "papers_of" s_papers_of ["pairs"]) :
    Has P w K mg base "papers_of" ["pairs"] 3 (sp1 (sp_papersX CP)) := by
  refine .mk1 D sc_papers_of fun fa cdv A outer s0 H a Q E hr h => ⟨_, (pss_cons (ps_set (i := 1) sc_papers_of.nd rfl (by first | exact Or.inl rfl | exact Or.inr rfl) pe_dnewK)
    (pss_cons (ps_for own_p (by rfl) (k_pi K rfl (pv 0)) (pg_name (i := 2) sc_papers_of.nd rfl (by first | exact Or.inl rfl | exact Or.inr rfl)) (pss_cons (ps_if (PW.pt (pw_or (pt_not (pt_val (pe_own G_is_word (hr.mono (by first | decide | omega)) (by rfl) p_body (pa_cons (pe_ix (k_ix K rfl) (pv 2) pe_int (fun _ _ => rfl)) pa_nil)))) (pw_or (pt_not (pt_val (pe_own G_is_number (hr.mono (by first | decide | omega)) (by rfl) p_body (pa_cons (pe_ix (k_ix K rfl) (pv 2) pe_int (fun _ _ => rfl)) pa_nil)))) (pw_or1 (pt_cmp (pc_din (hu_of hr) (pe_ix (k_ix K rfl) (pv 2) pe_int (fun _ _ => rfl)) (pv 1))))))) (pss_one (ps_raise (by rfl) t_body (pmk_own PySem.F.excBase_ValueError T_NoPaper.xC T_NoPaper.gC T_NoPaper.kC (raises_own T_NoPaper.bC T_NoPaper.tC) (by exact rfl)))) pss_nil)
    (pss_one (ps_dput (hu_of hr) (pv 1) (pe_ix (k_ix K rfl) (pv 2) pe_int (fun _ _ => rfl)) (pe_ix (k_ix K rfl) (pv 2) pe_int (fun _ _ => rfl)) rfl))))
    (pss_one (ps_ret (pv 1))))), ?_⟩
  obtain ⟨l, vs, ps, tl, rfl, hl, hvs, ok, q⟩ := h
  have lvs := hvs.length
  rw [List.length_append, List.length_map] at lvs
  have few := ok.few
  refine Fl.go_start (σ0 := [some _, none, none]) rfl ?_
  walk_at "s"
  rename_i d hd
  refine for_lst (fun i σ' H' => i ≤ ps.length ∧ ∃ (kvs : List (Key × V)) (y2 : Option V), σ' = [some (.ref l), some (.ref d), y2] ∧ H' d = some (.dK kvs) ∧ DicOf (ps.take i) kvs ∧ kvs.length ≤ i ∧ Same H H') (by walk_at "hp") ⟨Nat.zero_le _, [], none, rfl, upd_same, fun w => by simp [valV_nil], by simp, by walk_at "sm"⟩ (fun i σ' H' _ ⟨_, _, _, _, _, _, _, e⟩ => e _ _ hl) ?_ ?_
  · rintro i x σ' H1 ex ⟨ile, kvs, y2, rfl, hd1, hk, lk, sm⟩
    obtain ⟨d0, ed, hx⟩ := hvs.ix ex
    by_cases il : i < ps.length
    · obtain ⟨pr, ep, rfl⟩ : ∃ pr, ps[i]? = some pr ∧ d0 = prD pr := by
        rw [List.getElem?_append_left (by rw [List.length_map]; exact il), List.getElem?_map, List.getElem?_eq_getElem il] at ed
        exact ⟨_, List.getElem?_eq_getElem il, (Option.some.inj ed).symm⟩
      have pm := List.mem_of_getElem? ep
      obtain ⟨t, u, rfl, ht, hu⟩ := At.t2 hx
      cases (show u = .int pr.2 from hu)
      have ht1 := sm _ _ ht
      have wd := ok.wd pr pm
      have okd := wd.ok.ok (Nat.le_refl _)
      have no : pr.1 ∉ (ps.take i).map (·.1) := fun h => by
        obtain ⟨p2, hp2, e2⟩ := List.mem_map.mp h
        obtain ⟨j, hj, e3⟩ := List.getElem_of_mem hp2
        rw [List.length_take] at hj
        rw [List.getElem_take] at e3
        have nd := List.pairwise_iff_getElem.mp ok.nd j i (by simp; omega) (by simp; omega) (by omega)
        apply nd
        rw [List.getElem_map, List.getElem_map, e3, e2]
        congr 1
        exact (Option.some.inj ((List.getElem?_eq_getElem il).symm.trans ep)).symm
      have rg := ok.num pr pm
      walk_at "s"
      rename_i H2 sm2
      rw [wd.word]
      walk_at "s"
      rw [show isNumber (.int pr.2) = true from isWhole_of rg.1 rg.2]
      have hd2 := sm2 _ _ hd1
      have ht2 := sm2 _ _ ht1
      walk_at "s"
      refine dinS hd2 ?_
      rw [hk.no no]
      walk_at "s"
      refine dputS hd2 (show kvs.length + 1 ≤ sizeLine from small_of (by omega)) ?_
      walk_at "s"
      refine ⟨_, _, rfl, upd_same, ?_, ?_, ?_⟩
      · rw [List.take_add_one, ep]
        exact hk.put no
      · exact Nat.le_trans putK_length (by omega)
      · exact Same.mut (L2.Same.trans sm sm2) hd
    · have ie : i = ps.length := by omega
      subst ie
      rw [List.take_length] at hk
      rw [List.getElem?_append_right (by rw [List.length_map]; exact Nat.le_refl _), List.length_map, Nat.sub_self] at ed
      rcases q with ⟨rfl, q⟩ | ⟨x0, y0, rest, rfl, hb, q⟩
      · cases ed
      cases (Option.some.inj ed)
      obtain ⟨t, us, rfl, ht, u0, r0, rfl, h0, u1, r1, rfl, h1, h2⟩ := hx
      cases (show r1 = [] from h2)
      have ht1 := sm _ _ ht
      have g0 := h0.le (Same.le sm)
      have g1 := h1.le (Same.le sm)
      obtain ⟨bk, hb⟩ := hb
      walk_at "s"
      rcases hb with h | ⟨h, h'⟩ | ⟨w, z, rfl, rfl, h, h', hm⟩
      · rw [h]
        walk_at "s"
        exact q _ (by walk_at "sm")
      · rw [h]
        walk_at "s"
        rw [h']
        walk_at "s"
        exact q _ (by walk_at "sm")
      · rw [h]
        walk_at "s"
        rw [h']
        walk_at "s"
        cases (show u0 = .str w from g0)
        refine dinS (by walk_at "hp") ?_
        rw [hk w]
        obtain ⟨pq, hq, eq⟩ := List.mem_map.mp hm
        obtain ⟨pf, ef⟩ : ∃ pf, ps.find? (fun p => decide (p.1 = w)) = some pf := by
          cases e : ps.find? (fun p => decide (p.1 = w)) with
          | some pf => exact ⟨pf, rfl⟩
          | none => exact absurd eq (by simpa using List.find?_eq_none.mp e pq hq)
        rw [ef]
        walk_at "s"
        exact q _ (by walk_at "sm")
  · rintro σ' H1 ⟨ile, kvs, y2, rfl, hd1, hk, lk, sm⟩
    rcases q with ⟨rfl, q⟩ | ⟨x0, y0, rest, rfl, hb, q⟩
    · walk_at "s"
      rw [lvs, List.length_nil, Nat.add_zero, List.take_length] at hk
      exact q d H1 kvs sm hd hd1 hk
    · rw [List.length_cons] at lvs
      omega
end
end Fl

-- after: ext.tpl
namespace Fl
open PySem PySem.Spec PyProof.Rows L2 RZ
/-! ### whole numbers that are taken by a test -/
def selF (p : Int → Bool) : V → Option V
  | .int o => if p o = true then some (.int o) else none
  | _ => none
theorem selF_int {p : Int → Bool} {o : Int} : selF p (.int o) = if p o = true then some (.int o) else none := rfl
theorem selF_is {p : Int → Bool} {o : Int} : (selF p (.int o)).isSome = p o := by
  rw [selF_int]
  cases p o <;> rfl
theorem selF_eq {p : Int → Bool} {o : Int} {y : V} (h : selF p (.int o) = some y) : y = .int o ∧ p o = true := by
  rw [selF_int] at h
  split at h
  · rename_i c
    exact ⟨(Option.some.inj h).symm, c⟩
  · cases h
theorem selF_map {p : Int → Bool} : ∀ ns : List Int, (ns.map V.int).filterMap (selF p) = (ns.filter p).map V.int
  | [] => rfl
  | o :: r => by
    rw [List.map_cons, List.filterMap_cons, List.filter_cons, selF_map r, selF_int]
    cases p o <;> rfl
theorem map_int_get {ns : List Int} {i : Nat} {x : V} (h : (ns.map V.int)[i]? = some x) : ∃ o, ns[i]? = some o ∧ x = .int o := by
  rw [List.getElem?_map] at h
  cases e : ns[i]? with
  | none => rw [e] at h; cases h
  | some o => rw [e] at h; exact ⟨o, rfl, (Option.some.inj h).symm⟩
theorem map_bl_get {ns : List Int} {p : Int → Bool} {i : Nat} {o : Int} {y : V} (h : ((ns.map p).map V.bl)[i]? = some y) (e : ns[i]? = some o) : y = .bl (p o) := by
  rw [List.getElem?_map, List.getElem?_map, e] at h
  exact (Option.some.inj h).symm
end Fl

-- after: va2.tpl sel.tpl
namespace Fl
open PySem PySem.Spec PyProof.Rows L2 RZ
theorem BoolsAt.same {H H' : Hp} {a : Addr} {bs : List Bool} (h : BoolsAt H a bs) (e : Same H H') : BoolsAt H' a bs := h.imp (e _ _) (e _ _)
/-- the year of a form by papers, the lines ahead, choices -/
def Frm.yr (F : Frm) (ps : List (Str × Int)) (earl : List Int) (tk : List Bool) : List Int := F.year ⟨[], papF ps, earl, F.tbs, tk⟩
section
variable {P : Program} {w : World} {K : PySem.W.Frag} {mg : Str → Option Value} {base : Heap}
abbrev s_need_choices : Stmt := topS 41
theorem sc_need_choices : FnScope ["form", "taken"] ["form", "taken"] (defScope s_need_choices) := ⟨rfl, rfl, rfl, by decide +kernel, rfl, by decide +kernel, by decide +kernel⟩
def sp_need : Sp2 := fun a b H Q _ => ∃ (F : Frm) (k : Addr) (tk : List Bool), At H F.d a ∧ b = .ref k ∧ BoolsAt H k tk ∧ tk.length = F.C ∧ Q .non H
/-- .. or there are more, or fewer -/
def sp_needX (CC : Addr) : Sp2 := fun a b H Q E => ∃ (F : Frm) (k : Addr) (tk : List Bool), At H F.d a ∧ b = .ref k ∧ BoolsAt H k tk ∧ tk.length < 100000 ∧ ((tk.length = F.C ∧ Q .non H) ∨ (tk.length ≠ F.C ∧ E (.ref CC) none H))
theorem ok_need_choices {CC : Addr} (M : Mg mg) (T_NoChoice : ExcT K mg "NoChoice" CC) (D : DefAt K mg "need_choices" s_need_choices ["form", "taken"]) : Has P w K mg base "need_choices" ["form", "taken"] 1 (sp2 (sp_needX CC)) := by
  refine .mk2 D sc_need_choices fun fa cdv A outer s0 H a b Q E hr h => ⟨_, (pss_one (ps_if (pt_cmpR (k_ne K rfl hr) (pe_callB (k_len K rfl) (by rfl) M.len (by decide +kernel) (pa_cons (pv 1) pa_nil)) (pe_ix (k_ix K rfl) (pv 0) pe_int (fun _ _ => rfl)) (nomark _)) (pss_one (ps_raise (by rfl) t_body (pmk_own PySem.F.excBase_ValueError T_NoChoice.xC T_NoChoice.gC T_NoChoice.kC (raises_own T_NoChoice.bC T_NoChoice.tC) (by exact rfl)))) pss_nil)), ?_⟩
  obtain ⟨F, k, tk, hat, rfl, hk, lk, q⟩ := h
  obtain ⟨f, L, T, vs, ts, rfl, hf, hL, hvs, hT, hts⟩ := Frm.at hat
  have hkk := bools_sq (K := K) hk
  refine Fl.go_start (σ0 := [some _, some _]) rfl ?_
  walk_at "s"
  rcases q with ⟨lk, q⟩ | ⟨lk, q⟩
  · rw [List.length_map, show (!decide ((tk.length : Int) = F.C)) = false by simp; omega]
    walk_at "s"
    exact q
  · rw [List.length_map, show (!decide ((tk.length : Int) = F.C)) = true by simp; omega]
    walk_at "s"
    exact q
abbrev s_reckoned : Stmt := topS 42
theorem sc_reckoned : FnScope ["form", "pairs", "earlier", "taken", "papers", "lines", "sight", "line"] ["form", "pairs", "earlier", "taken"] (defScope s_reckoned) := ⟨rfl, rfl, rfl, by decide +kernel, rfl, by decide +kernel, by decide +kernel⟩
def sp_reckoned : Sp4 := fun a b c e H Q _ => ∃ (F : Frm) (l : Addr) (vs : List V) (ps : List (Str × Int)) (e0 : Addr) (earl : List Int) (k : Addr) (tk : List Bool), F.Ok 40 ∧ At H F.d a ∧ b = .ref l ∧ H l = some (.lst vs) ∧ AtAll H (ps.map prD) vs ∧ PapOk ps ∧
  c = .ref e0 ∧ H e0 = some (.lst (earl.map V.int)) ∧ (earl = [] ∨ earl.length = F.rs.length) ∧ e = .ref k ∧ BoolsAt H k tk ∧ tk.length = F.C ∧
  ∀ p H', Same H H' → H p = none → H' p = some (.lst ((F.yr ps earl tk).map V.int)) → Q (.ref p) H'
/-- .. or the papers are none, or the choices others -/
def sp_reckX (CP CC : Addr) : Sp4 := fun a b c e H Q E => sp_reckoned a b c e H Q E ∨ ((PapBad H b ∧ ∀ H', Same H H' → E (.ref CP) none H') ∨
  ∃ (F : Frm) (l : Addr) (vs : List V) (ps : List (Str × Int)) (k : Addr) (tk : List Bool), At H F.d a ∧ b = .ref l ∧ H l = some (.lst vs) ∧ AtAll H (ps.map prD) vs ∧ PapOk ps ∧ e = .ref k ∧ BoolsAt H k tk ∧ tk.length < 100000 ∧ tk.length ≠ F.C ∧ ∀ H', Same H H' → E (.ref CC) none H')
theorem ok_reckoned {CP CC : Addr} (M : Mg mg) (G_papers_of : Has P w K mg base "papers_of" ["pairs"] 3 (sp1 (sp_papersX CP))) (G_need_choices : Has P w K mg base "need_choices" ["form", "taken"] 1 (sp2 (sp_needX CC))) (G_order_of : Has P w K mg base "order_of" ["form"] 3 (sp1 sp_order_of)) (G_comes_to : Has P w K mg base "comes_to" ["rule", "sight"] 9 (sp2 (sp_comes 8)))
    (D : DefAt K mg "reckoned" s_reckoned ["form", "pairs", "earlier", "taken"]) : Has P w K mg base "reckoned" ["form", "pairs", "earlier", "taken"] 10 (sp4 (sp_reckX CP CC)) := by
  refine .mk4 D sc_reckoned fun fa cdv A outer s0 H a b c e Q E hr h => ⟨_, (pss_cons (ps_set (i := 4) sc_reckoned.nd rfl (by first | exact Or.inl rfl | exact Or.inr rfl) (pe_own G_papers_of (hr.mono (by first | decide | omega)) (by rfl) p_body (pa_cons (pv 1) pa_nil)))
    (pss_cons (ps_expr (pe_own G_need_choices (hr.mono (by first | decide | omega)) (by rfl) p_body (pa_cons (pv 0) (pa_cons (pv 3) pa_nil))))
    (pss_cons (ps_set (i := 5) sc_reckoned.nd rfl (by first | exact Or.inl rfl | exact Or.inr rfl) (pe_op o_mul (pe_lst (pa_cons pe_int pa_nil)) (pe_callB (k_len K rfl) (by rfl) M.len (by decide +kernel) (pa_cons (pe_ix (k_ix K rfl) (pv 0) pe_int (fun _ _ => rfl)) pa_nil))))
    (pss_cons (ps_set (i := 6) sc_reckoned.nd rfl (by first | exact Or.inl rfl | exact Or.inr rfl) (pe_tup (pa_cons (pv 5) (pa_cons (pv 4) (pa_cons (pv 2) (pa_cons (pe_ix (k_ix K rfl) (pv 0) pe_int (fun _ _ => rfl)) (pa_cons (pv 3) pa_nil)))))))
    (pss_cons (ps_for own_p (by rfl) (k_pi K rfl (pe_own G_order_of (hr.mono (by first | decide | omega)) (by rfl) p_body (pa_cons (pv 0) pa_nil))) (pg_name (i := 7) sc_reckoned.nd rfl (by first | exact Or.inl rfl | exact Or.inr rfl)) (pss_one (ps_asg (pe_own G_comes_to (hr.mono (by first | decide | omega)) (by rfl) p_body (pa_cons (pe_ix (k_ix K rfl) (pe_ix (k_ix K rfl) (pv 0) pe_int (fun _ _ => rfl)) (pv 7) (fun _ _ => rfl)) (pa_cons (pv 6) pa_nil))) (pg_sub (pv 5) (pv 7) set_list))))
    (pss_one (ps_ret (pv 5)))))))), ?_⟩
  rcases h with h | ⟨hb, q⟩ | ⟨F, l, vs, ps, k, tk, hat, rfl, hl, hvs, pok, rfl, hk, lk, nk, q⟩
  case inr.inl =>
    refine Fl.go_start (σ0 := [some _, some _, some _, some _, none, none, none, none]) rfl ?_
    walk_at "s"
    exact papX_bad hb q
  case inr.inr =>
    refine Fl.go_start (σ0 := [some _, some _, some _, some _, none, none, none, none]) rfl ?_
    walk_at "s"
    refine papX_good ⟨l, vs, ps, rfl, hl, hvs, pok, fun pd H1 kvs sm1 npd hpd hdic => ?_⟩
    have hat1 := hat.le (Same.le sm1)
    walk_at "s"
    exact ⟨F, k, tk, hat1, rfl, hk.same sm1, lk, .inr ⟨nk, q _ sm1⟩⟩
  obtain ⟨F, l, vs, ps, e0, earl, k, tk, ok, hat, rfl, hl, hvs, pok, rfl, he, le, rfl, hk, lk, q⟩ := h
  refine Fl.go_start (σ0 := [some _, some _, some _, some _, none, none, none, none]) rfl ?_
  walk_at "s"
  refine papX_good ⟨l, vs, ps, rfl, hl, hvs, pok, fun pd H1 kvs sm1 npd hpd hdic => ?_⟩
  have hk1 := hk.same sm1
  have hat1 := hat.le (Same.le sm1)
  walk_at "s"
  have c8 := ok.c8
  refine ⟨F, k, tk, hat1, rfl, hk1, by omega, .inl ⟨lk, ?_⟩⟩
  obtain ⟨f, L, T, fs, ts, rfl, hf, hL, hfs, hT, hts⟩ := Frm.at hat1
  have he1 := sm1 _ _ he
  have lfs := hfs.length
  rw [List.length_map] at lfs
  have n2 := ok.n2
  have n1 := ok.n1
  walk_at "s"
  rename_i p1 hp1 p hp s hs
  rw [Int.toNat_natCast, rep_flat] at *
  rw [lfs] at *
  have sm2 : Same H1 (upd (upd (upd H1 p1 (.lst [V.int 0])) p (.lst (List.replicate F.rs.length (.int 0)))) s (.tup [.ref p, .ref pd, .ref e0, .ref T, .ref k])) := by walk_at "sm"
  have fp : H1 p = none := by
    have h1 : Same H1 (upd H1 p1 (.lst [V.int 0])) := by walk_at "sm"
    exact L2.Same.free h1 hp
  have p3 : (upd (upd (upd H1 p1 (.lst [V.int 0])) p (.lst (List.replicate F.rs.length (.int 0)))) s (.tup [.ref p, .ref pd, .ref e0, .ref T, .ref k])) p = some (.lst (List.replicate F.rs.length (.int 0))) := by walk_at "hp"
  have s3 : (upd (upd (upd H1 p1 (.lst [V.int 0])) p (.lst (List.replicate F.rs.length (.int 0)))) s (.tup [.ref p, .ref pd, .ref e0, .ref T, .ref k])) s = some (.tup [.ref p, .ref pd, .ref e0, .ref T, .ref k]) := upd_same
  generalize upd (upd (upd H1 p1 (.lst [V.int 0])) p (.lst (List.replicate F.rs.length (.int 0)))) s (.tup [.ref p, .ref pd, .ref e0, .ref T, .ref k]) = H2 at *
  clear hs hp hp1
  have hat2 := hat1.le (Same.le sm2)
  refine ⟨F, ok, hat2, fun o H3 sm3 hofr ho => ?_⟩
  have p4 := sm3 _ _ p3
  have s4 := sm3 _ _ s3
  have nop : o ≠ p := fun e => by rw [e, p3] at hofr; cases hofr
  have nsp : s ≠ p := fun e => by rw [e, p3] at s3; cases s3
  have npd' : pd ≠ p := fun e => by rw [e, fp] at hpd; cases hpd
  have nep : e0 ≠ p := fun e => by rw [e, fp] at he1; cases he1
  have nkp : k ≠ p := fun e => by rcases hk1 with h | h <;> (rw [e, fp] at h; cases h)
  have nTp : T ≠ p := fun e => by rw [e, fp] at hT; cases hT
  have nLp : L ≠ p := fun e => by rw [e, fp] at hL; cases hL
  have nfp : f ≠ p := fun e => by rw [e, fp] at hf; cases hf
  have sm13 := L2.Same.trans sm2 sm3
  have hpd4 := sm13 _ _ hpd
  have he4 := sm13 _ _ he1
  have hk4 := hk1.same sm13
  have hT4 := sm13 _ _ hT
  have hL4 := sm13 _ _ hL
  have hf4 := sm13 _ _ hf
  have hts4 := hts.le (Same.le sm13)
  have hfs4 := hfs.le (Same.le sm13)
  have hat4 := hat2.le (Same.le sm3)
  have sm03 : Same H H3 := L2.Same.trans sm1 sm13
  have fp0 : H p = none := L2.Same.free sm1 fp
  have oo := ok.ord
  refine for_lst (fun i σ' H' => ∃ y7 : Option V, σ' = [some (.ref f), some (.ref l), some (.ref e0), some (.ref k), some (.ref pd), some (.ref p), some (.ref s), y7] ∧ H' p = some (.lst ((F.upto ⟨[], papF ps, earl, F.tbs, tk⟩ i).map V.int)) ∧ LeT H3 H' ∧ (∀ b u, b ≠ p → H3 b = some u → H' b = some u))
    ho ⟨none, rfl, ?_, .refl _, fun b u _ h => h⟩ (fun i σ' H' _ ⟨_, _, _, _, kp⟩ => kp _ _ nop ho) ?_ ?_
  · rw [p4]
    unfold Frm.upto
    simp
  · rintro i x σ' H4 ex ⟨y7, rfl, hp4, lt4, kp⟩
    obtain ⟨q1, eq1, rfl⟩ := map_int_get ex
    have il := (List.getElem?_eq_some_iff.mp eq1).1
    rw [oo.len] at il
    have rq := oo.rng q1 (List.mem_of_getElem? eq1)
    have hf5 := kp _ _ nfp hf4
    have hL5 := kp _ _ nLp hL4
    obtain ⟨qn, rfl⟩ : ∃ qn : Nat, q1 = qn := ⟨q1.toNat, by omega⟩
    have hqn : qn < F.rs.length := by omega
    obtain ⟨v0, ev0, hv0⟩ := hfs4.get (i := qn) (d := (F.rs[qn]'hqn).d) (by rw [List.getElem?_map, List.getElem?_eq_getElem hqn]; rfl)
    walk_at "s"
    refine ex_v (atI_nat ev0) ?_
    walk_at "s"
    have hv4 : At H4 (F.rs[qn]'hqn).d v0 := hv0.leT lt4 (Rule.tupO _)
    refine ⟨F, ⟨F.upto ⟨[], papF ps, earl, F.tbs, tk⟩ i, papF ps, earl, F.tbs, tk⟩, F.rs[qn]'hqn, ok, hv4, ok.good _ (List.getElem_mem hqn), ⟨⟨s, p, pd, e0, T, k, kvs, ts, rfl, kp _ _ nsp s4, hp4, ⟨kp _ _ npd' hpd4, hdic.papK⟩, kp _ _ nep he4, ⟨kp _ _ nTp hT4, hts4.leT lt4 (tbs_tupO _)⟩, hk4.imp (kp _ _ nkp) (kp _ _ nkp)⟩, rfl, F.upto_len i, le, lk⟩, fun H5 sm5 => ?_⟩
    have hp5 := sm5 _ _ hp4
    walk_at "s"
    refine ex_j (ixN_nat (by rw [List.length_map, F.upto_len]; omega)) ?_
    walk_at "s"
    refine ⟨_, rfl, ?_, LeT.put1 hp5 (lt4.trans (Same.le sm5).let), fun b u nb h => by rw [upd_ne nb]; exact sm5 _ _ (kp _ _ nb h)⟩
    rw [upd_same, Frm.upto_succ eq1]
    unfold Frm.put Frm.rule
    rw [List.map_set, Int.toNat_natCast, List.getD_eq_getElem?_getD, List.getElem?_eq_getElem hqn]
    rfl
  · rintro σ' H4 ⟨y7, rfl, hp4, lt4, kp⟩
    rw [List.length_map, oo.len] at hp4
    walk_at "s"
    exact q p H4 (fun b u h => kp _ _ (fun e => by rw [e, fp0] at h; cases h) (sm03 _ _ h)) fp0 hp4
end
end Fl

-- after: va3.tpl
namespace Fl
open PySem PySem.Spec PyProof.Rows L2 RZ
/-! ### history -/
/-- lists of papers; lists of truths; rows of numbers -/
structure PapsAt (H : Hp) (yv : List V) (pss : List (List (Str × Int))) : Prop where
  len : yv.length = pss.length
  at_ : ∀ (i : Nat) (v : V) (ps : List (Str × Int)), yv[i]? = some v → pss[i]? = some ps → ∃ l vs, v = .ref l ∧ H l = some (.lst vs) ∧ AtAll H (ps.map prD) vs ∧ PapOk ps
structure TksAt (H : Hp) (kv : List V) (tks : List (List Bool)) (C : Nat) : Prop where
  len : kv.length = tks.length
  at_ : ∀ (i : Nat) (v : V) (tk : List Bool), kv[i]? = some v → tks[i]? = some tk → ∃ l, v = .ref l ∧ BoolsAt H l tk ∧ tk.length = C
structure RowsAt (H : Hp) (hv : List V) (n : Nat) (f : Nat → List Int) : Prop where
  len : hv.length = n
  at_ : ∀ (i : Nat) (v : V), hv[i]? = some v → ∃ l, v = .ref l ∧ H l = some (.lst ((f i).map V.int))
theorem prs_tupO (ps : List (Str × Int)) : tupsOnly (ps.map prD) = true := tupsOnly_all fun d hd => by
  obtain ⟨p, _, rfl⟩ := List.mem_map.mp hd
  rfl
theorem PapsAt.same {H H' : Hp} {yv : List V} {pss : List (List (Str × Int))} (h : PapsAt H yv pss) (e : Same H H') : PapsAt H' yv pss :=
  ⟨h.len, fun i v ps e1 e2 => let ⟨l, vs, q, h1, h2, h3⟩ := h.at_ i v ps e1 e2; ⟨l, vs, q, e _ _ h1, h2.le (Same.le e), h3⟩⟩
theorem TksAt.same {H H' : Hp} {yv : List V} {tks : List (List Bool)} {C : Nat} (h : TksAt H yv tks C) (e : Same H H') : TksAt H' yv tks C :=
  ⟨h.len, fun i v tk e1 e2 => let ⟨l, q, h1, h2⟩ := h.at_ i v tk e1 e2; ⟨l, q, h1.same e, h2⟩⟩
theorem RowsAt.same {H H' : Hp} {hv : List V} {n : Nat} {f : Nat → List Int} (h : RowsAt H hv n f) (e : Same H H') : RowsAt H' hv n f :=
  ⟨h.len, fun i v e1 => let ⟨l, q, h1⟩ := h.at_ i v e1; ⟨l, q, e _ _ h1⟩⟩
/-- the lines behind so many years -/
def Frm.hy (F : Frm) (pss : List (List (Str × Int))) (tks : List (List Bool)) : Nat → List Int
  | 0 => []
  | i + 1 => F.yr (pss.getD i []) (F.hy pss tks i) (tks.getD i [])
theorem Frm.yr_len {F : Frm} {ps : List (Str × Int)} {e : List Int} {tk : List Bool} : (F.yr ps e tk).length = F.rs.length := F.year_len
theorem Frm.hy_len {F : Frm} {pss : List (List (Str × Int))} {tks : List (List Bool)} : ∀ i, F.hy pss tks i = [] ∨ (F.hy pss tks i).length = F.rs.length
  | 0 => .inl rfl
  | _ + 1 => .inr F.yr_len
theorem forz_l {K : PySem.W.Frag} {a b : Addr} {xs ys : List V} {g : TG} {tb : TS} {nx bk ct : L2.St → Hp → Prop} {rt : VK} {σ : L2.St} {H : Hp} (Pv : Nat → L2.St → Hp → Prop) (ha : H a = some (.lst xs)) (hb : H b = some (.lst ys)) (hl : xs.length = ys.length) (h0 : Pv 0 σ H) (hq : ∀ i σ H, Pv i σ H → H a = some (.lst xs) ∧ H b = some (.lst ys))
    (hs : ∀ (i : Nat) (x y : V) (T : Addr) (σ : L2.St) (H : Hp), xs[i]? = some x → ys[i]? = some y → Pv i σ H → H T = none → g (.ref T) σ (upd H T (.tup [x, y])) fun σ2 H2 => tb ⟨Pv (i + 1), rt, nx, Pv (i + 1)⟩ σ2 H2) (hd : ∀ σ H, Pv xs.length σ H → nx σ H) :
    ZipOf K (.ref a) (.ref b) H (forG g tb ⟨nx, rt, bk, ct⟩ σ) :=
  ⟨a, b, xs, ys, rfl, rfl, .inl ⟨.of ha, .of hb, for_zipL hl Pv h0 (fun i σ H p => ⟨.of (hq i σ H p).1, .of (hq i σ H p).2⟩) hs hd⟩⟩
end Fl

-- after: gen0.tpl
namespace Fl
open PySem PySem.Spec PyProof.Rows L2 RZ
/-! ### zip of a list and a tuple, by what each iterator does -/
/-- an iterator over something that stands at l: where it is, what it gives there -/
structure Stp (it l : Addr) (St : Nat → Heap → Prop) (g : Nat → Option Value) : Prop where
  keep : ∀ {k : Nat} {h h' : Heap}, St k h → (∀ c o, c = it ∨ c = l → h.get? c = some o → h'.get? c = some o) → St k h'
  here : ∀ {k : Nat} {h : Heap}, St k h → ∃ o, h.get? it = some o ∧ ∀ v, o.data ≠ .cell v
  item : ∀ {P : Program} {w : World} {A : Around} {E : Value → Shared → Prop} {s : Shared} {k : Nat} {x : Value} {Q : Value → Shared → Prop}, St k s.heap → g k = some x → (∀ h', St (k + 1) h' → Heap.SameBut it s.heap h' → Q x { s with heap := h' }) → wpAny (model P w) A (Builtin.SmallTypes.nextOf (.ref it)) Q E s
  stop : ∀ {P : Program} {w : World} {A : Around} {E : Value → Shared → Prop} {s : Shared} {k : Nat} {Q : Value → Shared → Prop}, A.handled = none → St k s.heap → g k = none → (∀ h' e, Heap.ExtBut it s.heap h' → (∃ o, h'.get? e = some o ∧ o.cls = .type "StopIteration") → E (.ref e) { s with heap := h' }) →
    wpAny (model P w) A (Builtin.SmallTypes.nextOf (.ref it)) Q E s
theorem stp_l {it l : Addr} {xs : Array Value} (ne : l ≠ it) : Stp it l (fun k h => h.IsListIter it l k ∧ h.IsList l xs) (fun k => xs[k]?) where
  keep := fun ⟨a, b⟩ up => ⟨a.at fun o e => up _ _ (.inl rfl) e, by obtain ⟨o, e, r⟩ := b; exact ⟨o, up _ _ (.inr rfl) e, r⟩⟩
  here := fun ⟨⟨o, e, _, d⟩, _⟩ => ⟨o, e, fun v q => by rw [d] at q; cases q⟩
  item := fun ⟨a, b⟩ e q => wpAny_nextOf_list_item a b e fun h' a' sb => q h' ⟨a', b.extBut sb.extBut ne⟩ sb
  stop := fun hd ⟨a, b⟩ e q => wpAny_nextOf_list_end hd a b e q
theorem stp_t {it l : Addr} {xs : Array Value} (ne : l ≠ it) : Stp it l (fun k h => h.IsTupleIter it l k ∧ h.IsTuple l xs) (fun k => xs[k]?) where
  keep := fun ⟨a, b⟩ up => ⟨a.at fun o e => up _ _ (.inl rfl) e, by obtain ⟨o, e, r⟩ := b; exact ⟨o, up _ _ (.inr rfl) e, r⟩⟩
  here := fun ⟨⟨o, e, _, d⟩, _⟩ => ⟨o, e, fun v q => by rw [d] at q; cases q⟩
  item := fun ⟨a, b⟩ e q => nextOf_tuple_item a b e fun h' a' sb => q h' ⟨a', b.extBut sb.extBut ne⟩ sb
  stop := fun hd ⟨a, b⟩ e q => nextOf_tuple_end hd a b e q
theorem orne {c it l p : Addr} (h : c = it ∨ c = l) (n1 : it ≠ p) (n2 : l ≠ p) : c ≠ p := by
  rcases h with rfl | rfl
  · exact n1
  · exact n2
section
variable {P : Program} {w : World} {A : Around} {E : Value → Shared → Prop} {s : Shared} {zz ti to j1 j2 m1 m2 : Addr} {S1 S2 : Nat → Heap → Prop} {g1 g2 : Nat → Option Value} {k : Nat} {x y a b : Value}
theorem zg_item {Q : Value → Shared → Prop} (D : ZipApart zz ti to j1 j2 m1 m2) (T1 : Stp j1 m1 S1 g1) (T2 : Stp j2 m2 S2 g2) (zp : IsZip s.heap zz ti to .none) (pi : IsPair s.heap ti (.ref j1) (.ref j2)) (po : IsPair s.heap to a b) (c1 : S1 k s.heap) (c2 : S2 k s.heap) (e1 : g1 k = some x) (e2 : g2 k = some y)
    (fin : ∀ h', IsZip h' zz ti to (rawInt s.heap.objs.size) → IsPair h' to x y → S1 (k + 1) h' → S2 (k + 1) h' → IsPair h' s.heap.objs.size x y → (∀ c o, c ≠ zz → c ≠ to → c ≠ j1 → c ≠ j2 → s.heap.get? c = some o → h'.get? c = some o) → Q (.ref s.heap.objs.size) { s with heap := h' }) :
    wpAny (model P w) A (Builtin.«zip.__next__» ⟨[.ref zz], []⟩) (fun f s' => ∃ v, f = .done (.ret v) ∧ Q v s') E s := by
  show wpAny _ _ (field (.ref zz) 2 >>= _) _ _ _
  refine wpAny_bind (wpAny_field zp rfl (x := .bool false) rfl ?_)
  show wpAny _ _ (field (.ref zz) 3 >>= _) _ _ _
  refine wpAny_bind (wpAny_field zp rfl (x := .ref ti) rfl ?_)
  refine wpAny_bind (wpAny_seqItems pi rfl ?_)
  show wpAny _ _ (Builtin.SmallTypes.ownedTupleIsFree (.ref zz) >>= _) _ _ _
  refine wpAny_bind ?_
  delta Builtin.SmallTypes.ownedTupleIsFree
  refine wpAny_bind (wpAny_field zp rfl (x := .none) rfl (wpAny_pure ?_))
  rw [if_pos rfl]
  refine wpAny_bind (wpAny_rule ?_)
  refine wpAny_bind (wpAny_field zp rfl (x := .ref to) rfl ?_)
  refine wpAny_bind (wpAny_setField_rec zp (by simp) fun ha za sa => ?_)
  have za : IsZip ha zz ti to .ellipsis := za
  have ua := sa.extBut
  refine wpAny_bind ?_
  simp only [List.forIn_cons, List.forIn_nil, List.zipIdx_cons, List.zipIdx_nil]
  have c1a : S1 k ha := T1.keep c1 fun c o hc e => ua c o (orne hc D.i1z D.l1z) e
  have c2a : S2 k ha := T2.keep c2 fun c o hc e => ua c o (orne hc D.i2z D.l2z) e
  have poa : IsPair ha to a b := ua _ _ D.TOz po
  refine wpAny_bind (wpAny_bind ((wpAny_onRaise ?_)))
  show wpAny _ _ (Builtin.SmallTypes.nextOf (.ref j1) >>= _) _ _ _
  refine wpAny_bind (T1.item (s := { s with heap := ha }) c1a e1 fun hb c1b sb => wpAny_pure ?_)
  have ub := Heap.SameBut.extBut sb
  have pob : IsPair hb to a b := ub _ _ D.TOi1 poa
  have c2b : S2 k hb := T2.keep c2a fun c o hc e => ub c o (orne hc D.i12.symm D.l2i1) e
  refine wpAny_bind (wpAny_seqItems pob rfl ?_)
  refine wpAny_bind (wpAny_updateSeq_pair pob fun hc poc sc => ?_)
  have poc : IsPair hc to x b := poc
  have uc := Heap.SameBut.extBut sc
  have c1c : S1 (k + 1) hc := T1.keep c1b fun c o h e => uc c o (orne h D.TOi1.symm D.l1TO) e
  have c2c : S2 k hc := T2.keep c2b fun c o h e => uc c o (orne h D.TOi2.symm D.l2TO) e
  refine wpAny_bind ((wpAny_letGo (wpAny_pure ?_)))
  refine wpAny_bind (wpAny_bind ((wpAny_onRaise ?_)))
  show wpAny _ _ (Builtin.SmallTypes.nextOf (.ref j2) >>= _) _ _ _
  refine wpAny_bind (T2.item (s := { s with heap := hc }) c2c e2 fun hd c2d sd => wpAny_pure ?_)
  have ud := Heap.SameBut.extBut sd
  have pod : IsPair hd to x b := ud _ _ D.TOi2 poc
  have c1d : S1 (k + 1) hd := T1.keep c1c fun c o h e => ud c o (orne h D.i12 D.l1i2) e
  refine wpAny_bind (wpAny_seqItems pod rfl ?_)
  refine wpAny_bind (wpAny_updateSeq_pair pod fun he poe se => ?_)
  have poe : IsPair he to x y := poe
  have ue := Heap.SameBut.extBut se
  have c1e : S1 (k + 1) he := T1.keep c1d fun c o h e => ue c o (orne h D.TOi1.symm D.l1TO) e
  have c2e : S2 (k + 1) he := T2.keep c2d fun c o h e => ue c o (orne h D.TOi2.symm D.l2TO) e
  refine wpAny_bind ((wpAny_letGo (wpAny_pure (wpAny_pure ?_))))
  refine wpAny_bind (wpAny_seqItems poe rfl ?_)
  refine wpAny_bind ((wpAny_newTuple ?_))
  have size : he.objs.size = s.heap.objs.size := by rw [se.1, sd.1, sc.1, sb.1, sa.1]
  have ze : IsZip he zz ti to .ellipsis := ue _ _ D.TOz.symm (ud _ _ D.i2z.symm (uc _ _ D.TOz.symm (ub _ _ D.i1z.symm za)))
  have kept : ∀ c o, c ≠ zz → c ≠ to → c ≠ j1 → c ≠ j2 → s.heap.get? c = some o → he.get? c = some o := fun c o n1 n2 n3 n4 e => ue _ _ n2 (ud _ _ n4 (uc _ _ n2 (ub _ _ n3 (ua _ _ n1 e))))
  have zlt := Heap.lt_size ze
  show wpAny _ _ (Builtin.SmallTypes.ownedTupleHandOut (.ref zz) (.ref he.objs.size) >>= _) _ _ _
  refine wpAny_bind ?_
  delta Builtin.SmallTypes.ownedTupleHandOut
  have zf : IsZip (he.push { cls := .type "tuple", data := .seq #[x, y] }) zz ti to .ellipsis := Heap.get?_push_of_some _ ze
  refine wpAny_bind (wpAny_setField_rec zf (by simp) fun hg zg sg => ?_)
  have zg : IsZip hg zz ti to (rawInt he.objs.size) := zg
  refine wpAny_setField_rec zg (by simp) fun hi zi si => wpAny_pure ⟨_, rfl, ?_⟩
  have zi : IsZip hi zz ti to (rawInt he.objs.size) := zi
  have up : ∀ c o, c ≠ zz → he.get? c = some o → hi.get? c = some o := fun c o n e => Heap.SameBut.extBut si _ _ n (Heap.SameBut.extBut sg _ _ n (Heap.get?_push_of_some _ e))
  have new : IsPair hi he.objs.size x y := Heap.SameBut.extBut si _ _ (Nat.ne_of_gt zlt) (Heap.SameBut.extBut sg _ _ (Nat.ne_of_gt zlt) (Heap.get?_push_size _ rfl))
  rw [size] at zi new
  show Q (.ref he.objs.size) _
  rw [size]
  exact fin hi zi (up _ _ D.TOz poe) (T1.keep c1e fun c o h e => up c o (orne h D.i1z D.l1z) e) (T2.keep c2e fun c o h e => up c o (orne h D.i2z D.l2z) e) new fun c o n1 n2 n3 n4 e => up c o n1 (kept c o n1 n2 n3 n4 e)
theorem zg_end {Q : Fin → Shared → Prop} (cool : A.handled = none) (D : ZipApart zz ti to j1 j2 m1 m2) (T1 : Stp j1 m1 S1 g1) (T2 : Stp j2 m2 S2 g2) (zp : IsZip s.heap zz ti to .none) (pi : IsPair s.heap ti (.ref j1) (.ref j2)) (po : IsPair s.heap to a b) (c1 : S1 k s.heap) (c2 : S2 k s.heap) (no : g1 k = none ∨ g2 k = none)
    (fin : ∀ h' e, (∀ c o, c ≠ zz → c ≠ to → c ≠ j1 → c ≠ j2 → s.heap.get? c = some o → h'.get? c = some o) → (∃ o, h'.get? e = some o ∧ o.cls = .type "StopIteration") → E (.ref e) { s with heap := h' }) :
    wpAny (model P w) A (Builtin.«zip.__next__» ⟨[.ref zz], []⟩) Q E s := by
  show wpAny _ _ (field (.ref zz) 2 >>= _) _ _ _
  refine wpAny_bind (wpAny_field zp rfl (x := .bool false) rfl ?_)
  show wpAny _ _ (field (.ref zz) 3 >>= _) _ _ _
  refine wpAny_bind (wpAny_field zp rfl (x := .ref ti) rfl ?_)
  refine wpAny_bind (wpAny_seqItems pi rfl ?_)
  show wpAny _ _ (Builtin.SmallTypes.ownedTupleIsFree (.ref zz) >>= _) _ _ _
  refine wpAny_bind ?_
  delta Builtin.SmallTypes.ownedTupleIsFree
  refine wpAny_bind (wpAny_field zp rfl (x := .none) rfl (wpAny_pure ?_))
  rw [if_pos rfl]
  refine wpAny_bind (wpAny_rule ?_)
  refine wpAny_bind (wpAny_field zp rfl (x := .ref to) rfl ?_)
  refine wpAny_bind (wpAny_setField_rec zp (by simp) fun ha za sa => ?_)
  have za : IsZip ha zz ti to .ellipsis := za
  have ua := sa.extBut
  refine wpAny_bind ?_
  simp only [List.forIn_cons, List.forIn_nil, List.zipIdx_cons, List.zipIdx_nil]
  have c1a : S1 k ha := T1.keep c1 fun c o hc e => ua c o (orne hc D.i1z D.l1z) e
  have c2a : S2 k ha := T2.keep c2 fun c o hc e => ua c o (orne hc D.i2z D.l2z) e
  have poa : IsPair ha to a b := ua _ _ D.TOz po
  refine wpAny_bind (wpAny_bind ((wpAny_onRaise ?_)))
  show wpAny _ _ (Builtin.SmallTypes.nextOf (.ref j1) >>= _) _ _ _
  cases e1 : g1 k with
  | none =>
    refine wpAny_bind (T1.stop (s := { s with heap := ha }) cool c1a e1 fun hb e ub ho => ?_)
    obtain ⟨oe, he, hc⟩ := ho
    have zb : IsZip hb zz ti to .ellipsis := ub _ _ D.i1z.symm za
    have ne : e ≠ zz := fun q => by
      rw [q, zb] at he
      cases he
      simp at hc
    exact wpAny_setField_rec zb (by simp) fun hd _ sd => fin hd e (fun c o n1 _ n3 _ q => Heap.SameBut.extBut sd _ _ n1 (ub _ _ n3 (ua _ _ n1 q))) ⟨oe, Heap.SameBut.extBut sd _ _ ne he, hc⟩
  | some x =>
    have e2 : g2 k = none := no.resolve_left fun q => by rw [e1] at q; cases q
    refine wpAny_bind (T1.item (s := { s with heap := ha }) c1a e1 fun hb c1b sb => wpAny_pure ?_)
    have ub := Heap.SameBut.extBut sb
    have pob : IsPair hb to a b := ub _ _ D.TOi1 poa
    have c2b : S2 k hb := T2.keep c2a fun c o hc e => ub c o (orne hc D.i12.symm D.l2i1) e
    refine wpAny_bind (wpAny_seqItems pob rfl ?_)
    refine wpAny_bind (wpAny_updateSeq_pair pob fun hc poc sc => ?_)
    have uc := Heap.SameBut.extBut sc
    have c2c : S2 k hc := T2.keep c2b fun c o h e => uc c o (orne h D.TOi2.symm D.l2TO) e
    refine wpAny_bind ((wpAny_letGo (wpAny_pure ?_)))
    refine wpAny_bind (wpAny_bind ((wpAny_onRaise ?_)))
    show wpAny _ _ (Builtin.SmallTypes.nextOf (.ref j2) >>= _) _ _ _
    refine wpAny_bind (T2.stop (s := { s with heap := hc }) cool c2c e2 fun hd e ud ho => ?_)
    obtain ⟨oe, he, hcl⟩ := ho
    have zd : IsZip hd zz ti to .ellipsis := ud _ _ D.i2z.symm (uc _ _ D.TOz.symm (ub _ _ D.i1z.symm za))
    have ne : e ≠ zz := fun q => by
      rw [q, zd] at he
      cases he
      simp at hcl
    exact wpAny_setField_rec zd (by simp) fun hf _ sf => fin hf e (fun c o n1 n2 n3 n4 q => Heap.SameBut.extBut sf _ _ n1 (ud _ _ n4 (uc _ _ n2 (ub _ _ n3 (ua _ _ n1 q))))) ⟨oe, Heap.SameBut.extBut sf _ _ ne he, hcl⟩
theorem zg_next {Q : Option Value → Shared → Prop} (D : ZipApart zz ti to j1 j2 m1 m2) (T1 : Stp j1 m1 S1 g1) (T2 : Stp j2 m2 S2 g2) (zp : IsZip s.heap zz ti to .none) (pi : IsPair s.heap ti (.ref j1) (.ref j2)) (po : IsPair s.heap to a b) (c1 : S1 k s.heap) (c2 : S2 k s.heap) (e1 : g1 k = some x) (e2 : g2 k = some y)
    (fin : ∀ h', IsZip h' zz ti to (rawInt s.heap.objs.size) → IsPair h' to x y → S1 (k + 1) h' → S2 (k + 1) h' → IsPair h' s.heap.objs.size x y → (∀ c o, c ≠ zz → c ≠ to → c ≠ j1 → c ≠ j2 → s.heap.get? c = some o → h'.get? c = some o) → Q (some (.ref s.heap.objs.size)) { s with heap := h' }) :
    wpAny (model P w) A (pyNext (.ref zz)) Q E s := by
  have ty : s.TypeIs (.ref zz) "zip" := ⟨_, zp, rfl⟩
  delta pyNext
  exact wpAny_bind (wpAny_attempt (wpAny_callSpecial?_slot (name := Str.ofString "__next__") ty F.slot_zip_next (wpAny_call_entry F.slot_zip_next ty F.entry_zip_next
    (zg_item D T1 T2 zp pi po c1 c2 e1 e2 fun h' a1 a2 a3 a4 a5 a6 => wpAny_pure (fin h' a1 a2 a3 a4 a5 a6)) (F.args_zip_next_1 _))))
theorem zg_last {Q : Option Value → Shared → Prop} (cool : A.handled = none) (D : ZipApart zz ti to j1 j2 m1 m2) (T1 : Stp j1 m1 S1 g1) (T2 : Stp j2 m2 S2 g2) (zp : IsZip s.heap zz ti to .none) (pi : IsPair s.heap ti (.ref j1) (.ref j2)) (po : IsPair s.heap to a b) (c1 : S1 k s.heap) (c2 : S2 k s.heap) (no : g1 k = none ∨ g2 k = none)
    (fin : ∀ h', (∀ c o, c ≠ zz → c ≠ to → c ≠ j1 → c ≠ j2 → s.heap.get? c = some o → h'.get? c = some o) → Q none { s with heap := h' }) : wpAny (model P w) A (pyNext (.ref zz)) Q E s := by
  have ty : s.TypeIs (.ref zz) "zip" := ⟨_, zp, rfl⟩
  delta pyNext
  refine wpAny_bind (wpAny_attempt (wpAny_callSpecial?_slot (name := Str.ofString "__next__") ty F.slot_zip_next (wpAny_call_entry F.slot_zip_next ty F.entry_zip_next (zg_end cool D T1 T2 zp pi po c1 c2 no fun h' e kept ho => ?_) (F.args_zip_next_1 _))))
  obtain ⟨o, he, hc⟩ := ho
  exact wpAny_bind (wpAny_isInstance (T := "StopIteration") (b := true) ⟨o, he, hc⟩ isSubtype_stop (wpAny_pure (fin _ kept)))
end
end Fl

-- after: zlt.tpl
namespace Fl
open PySem PySem.Spec PyProof.Rows L2 RZ
/-! ### zip(list, tuple): made, walked -/
abbrev zlA (h : Heap) (l : Addr) : Heap := h.push { cls := .type "list_iterator", data := .fields #[.ref l, .int 0 0] }
abbrev zlB (h : Heap) (l t : Addr) : Heap := (zlA h l).push { cls := .type "tuple_iterator", data := .fields #[.ref t, .int 0 0] }
abbrev zlC (h : Heap) (l t : Addr) : Heap := (zlB h l t).push { cls := .type "tuple", data := .seq #[.ref h.objs.size, .ref (zlA h l).objs.size] }
abbrev zlD (h : Heap) (l t : Addr) : Heap := (zlC h l t).push { cls := .type "tuple", data := .seq #[.none, .none] }
abbrev zlE (h : Heap) (l t : Addr) : Heap := (zlD h l t).push { cls := .type "zip", data := .fields #[.none, .bool false, .bool false, .ref (zlB h l t).objs.size, .ref (zlC h l t).objs.size] }
theorem meets_zl (l t : Addr) (xs ys : Array Value) : Meets (Builtin.«zip.__new__» ⟨[.type "zip", .ref l, .ref t], []⟩) (fun _ R s => s.heap.IsList l xs ∧ s.heap.IsTuple t ys ∧ R (.ok (.ret (.ref (zlD s.heap l t).objs.size))) { s with heap := zlE s.heap l t }) :=
  .of_wp fun prog w A R s h => by
    obtain ⟨hp, g, d, tk, os⟩ := s; obtain ⟨il, it, h⟩ := h
    have hsub := sub_zip
    have q1 : Heap.IsList (Shared.heap ⟨hp, g, d, tk, os⟩) l xs := il
    have q2 : Heap.IsTuple (Shared.heap ⟨hp.push { cls := .type "list_iterator", data := .fields #[.ref l, .int 0 0] }, g, d, tk, os⟩) t ys := Heap.IsTuple.push it _
    wp_walk using wpAny_pyIter_list q1, wpAny_pyIter_tuple q2
    exact ⟨_, rfl, h⟩
section
variable {P : Program} {w : World} {A : Around} {E : Value → Shared → Prop} {s : Shared}
theorem call_zl {l t : Addr} {xs ys : Array Value} {Q : Value → Shared → Prop} (il : s.heap.IsList l xs) (it : s.heap.IsTuple t ys)
    (fin : ∀ h', IsZip h' (s.heap.objs.size + 4) (s.heap.objs.size + 2) (s.heap.objs.size + 3) .none → IsPair h' (s.heap.objs.size + 2) (.ref s.heap.objs.size) (.ref (s.heap.objs.size + 1)) → IsPair h' (s.heap.objs.size + 3) .none .none → h'.IsListIter s.heap.objs.size l 0 → h'.IsTupleIter (s.heap.objs.size + 1) t 0 →
      (∀ c o, s.heap.get? c = some o → h'.get? c = some o) → Q (.ref (s.heap.objs.size + 4)) { s with heap := h' }) : wpAny (model P w) A (call (.type "zip") [.ref l, .ref t]) Q E s := by
  refine callType_new F.called_zip (by decide) (F.typeCall_zip_2 _ _) (F.newCall_zip_2 _ _) (fun obj => F.args_object_init_3 obj _ _) F.entry_zip_new (meets_zl l t xs ys) ⟨il, it, ?_⟩
  have n1 : (zlA s.heap l).objs.size = s.heap.objs.size + 1 := Heap.size_push ..
  have n2 : (zlB s.heap l t).objs.size = s.heap.objs.size + 2 := by rw [Heap.size_push, n1]
  have n3 : (zlC s.heap l t).objs.size = s.heap.objs.size + 3 := by rw [Heap.size_push, n2]
  have n4 : (zlD s.heap l t).objs.size = s.heap.objs.size + 4 := by rw [Heap.size_push, n3]
  have p5 : (zlE s.heap l t).get? (zlD s.heap l t).objs.size = some _ := Heap.get?_push_size _ rfl
  have p4 : (zlE s.heap l t).get? (zlC s.heap l t).objs.size = some _ := Heap.get?_push_of_some _ (Heap.get?_push_size _ rfl)
  have p3 : (zlE s.heap l t).get? (zlB s.heap l t).objs.size = some _ := Heap.get?_push_of_some _ (Heap.get?_push_of_some _ (Heap.get?_push_size _ rfl))
  have p2 : (zlE s.heap l t).get? (zlA s.heap l).objs.size = some _ := Heap.get?_push_of_some _ (Heap.get?_push_of_some _ (Heap.get?_push_of_some _ (Heap.get?_push_size _ rfl)))
  have p1 : (zlE s.heap l t).get? s.heap.objs.size = some _ := Heap.get?_push_of_some _ (Heap.get?_push_of_some _ (Heap.get?_push_of_some _ (Heap.get?_push_of_some _ (Heap.get?_push_size _ rfl))))
  rw [n2, n3, n4] at p5
  rw [n1, n2] at p3
  rw [n3] at p4
  rw [n1] at p2
  rw [n4]
  exact ⟨⟨_, p5, rfl⟩, fin _ p5 p3 p4 ⟨_, p1, rfl, rfl⟩ ⟨_, p2, rfl, rfl⟩ fun c o q => Heap.get?_push_of_some _ (Heap.get?_push_of_some _ (Heap.get?_push_of_some _ (Heap.get?_push_of_some _ (Heap.get?_push_of_some _ q))))⟩
end
/-- the list at a, the tuple at b, as they stand at each turn -/
def Izl (K : PySem.W.Frag) (a b : Addr) : It :=
  ⟨fun i H => ∃ (xs ys : List V) (x y : V), SqL K H a xs ∧ SqT K H b ys ∧ xs[i]? = some x ∧ ys[i]? = some y,
    fun i H v H' => ∃ T x y, v = .ref T ∧ H T = none ∧ H' = upd H T (.tup [x, y]) ∧ (∀ xs, SqL K H a xs → xs[i]? = some x) ∧ ∀ ys, SqT K H b ys → ys[i]? = some y,
    fun i H => ∃ xs ys : List V, SqL K H a xs ∧ SqT K H b ys ∧ (xs.length ≤ i ∨ ys.length ≤ i)⟩
theorem five {c z ti to j1 j2 : Addr} (h : c ∈ [z, ti, to, j1, j2]) : c = z ∨ c = ti ∨ c = to ∨ c = j1 ∨ c = j2 := by simpa using h
theorem five_ne {c z ti to j1 j2 : Addr} (h : c ∉ [z, ti, to, j1, j2]) : c ≠ z ∧ c ≠ to ∧ c ≠ j1 ∧ c ≠ j2 := by
  simp only [List.mem_cons, List.not_mem_nil, or_false, not_or] at h
  exact ⟨h.1, h.2.2.1, h.2.2.2.1, h.2.2.2.2⟩
theorem turn_zl {P : Program} {w : World} {K : PySem.W.Frag} {es : List Expr} {kk : Nat} {tp : Pos} {a b z ti to j1 j2 : Addr} (D : ZipApart z ti to j1 j2 a b) :
    Turn P w K (.Tuple es kk tp) (Izl K a b) [z, ti, to, j1, j2] z (fun i h => IsZip h z ti to .none ∧ IsPair h ti (.ref j1) (.ref j2) ∧ (∃ x y, IsPair h to x y) ∧ h.IsListIter j1 a i ∧ h.IsTupleIter j2 b i) where
  mem := List.mem_cons_self
  obj := fun i h ⟨zp, pi, ⟨x, y, po⟩, ⟨o1, e1, _, d1⟩, ⟨o2, e2, _, d2⟩⟩ c hc => by
    rcases five hc with rfl | rfl | rfl | rfl | rfl
    · exact ⟨_, zp, fun v q => nomatch q⟩
    · exact ⟨_, pi, fun v q => nomatch q⟩
    · exact ⟨_, po, fun v q => nomatch q⟩
    · exact ⟨o1, e1, fun v q => by rw [d1] at q; cases q⟩
    · exact ⟨o2, e2, fun v q => by rw [d2] at q; cases q⟩
  keep := fun i h h' ⟨zp, pi, ⟨x, y, po⟩, a1, a2⟩ up => ⟨up z (by simp) _ zp, up ti (by simp) _ pi, ⟨x, y, up to (by simp) _ po⟩, a1.at fun o q => up j1 (by simp) o q, a2.at fun o q => up j2 (by simp) o q⟩
  item := by
    intro X hP hw hK cool i pins s σ H E I fp ⟨zp, pi, ⟨x0, y0, po⟩, a1, a2⟩ ⟨xs, ys, x, y, sx, sy, ex, ey⟩
    subst hP hw hK
    obtain ⟨us, rv1, p1, _⟩ := I.list sx
    obtain ⟨ws, rv2, p2, _⟩ := I.tuple sy
    obtain ⟨u1, eu1, r1⟩ := rv1.get ex
    obtain ⟨u2, eu2, r2⟩ := rv2.get ey
    have zlt := Heap.lt_size zp
    refine zg_next D (stp_l (xs := us.toArray) D.l1i1) (stp_t (xs := ws.toArray) D.l2i2) zp pi po ⟨a1, p1.isList⟩ ⟨a2, p2⟩ (x := u1) (y := u2) (by simpa using eu1) (by simpa using eu2) fun h' z' o' b1 b2 new kept => ?_
    refine ⟨_, rfl, wpAny_letOwnedTupleGo_zip (s := { s with heap := h' }) z' fun h2 z2 sb => ?_⟩
    have T2 : h2.get? s.heap.objs.size = some { cls := .type "tuple", data := .seq #[u1, u2] } := (sb.2 _ (Nat.ne_of_gt zlt)).trans new
    have ok2 : ObjOk X.prog X.w (upd H s.heap.objs.size (.tup [x, y])) h2 s.heap.objs.size (.tup [x, y]) := ⟨by show 2 ≤ sizeLine; decide, [u1, u2], .cons r1 (.cons r2 .nil), ⟨_, T2, rfl, _, rfl⟩⟩
    have I2 : Inv X pins σ (upd H s.heap.objs.size (.tup [x, y])) { s with heap := h2 } := I.turnedNew (t' := s.toks) (ch := [z, ti, to, j1, j2]) (fun c o hb q => (sb.2 c (five_ne hb).1).trans (kept c o (five_ne hb).1 (five_ne hb).2.1 (five_ne hb).2.2.1 (five_ne hb).2.2.2 q)) fp (Nat.le_refl _) ok2
    have old : ∀ c o, c ∈ [z, ti, to, j1, j2] → s.heap.get? c = some o → c < s.heap.objs.size := fun c o _ e => Heap.lt_size e
    refine ⟨.ref s.heap.objs.size, _, I2, rfl, ⟨_, x, y, rfl, I.hok.fresh (Nat.le_refl _), rfl, fun l hl => by rw [I.list_inj hl sx]; exact ex, fun l hl => by rw [I.tuple_inj hl sy]; exact ey⟩, ⟨z2, (sb.2 _ D.TIz).trans (kept _ _ D.TIz D.TITO D.TIi1 D.TIi2 pi), ⟨u1, u2, (sb.2 _ D.TOz).trans o'⟩, b1.1.at fun o q => (sb.2 _ D.i1z).trans q, b2.1.at fun o q => (sb.2 _ D.i2z).trans q⟩, fun c hc => ?_⟩
    have lt : c < s.heap.objs.size := by
      rcases five hc with rfl | rfl | rfl | rfl | rfl
      · exact zlt
      · exact Heap.lt_size pi
      · exact Heap.lt_size po
      · obtain ⟨_, e, _⟩ := a1; exact Heap.lt_size e
      · obtain ⟨_, e, _⟩ := a2; exact Heap.lt_size e
    rw [upd_ne (Nat.ne_of_lt lt)]
    exact (fp c hc).1
  done := by
    intro X hP hw hK cool i pins s σ H E I fp ⟨zp, pi, ⟨x0, y0, po⟩, a1, a2⟩ ⟨xs, ys, sx, sy, no⟩
    subst hP hw hK
    obtain ⟨us, rv1, p1, _⟩ := I.list sx
    obtain ⟨ws, rv2, p2, _⟩ := I.tuple sy
    have l1 := rv1.length
    have l2 := rv2.length
    have no' : us.toArray[i]? = none ∨ ws.toArray[i]? = none := no.imp (fun q => by simp; omega) (fun q => by simp; omega)
    exact zg_last (I.ok.hd cool) D (stp_l (xs := us.toArray) D.l1i1) (stp_t (xs := ws.toArray) D.l2i2) zp pi po ⟨a1, p1.isList⟩ ⟨a2, p2⟩ no' fun h' kept => ⟨rfl, I.turnedL (t' := s.toks) (ch := [z, ti, to, j1, j2]) (fun c o hb q => kept c o (five_ne hb).1 (five_ne hb).2.1 (five_ne hb).2.2.1 (five_ne hb).2.2.2 q) fp⟩
  self := fun A i s Q E st q => wpAny_pyIter_zip st.1 q
/-- zip of two lists, or of a list and a tuple -/
def iZip3 (K : PySem.W.Frag) (ta : TA) : L2.TI := fun σ H R => ta σ H fun vs H1 => ∃ a b xs ys, vs = [.ref a, .ref b] ∧ ((SqL K H1 a xs ∧ SqL K H1 b ys ∧ R (Itz K a b) H1) ∨ (SqL K H1 a xs ∧ SqT K H1 b ys ∧ R (Izl K a b) H1))
theorem pi_zip3 {X : L2.Cx} {e e2 : Expr} {ta : TA} {p pos tp : Pos} {es : List Expr} {kk : Nat} (hg : Gl X "zip") (hm : X.mg "zip" = none) (ha : PA X [e, e2] ta)
    (hs : starEach [e, e2] X.env = (false, eval e X.env) :: starEach [e2] X.env := by rfl) (hpl : (backTo pos (starEach [e2] X.env)).any (·.1) = false := by rfl) :
    PI X (.Tuple es kk tp) (.Call (.Name "zip" p) [e, e2] [] pos) (iZip3 X.K ta) := by
  refine ⟨fun pins s σ H R I h => Call_ (ld_blt I hg hm PyProof.Rows.boot_zip (PyProof.Rows.callWith_type1 (thn (ha.run pos pins s σ H _ I h) fun us s1 ⟨vs, H1, J, rv, q⟩ => ?_) hs hpl))⟩
  obtain ⟨a, b, xs, ys, rfl, q⟩ := q
  obtain ⟨u1, u2, rfl, r1, r2⟩ := vals2 rv
  cases r1
  cases r2
  have free : ∀ c, c ∈ [s1.heap.objs.size + 4, s1.heap.objs.size + 2, s1.heap.objs.size + 3, s1.heap.objs.size, s1.heap.objs.size + 1] → FpOk X pins H1 c := fun c hc => by
    have le : s1.heap.objs.size ≤ c := by rcases five hc with rfl | rfl | rfl | rfl | rfl <;> omega
    exact J.fpOk le (J.hok.fresh le)
  rcases q with ⟨sx, sy, q⟩ | ⟨sx, sy, q⟩
  · obtain ⟨us, _, p1, _⟩ := J.list sx
    obtain ⟨ws, _, p2, _⟩ := J.list sy
    refine call_zip_2 p1.isList p2.isList fun h' zp pi po a1 a2 _ up => wpAny_pyIter_zip zp ?_
    exact ⟨_, [s1.heap.objs.size + 4, s1.heap.objs.size + 2, s1.heap.objs.size + 3, s1.heap.objs.size, s1.heap.objs.size + 1], _, _, H1, rfl, J.kept (t' := s1.toks) up, turn_zip (PySem.W.ktu_apart s1.heap.objs.size a b p1.lt p2.lt), ⟨zp, pi, ⟨_, _, po⟩, a1, a2⟩, free, q⟩
  · obtain ⟨us, _, p1, _⟩ := J.list sx
    obtain ⟨ws, _, p2, _⟩ := J.tuple sy
    obtain ⟨o2, e2, _⟩ := id p2
    refine call_zl p1.isList (show s1.heap.IsTuple b ws.toArray from p2) fun h' zp pi po a1 a2 up => wpAny_pyIter_zip zp ?_
    exact ⟨_, [s1.heap.objs.size + 4, s1.heap.objs.size + 2, s1.heap.objs.size + 3, s1.heap.objs.size, s1.heap.objs.size + 1], _, _, H1, rfl, J.kept (t' := s1.toks) up, turn_zl (PySem.W.ktu_apart s1.heap.objs.size a b p1.lt (Heap.lt_size e2)), ⟨zp, pi, ⟨_, _, po⟩, a1, a2⟩, free, q⟩
theorem k_zip3 (K : PySem.W.Frag) {X : L2.Cx} (h : X.K = K) {e e2 : Expr} {ta : TA} {p pos tpos : Pos} {elts : List Expr} {kk : Nat} (hg : Gl X "zip") (hm : X.mg "zip" = none) (ha : PA X [e, e2] ta)
    (hs : starEach [e, e2] X.env = (false, eval e X.env) :: starEach [e2] X.env := by rfl) (hpl : (backTo pos (starEach [e2] X.env)).any (·.1) = false := by rfl) :
    PI X (.Tuple elts kk tpos) (.Call (.Name "zip" p) [e, e2] [] pos) (iZip3 K ta) := by subst h; exact pi_zip3 hg hm ha hs hpl
end Fl

-- after: va4.tpl zlt2.tpl
namespace Fl
open PySem PySem.Spec PyProof.Rows L2 RZ
/-! ### history, the choices in a list or in a tuple -/
def SqK (H : Hp) (a : Addr) (xs : List V) : Prop := H a = some (.lst xs) ∨ H a = some (.tup xs)
theorem SqK.same {H H' : Hp} {a : Addr} {xs : List V} (h : SqK H a xs) (e : Same H H') : SqK H' a xs := h.imp (e _ _) (e _ _)
def Zip3 (K : PySem.W.Frag) (x y : V) (H : Hp) (R : It → Hp → Prop) : Prop := ∃ a b xs ys, x = .ref a ∧ y = .ref b ∧ ((SqL K H a xs ∧ SqL K H b ys ∧ R (Itz K a b) H) ∨ (SqL K H a xs ∧ SqT K H b ys ∧ R (Izl K a b) H))
section
variable {σ : L2.St} {H : Hp} {K : PySem.W.Frag}
instance {ta : TA} {R : It → Hp → Prop} : Step (iZip3 K ta σ H R) (ta σ H fun vs H1 => ∃ v w, vs = [v, w] ∧ Zip3 K v w H1 R) := ⟨fun h => by
  have e : (fun (vs : List V) (H1 : Hp) => ∃ v w, vs = [v, w] ∧ Zip3 K v w H1 R) = (fun vs H1 => ∃ a b xs ys, vs = [.ref a, .ref b] ∧ ((SqL K H1 a xs ∧ SqL K H1 b ys ∧ R (Itz K a b) H1) ∨ (SqL K H1 a xs ∧ SqT K H1 b ys ∧ R (Izl K a b) H1))) := by
    funext vs H1
    exact propext ⟨fun ⟨v, w, e, a, b, xs, ys, e1, e2, r⟩ => ⟨a, b, xs, ys, by rw [e, e1, e2], r⟩, fun ⟨a, b, xs, ys, e, r⟩ => ⟨_, _, e, a, b, xs, ys, rfl, rfl, r⟩⟩
  show ta σ H _
  rw [← e]
  exact h⟩
end
theorem forz3 {K : PySem.W.Frag} {a b : Addr} {xs ys : List V} {g : TG} {tb : TS} {nx bk ct : L2.St → Hp → Prop} {rt : VK} {σ : L2.St} {H : Hp} (Pv : Nat → L2.St → Hp → Prop) (ha : H a = some (.lst xs)) (hb : SqK H b ys) (hl : xs.length = ys.length) (h0 : Pv 0 σ H) (hq : ∀ i σ H', Pv i σ H' → H' a = some (.lst xs) ∧ ∀ o, H b = some o → H' b = some o)
    (hs : ∀ (i : Nat) (x y : V) (T : Addr) (σ : L2.St) (H : Hp), xs[i]? = some x → ys[i]? = some y → Pv i σ H → H T = none → g (.ref T) σ (upd H T (.tup [x, y])) fun σ2 H2 => tb ⟨Pv (i + 1), rt, nx, Pv (i + 1)⟩ σ2 H2) (hd : ∀ σ H, Pv xs.length σ H → nx σ H) :
    Zip3 K (.ref a) (.ref b) H (forG g tb ⟨nx, rt, bk, ct⟩ σ) := by
  rcases hb with hb | hb
  · exact ⟨a, b, xs, ys, rfl, rfl, .inl ⟨.of ha, .of hb, for_zipL hl Pv h0 (fun i σ H p => ⟨.of (hq i σ H p).1, .of ((hq i σ H p).2 _ hb)⟩) hs hd⟩⟩
  refine ⟨a, b, xs, ys, rfl, rfl, .inr ⟨.of ha, .of hb, fun i m σ H => m = xs.length - i ∧ i ≤ xs.length ∧ Pv i σ H, ⟨xs.length, rfl, Nat.zero_le _, h0⟩, ?_⟩⟩
  rintro i m σ H' ⟨rfl, le, pv⟩
  have sx : SqL K H' a xs := .of (hq i σ H' pv).1
  have sy : SqT K H' b ys := .of ((hq i σ H' pv).2 _ hb)
  rcases Nat.lt_or_ge i xs.length with lt | ge
  · have ex := List.getElem?_eq_getElem lt
    have ey : ys[i]? = some (ys[i]'(by omega)) := List.getElem?_eq_getElem (by omega)
    refine .inr ⟨⟨xs, ys, _, _, sx, sy, ex, ey⟩, Pv (i + 1), fun σ2 H2 p2 => ⟨_, Nat.sub_lt_sub_left lt (Nat.lt_succ_self i), rfl, lt, p2⟩, fun v H2 yv => ?_⟩
    obtain ⟨T, x, y, rfl, fT, rfl, k1, k2⟩ := yv
    exact hs i x y T σ H' (k1 _ sx) (k2 _ sy) pv fT
  · have e : i = xs.length := by omega
    subst e
    exact .inl ⟨⟨xs, ys, sx, sy, .inl (Nat.le_refl _)⟩, hd σ H' pv⟩
section
variable {P : Program} {w : World} {K : PySem.W.Frag} {mg : Str → Option Value} {base : Heap}
abbrev s_history : Stmt := topS 43
theorem sc_history : FnScope ["form", "years", "taken", "found", "earlier", "pairs", "choices"] ["form", "years", "taken"] (defScope s_history) := ⟨rfl, rfl, rfl, by decide +kernel, rfl, by decide +kernel, by decide +kernel⟩
def sp_history : Sp3 := fun a b c H Q _ => ∃ (F : Frm) (y : Addr) (yv : List V) (pss : List (List (Str × Int))) (k : Addr) (kv : List V) (tks : List (List Bool)), F.Ok 40 ∧ At H F.d a ∧ b = .ref y ∧ H y = some (.lst yv) ∧ PapsAt H yv pss ∧
  c = .ref k ∧ SqK H k kv ∧ TksAt H kv tks F.C ∧ pss.length = tks.length ∧ pss.length ≤ 20 ∧
  ∀ p H' hv, Same H H' → H p = none → H' p = some (.lst hv) → RowsAt H' hv pss.length (fun i => F.hy pss tks (i + 1)) → (∀ l, V.ref l ∈ hv → H l = none) → hv.Nodup → Q (.ref p) H'
/-- a year that is none -/
def YearBad (H : Hp) (F : Frm) (CP CC : Addr) (E : XK) (u z : V) : Prop := (PapBad H u ∧ ∀ H', Same H H' → E (.ref CP) none H') ∨
  ∃ (l : Addr) (vs : List V) (ps : List (Str × Int)) (k : Addr) (tk : List Bool), u = .ref l ∧ H l = some (.lst vs) ∧ AtAll H (ps.map prD) vs ∧ PapOk ps ∧ z = .ref k ∧ BoolsAt H k tk ∧ tk.length < 100000 ∧ tk.length ≠ F.C ∧ ∀ H', Same H H' → E (.ref CC) none H'
/-- .. or one year is none -/
def sp_histX (CP CC : Addr) : Sp3 := fun a b c H Q E => ∃ (F : Frm) (y : Addr) (yv : List V) (pss : List (List (Str × Int))) (k : Addr) (kv : List V) (tks : List (List Bool)) (j : Nat), F.Ok 40 ∧ At H F.d a ∧ b = .ref y ∧ H y = some (.lst yv) ∧ PapsAt H (yv.take j) pss ∧
  c = .ref k ∧ SqK H k kv ∧ TksAt H (kv.take j) tks F.C ∧ yv.length = kv.length ∧ yv.length ≤ 20 ∧ j ≤ yv.length ∧
  ((j = yv.length ∧ ∀ p H' hv, Same H H' → H p = none → H' p = some (.lst hv) → RowsAt H' hv pss.length (fun i => F.hy pss tks (i + 1)) → (∀ l, V.ref l ∈ hv → H l = none) → hv.Nodup → Q (.ref p) H') ∨
  ∃ u z, yv[j]? = some u ∧ kv[j]? = some z ∧ YearBad H F CP CC E u z)
theorem histX_good {CP CC : Addr} {a b c : V} {H : Hp} {Q : VK} {E : XK} (h : sp_history a b c H Q E) : sp_histX CP CC a b c H Q E := by
  obtain ⟨F, y, yv, pss, k, kv, tks, ok, hat, e1, hy, hps, e2, hk, htk, len, l8, q⟩ := h
  have lps := hps.len
  have ltk := htk.len
  exact ⟨F, y, yv, pss, k, kv, tks, yv.length, ok, hat, e1, hy, by rw [List.take_length]; exact hps, e2, hk, by rw [List.take_of_length_le (by omega)]; exact htk, by omega, by omega, Nat.le_refl _, .inl ⟨rfl, q⟩⟩
theorem ok_history {CP CC : Addr} (M : Mg mg) (G_reckoned : Has P w K mg base "reckoned" ["form", "pairs", "earlier", "taken"] 10 (sp4 (sp_reckX CP CC))) (D : DefAt K mg "history" s_history ["form", "years", "taken"]) : Has P w K mg base "history" ["form", "years", "taken"] 11 (sp3 (sp_histX CP CC)) := by
  refine .mk3 D sc_history fun fa cdv A outer s0 H a b c Q E hr h => ⟨_, (pss_cons (ps_set (i := 3) sc_history.nd rfl (by first | exact Or.inl rfl | exact Or.inr rfl) (pe_lst pa_nil))
    (pss_cons (ps_set (i := 4) sc_history.nd rfl (by first | exact Or.inl rfl | exact Or.inr rfl) (pe_lst pa_nil))
    (pss_cons (ps_for own_p (by rfl) (k_zip3 K rfl (by rfl) M.zip (pa_cons (pv 1) (pa_cons (pv 2) pa_nil))) (pg_tup (by rfl) (pgs_cons (pg_name (i := 5) sc_history.nd rfl (by first | exact Or.inl rfl | exact Or.inr rfl)) (pgs_cons (pg_name (i := 6) sc_history.nd rfl (by first | exact Or.inl rfl | exact Or.inr rfl)) pgs_nil))) (pss_cons (ps_set (i := 4) sc_history.nd rfl (by first | exact Or.inl rfl | exact Or.inr rfl) (pe_own G_reckoned (hr.mono (by first | decide | omega)) (by rfl) p_body (pa_cons (pv 0) (pa_cons (pv 5) (pa_cons (pv 4) (pa_cons (pv 6) pa_nil))))))
    (pss_one (ps_expr (k_bm K rfl PySem.F.plainAttrs_list PySem.F.slot_list_append PySem.F.type_list_append mt_append (pv 3) (pa_cons (pe_callTy (k_list K rfl) (by rfl) M.list (by decide +kernel) (pa_cons (pv 4) pa_nil)) pa_nil))))))
    (pss_one (ps_ret (pv 3)))))), ?_⟩
  obtain ⟨F, y, yv, pss, k, kv, tks, j, ok, hat, rfl, hy, hps, rfl, hk, htk, len, l8, jl, q⟩ := h
  have lps := hps.len
  have ltk := htk.len
  rw [List.length_take, Nat.min_eq_left jl] at lps
  rw [List.length_take, Nat.min_eq_left (by omega)] at ltk
  refine Fl.go_start (σ0 := [some _, some _, some _, none, none, none, none]) rfl ?_
  walk_at "s"
  rename_i p hp e0 he0
  have nkp : k ≠ p := fun e => by rcases hk with h | h <;> (rw [e, hp] at h; cases h)
  have nke : k ≠ e0 := fun e => by
    rw [← e, upd_ne nkp] at he0
    rcases hk with h | h <;> (rw [he0] at h; cases h)
  refine forz3 (fun i σ' H' => i ≤ j ∧ ∃ (e : Addr) (hv : List V) (y5 y6 : Option V), σ' = [some a, some (.ref y), some (.ref k), some (.ref p), some (.ref e), y5, y6] ∧ H' e = some (.lst ((F.hy pss tks i).map V.int)) ∧ e ≠ p ∧ H' p = some (.lst hv) ∧ RowsAt H' hv i (fun i => F.hy pss tks (i + 1)) ∧ (∀ l, V.ref l ∈ hv → H l = none ∧ l ≠ p) ∧ hv.Nodup ∧ Same H H')
    (by walk_at "hp") (hk.same (by walk_at "sm")) (by omega) ⟨Nat.zero_le _, e0, [], none, none, rfl, upd_same, ?_, by walk_at "hp", ⟨rfl, by simp⟩, by simp, by simp, by walk_at "sm"⟩ (fun i σ' H' ⟨_, _, _, _, _, _, _, _, _, _, _, _, sm⟩ => ⟨sm _ _ hy, fun o h => sm _ _ (by rwa [upd_ne nke, upd_ne nkp] at h)⟩) ?_ ?_
  · rintro rfl
    rw [upd_same] at he0
    cases he0
  · rintro i x z T σ' H1 ex ez ⟨ile, e, hv, y5, y6, rfl, he, nep, hp1, hrow, hfr, nd, sm⟩ hT
    by_cases il : i < j
    · obtain ⟨ps, eps⟩ : ∃ ps, pss[i]? = some ps := ⟨_, List.getElem?_eq_getElem (by omega)⟩
      obtain ⟨tk, etk⟩ : ∃ tk, tks[i]? = some tk := ⟨_, List.getElem?_eq_getElem (by omega)⟩
      obtain ⟨l, vs, rfl, hl, hvs, pok⟩ := (hps.same sm).at_ i x _ (by rw [List.getElem?_take_of_lt il]; exact ex) eps
      obtain ⟨tl, rfl, htl, ltl⟩ := (htk.same sm).at_ i z _ (by rw [List.getElem?_take_of_lt il]; exact ez) etk
      have sT : Same H1 (upd H1 T (.tup [.ref l, .ref tl])) := Same.new (.refl _) hT
      have hT1 : (upd H1 T (.tup [.ref l, .ref tl])) T = some (.tup [.ref l, .ref tl]) := upd_same
      generalize upd H1 T (.tup [.ref l, .ref tl]) = H2 at *
      have sm2 := L2.Same.trans sm sT
      have hp2 := sT _ _ hp1
      walk_at "s"
      refine ⟨rfl, ?_⟩
      walk_at "s"
      refine .inl ⟨F, l, vs, ps, e, F.hy pss tks i, tl, tk, ok, hat.le (Same.le sm2), rfl, sT _ _ hl, hvs.le (Same.le sT), pok, rfl, sT _ _ he, F.hy_len i, rfl, htl.same sT, ltl, fun e' H3 sm3 fe' he' => ?_⟩
      have hp3 := sm3 _ _ hp2
      have ne' : e' ≠ p := fun z => by rw [z, hp2] at fe'; cases fe'
      have eqy : F.yr ps (F.hy pss tks i) tk = F.hy pss tks (i + 1) := by
        rw [Frm.hy, List.getD_eq_getElem?_getD, eps, List.getD_eq_getElem?_getD, etk]
        rfl
      rw [eqy] at he'
      walk_at "s"
      rename_i c hc
      have lh := hrow.len
      have sm13 := L2.Same.trans sT sm3
      have sm03 := L2.Same.trans sm sm13
      have frc : H c = none := L2.Same.free sm03 hc
      have ncp : c ≠ p := fun z => by rw [z, hp3] at hc; cases hc
      have nce : c ≠ e' := fun z => by rw [z, he'] at hc; cases hc
      have nin : V.ref c ∉ hv := fun h => by
        obtain ⟨j, hj, ej⟩ := List.getElem_of_mem h
        obtain ⟨l', q', h'⟩ := hrow.at_ j _ (List.getElem?_eq_getElem hj)
        rw [ej] at q'
        cases q'
        rw [L2.Same.free sm13 hc] at h'
        cases h'
      refine ⟨show hv.length + 1 ≤ sizeLine from small_of (by omega), by omega, e', hv ++ [.ref c], _, _, rfl, ?_, ne', upd_same, ⟨by rw [List.length_append, lh]; rfl, fun j v ej => ?_⟩, fun l' h => ?_, ?_, ?_⟩
      · rw [upd_ne ne', upd_ne nce.symm]
        exact he'
      · rcases Nat.lt_or_ge j hv.length with c1 | c1
        · rw [List.getElem?_append_left c1] at ej
          obtain ⟨l', q', h'⟩ := hrow.at_ j v ej
          subst q'
          have nl := (hfr l' (List.mem_of_getElem? ej)).2
          have nlc : l' ≠ c := fun z => nin (z ▸ List.mem_of_getElem? ej)
          exact ⟨l', rfl, by rw [upd_ne nl, upd_ne nlc]; exact sm13 _ _ h'⟩
        · rw [List.getElem?_append_right c1] at ej
          have c2 : j - hv.length = 0 := by
            have := (List.getElem?_eq_some_iff.mp ej).1
            simp at this
            omega
          rw [c2] at ej
          have ev : V.ref c = v := by simpa using ej
          subst ev
          refine ⟨c, rfl, ?_⟩
          rw [upd_ne ncp, upd_same, show j = i by omega]
      · rcases List.mem_append.mp h with h | h
        · exact hfr l' h
        · cases List.mem_singleton.mp h
          exact ⟨frc, ncp⟩
      · exact List.nodup_append.mpr ⟨nd, by simp, fun x hx y hy' => by rw [List.mem_singleton.mp hy']; rintro rfl; exact nin hx⟩
      · exact Same.mut (Same.new sm03 hc) hp
    · have ie : i = j := by omega
      subst ie
      rcases q with ⟨ej, q⟩ | ⟨u, z', eu, ez', hb⟩
      · have := (List.getElem?_eq_some_iff.mp ex).1
        omega
      rw [ex] at eu
      cases eu
      rw [ez] at ez'
      cases ez'
      have sT : Same H1 (upd H1 T (.tup [x, z])) := Same.new (.refl _) hT
      have hT1 : (upd H1 T (.tup [x, z])) T = some (.tup [x, z]) := upd_same
      generalize upd H1 T (.tup [x, z]) = H2 at *
      have sm2 := L2.Same.trans sm sT
      walk_at "s"
      refine ⟨rfl, ?_⟩
      walk_at "s"
      rcases hb with ⟨hb, q⟩ | ⟨l, vs, ps, k', tk, rfl, hl, hvs, pok, rfl, hk', lk, nk, q⟩
      · exact .inr (.inl ⟨hb.same sm2, fun H' e => q H' (L2.Same.trans sm2 e)⟩)
      · exact .inr (.inr ⟨F, l, vs, ps, k', tk, hat.le (Same.le sm2), rfl, sm2 _ _ hl, hvs.le (Same.le sm2), pok, rfl, hk'.same sm2, lk, nk, fun H' e => q H' (L2.Same.trans sm2 e)⟩)
  · rintro σ' H1 ⟨ile, e, hv, y5, y6, rfl, he, nep, hp1, hrow, hfr, nd, sm⟩
    rcases q with ⟨ej, q⟩ | ⟨u, z', eu, ez', hb⟩
    · rw [← ej, lps] at hrow
      walk_at "s"
      exact q p H1 hv sm hp hp1 hrow (fun l h => (hfr l h).1) nd
    · have := (List.getElem?_eq_some_iff.mp eu).1
      omega
end
end Fl

-- after: gen0.tpl
namespace Fl
open PySem PySem.Spec PyProof.Rows L2 RZ
theorem leT_keep {H H' : Hp} {s : Addr} {xs : List V} (k : ∀ b u, b ≠ s → H b = some u → H' b = some u) (hs : H s = some (.lst xs)) : LeT H H' := fun b ys h => k _ _ (fun e => by rw [e, hs] at h; cases h) h
theorem set_cut {α : Type} {xs : List α} {i : Nat} {x : α} (h : i < xs.length) : xs.take i ++ [x] ++ xs.drop (i + 1) = xs.set i x := by
  rw [List.set_eq_take_append_cons_drop, if_pos h]
  simp
theorem get_set {α : Type} {xs : List α} {i j : Nat} {x y : α} (h : (xs.set i x)[j]? = some y) : (j = i ∧ x = y) ∨ (j ≠ i ∧ xs[j]? = some y) := by
  by_cases c : i = j
  · subst c
    have hl : i < xs.length := by
      have := (List.getElem?_eq_some_iff.mp h).1
      rwa [List.length_set] at this
    rw [List.getElem?_set_self hl] at h
    exact .inl ⟨rfl, Option.some.inj h⟩
  · rw [List.getElem?_set_ne c] at h
    exact .inr ⟨fun e => c e.symm, h⟩
theorem get_snoc {α : Type} {xs : List α} {x y : α} {i : Nat} (h : (xs ++ [x])[i]? = some y) : xs[i]? = some y ∨ i = xs.length ∧ x = y := by
  rcases Nat.lt_or_ge i xs.length with c | c
  · rw [List.getElem?_append_left c] at h
    exact .inl h
  · rw [List.getElem?_append_right c] at h
    have c2 : i - xs.length = 0 := by
      have := (List.getElem?_eq_some_iff.mp h).1
      simp at this
      omega
    rw [c2] at h
    exact .inr ⟨by omega, by simpa using h⟩
end Fl

-- after: va4t.tpl hp0.tpl
namespace Fl
open PySem PySem.Spec PyProof.Rows L2 RZ
/-! ### all choices -/
def binR : Nat → List (List Bool)
  | 0 => [[]]
  | n + 1 => (binR n).flatMap fun r => [r ++ [false], r ++ [true]]
theorem binR_len : ∀ n, (binR n).length = 2 ^ n
  | 0 => rfl
  | n + 1 => by
    rw [binR, List.length_flatMap]
    have : (List.map (fun a : List Bool => [a ++ [false], a ++ [true]].length) (binR n)) = List.replicate (binR n).length 2 := by
      rw [List.map_eq_replicate_iff.mpr]
      intro r _
      rfl
    rw [this, List.sum_replicate_nat, binR_len n, Nat.pow_succ]
theorem binR_row : ∀ {n : Nat} {r : List Bool}, r ∈ binR n → r.length = n
  | 0, r, h => by
    rw [List.mem_singleton.mp h]
    rfl
  | n + 1, r, h => by
    obtain ⟨q, hq, h⟩ := List.mem_flatMap.mp h
    have := binR_row hq
    simp only [List.mem_cons, List.not_mem_nil, or_false] at h
    rcases h with rfl | rfl <;> simp [this]
def blD (r : List Bool) : PyData := .tuple (r.map PyData.bool)
/-- a row, parted -/
def byY (C n : Nat) (r : List Bool) : List (List Bool) := (List.range n).map fun k => (r.drop (k * C)).take C
theorem cutB (r : List Bool) (a c : Nat) : cutV (r.map V.bl) (some (a : Int)) (some ((a : Int) + c)) = ((r.drop a).take c).map V.bl := by
  unfold cutV HT.sIx
  simp only []
  rw [if_neg (by omega), if_neg (by omega), Int.toNat_natCast, show ((a : Int) + c).toNat = a + c by omega, List.length_map, List.map_take, List.map_drop]
  by_cases h : a ≤ r.length
  · rw [Nat.min_eq_left h]
    by_cases h2 : a + c ≤ r.length
    · rw [Nat.min_eq_left h2, show a + c - a = c by omega]
    · rw [Nat.min_eq_right (by omega), List.take_of_length_le (by simp), List.take_of_length_le (by simp; omega)]
  · rw [Nat.min_eq_right (by omega), Nat.min_eq_right (by omega), List.drop_eq_nil_of_le (by rw [List.length_map]; exact Nat.le_refl _), List.drop_eq_nil_of_le (by rw [List.length_map]; omega), List.take_nil, List.take_nil]
def rowsT (H : Hp) (rs : List (List Bool)) (vs : List V) : Prop := vs.length = rs.length ∧ ∀ (i : Nat) v r, vs[i]? = some v → rs[i]? = some r → ∃ t, v = .ref t ∧ H t = some (.tup (r.map V.bl))
theorem rowsT.le {H H' : Hp} {rs : List (List Bool)} {vs : List V} (h : rowsT H rs vs) (k : ∀ b ys, H b = some (.tup ys) → H' b = some (.tup ys)) : rowsT H' rs vs := ⟨h.1, fun i v r e1 e2 => let ⟨t, q, ht⟩ := h.2 i v r e1 e2; ⟨t, q, k _ _ ht⟩⟩
theorem rowsT.nil {H : Hp} : rowsT H [] [] := ⟨rfl, by simp⟩
theorem rowsT.snoc {H : Hp} {rs : List (List Bool)} {vs : List V} {r : List Bool} {t : Addr} (h : rowsT H rs vs) (ht : H t = some (.tup (r.map V.bl))) : rowsT H (rs ++ [r]) (vs ++ [.ref t]) := by
  have hl := h.1
  refine ⟨by simp [hl], fun i v r' e1 e2 => ?_⟩
  rcases get_snoc e1 with a | ⟨a1, a2⟩
  · have := (List.getElem?_eq_some_iff.mp a).1
    rw [List.getElem?_append_left (by omega)] at e2
    exact h.2 i v r' a e2
  · subst a2
    rw [List.getElem?_append_right (by omega), show i - rs.length = 0 by omega] at e2
    have e : r = r' := by simpa using e2
    subst e
    exact ⟨t, rfl, ht⟩
section
variable {P : Program} {w : World} {K : PySem.W.Frag} {mg : Str → Option Value} {base : Heap}
abbrev s_all_taken : Stmt := topS 46
theorem sc_all_taken : FnScope ["many", "rows", "k", "longer", "row"] ["many"] (defScope s_all_taken) := ⟨rfl, rfl, rfl, by decide +kernel, rfl, by decide +kernel, by decide +kernel⟩
def sp_all_taken : Sp1 := fun a H Q _ => ∃ n : Nat, a = .int n ∧ n ≤ 8 ∧ ∀ p H' vs, Same H H' → H p = none → H' p = some (.lst vs) → rowsT H' (binR n) vs → Q (.ref p) H'
theorem ok_all_taken (M : Mg mg) (D : DefAt K mg "all_taken" s_all_taken ["many"]) : Has P w K mg base "all_taken" ["many"] 1 (sp1 sp_all_taken) := by
  refine .mk1 D sc_all_taken fun fa cdv A outer s0 H a Q E hr h => ⟨_, (pss_cons (ps_set (i := 1) sc_all_taken.nd rfl (by first | exact Or.inl rfl | exact Or.inr rfl) (pe_lst (pa_cons (pe_tup pa_nil) pa_nil)))
    (pss_cons (ps_for own_p (by rfl) (pi_range1 (by rfl) M.range (pa_cons (pv 0) pa_nil)) (pg_name (i := 2) sc_all_taken.nd rfl (by first | exact Or.inl rfl | exact Or.inr rfl)) (pss_cons (ps_set (i := 3) sc_all_taken.nd rfl (by first | exact Or.inl rfl | exact Or.inr rfl) (pe_lst pa_nil))
    (pss_cons (ps_for own_p (by rfl) (k_pi K rfl (pv 1)) (pg_name (i := 4) sc_all_taken.nd rfl (by first | exact Or.inl rfl | exact Or.inr rfl)) (pss_one (ps_set (i := 3) sc_all_taken.nd rfl (by first | exact Or.inl rfl | exact Or.inr rfl) (pe_op (k_add K rfl) (pv 3) (pe_lst (pa_cons (pe_op (k_add K rfl) (pv 4) (pe_tup (pa_cons pe_bl pa_nil))) (pa_cons (pe_op (k_add K rfl) (pv 4) (pe_tup (pa_cons pe_bl pa_nil))) pa_nil)))))))
    (pss_one (ps_set (i := 1) sc_all_taken.nd rfl (by first | exact Or.inl rfl | exact Or.inr rfl) (pv 3))))))
    (pss_one (ps_ret (pv 1))))), ?_⟩
  obtain ⟨n, rfl, n8, q⟩ := h
  refine Fl.go_start (σ0 := [some _, none, none, none, none]) rfl ?_
  walk_at "s"
  rename_i t0 ht0 p0 hp0
  rw [Int.toNat_natCast]
  have sm1 : Same H (upd (upd H t0 (.tup [])) p0 (.lst [.ref t0])) := by walk_at "sm"
  have p01 : (upd (upd H t0 (.tup [])) p0 (.lst [.ref t0])) p0 = some (.lst [.ref t0]) := upd_same
  have t01 : (upd (upd H t0 (.tup [])) p0 (.lst [.ref t0])) t0 = some (.tup []) := by walk_at "hp"
  have fp0 : H p0 = none := by walk_at "fr"
  generalize upd (upd H t0 (.tup [])) p0 (.lst [.ref t0]) = H1 at *
  clear ht0 hp0
  refine for_rng (fun i σ' H' => ∃ (rp : Addr) (vs : List V) (y2 y3 y4 : Option V), σ' = [some (.int n), some (.ref rp), y2, y3, y4] ∧ H' rp = some (.lst vs) ∧ rowsT H' (binR i) vs ∧ Same H H' ∧ H rp = none)
    ⟨p0, [.ref t0], none, none, none, rfl, p01, rowsT.nil.snoc t01, sm1, fp0⟩ ?_ ?_
  · rintro i σ' H2 hi ⟨rp, vs, y2, y3, y4, rfl, hrp, hrow, sm2, frp⟩
    have lb : (binR i).length ≤ 128 := by
      rw [binR_len]
      exact Nat.le_trans (Nat.pow_le_pow_right (by decide) (show i ≤ 7 by omega)) (by decide)
    have lv := hrow.1
    walk_at "s"
    rename_i lp0 hlp0
    have sm3 : Same H2 (upd H2 lp0 (.lst [])) := Same.new (.refl _) hlp0
    have lp3 : (upd H2 lp0 (.lst [])) lp0 = some (.lst []) := upd_same
    have flp : H lp0 = none := L2.Same.free sm2 hlp0
    generalize upd H2 lp0 (.lst []) = H3 at *
    have hrp3 := sm3 _ _ hrp
    refine for_lst (fun j σ' H' => ∃ (lp : Addr) (ws : List V) (y4 : Option V), σ' = [some (.int n), some (.ref rp), some (.int (0 + i)), some (.ref lp), y4] ∧ H' lp = some (.lst ws) ∧ rowsT H' (((binR i).take j).flatMap fun r => [r ++ [false], r ++ [true]]) ws ∧ Same H3 H' ∧ H lp = none ∧ ws.length = 2 * j)
      hrp3 ⟨lp0, [], y4, rfl, lp3, rowsT.nil, .refl _, flp, rfl⟩ (fun j σ' H' _ ⟨_, _, _, _, _, _, sm, _⟩ => sm _ _ hrp3) ?_ ?_
    · rintro j x σ' H4 ex ⟨lp, ws, y4', rfl, hlp, hws, sm4, flp', lw⟩
      have jl := (List.getElem?_eq_some_iff.mp ex).1
      obtain ⟨r, er⟩ : ∃ r, (binR i)[j]? = some r := ⟨_, List.getElem?_eq_getElem (by omega)⟩
      have sm24 := L2.Same.trans sm3 sm4
      obtain ⟨t, rfl, ht⟩ := (hrow.le fun b ys h => sm24 _ _ h).2 j x r ex er
      have lr := binR_row (List.mem_of_getElem? er)
      walk_at "s"
      rename_i b1 hb1 t1 HA smA ht1 b2 hb2 t2 HB smB ht2 l2 hl2 l3 hl3
      have sA : Same H4 HA := by walk_at "sm"
      have sB : Same HA HB := by walk_at "sm"
      have sC : Same HB (upd (upd HB l2 (.lst [.ref t1, .ref t2])) l3 (.lst (ws ++ [.ref t1, .ref t2]))) := by walk_at "sm"
      have h3 : (upd (upd HB l2 (.lst [.ref t1, .ref t2])) l3 (.lst (ws ++ [.ref t1, .ref t2]))) l3 = some (.lst (ws ++ [.ref t1, .ref t2])) := upd_same
      have fl3 : HB l3 = none := by walk_at "fr"
      generalize upd (upd HB l2 (.lst [.ref t1, .ref t2])) l3 (.lst (ws ++ [.ref t1, .ref t2])) = HC at *
      have s4C := L2.Same.trans sA (L2.Same.trans sB sC)
      have s0B := L2.Same.trans sm2 (L2.Same.trans sm24 (L2.Same.trans sA sB))
      refine ⟨l3, ws ++ [.ref t1, .ref t2], _, rfl, h3, ?_, L2.Same.trans sm4 s4C, L2.Same.free s0B fl3, by rw [List.length_append, lw]; simp; omega⟩
      have r1 := (hws.le fun b ys h => s4C _ _ h).snoc (r := r ++ [false]) (t := t1) (by rw [sC _ _ (sB _ _ ht1), List.map_append]; rfl)
      have r2 := r1.snoc (r := r ++ [true]) (t := t2) (by rw [sC _ _ ht2, List.map_append]; rfl)
      rw [List.append_assoc, List.append_assoc] at r2
      rw [List.take_add_one, er, List.flatMap_append]
      exact r2
    · rintro σ' H4 ⟨lp, ws, y4', rfl, hlp, hws, sm4, flp', lw⟩
      rw [List.take_of_length_le (by omega)] at hws
      walk_at "s"
      exact ⟨lp, ws, _, _, _, rfl, hlp, hws, L2.Same.trans sm2 (L2.Same.trans sm3 sm4), flp'⟩
  · rintro σ' H2 ⟨rp, vs, y2, y3, y4, rfl, hrp, hrow, sm2, frp⟩
    walk_at "s"
    exact q rp H2 vs sm2 frp hrp hrow
abbrev s_by_years : Stmt := topS 47
theorem sc_by_years : FnScope ["row", "choices", "count", "k"] ["row", "choices", "count"] (defScope s_by_years) := ⟨rfl, rfl, rfl, by decide +kernel, rfl, by decide +kernel, by decide +kernel⟩
def sp_by_years : Sp3 := fun a b c H Q _ => ∃ (t : Addr) (r : List Bool) (C n : Nat), a = .ref t ∧ H t = some (.tup (r.map V.bl)) ∧ b = .int C ∧ c = .int n ∧ C ≤ 8 ∧ n ≤ 20 ∧ ∀ p H' vs, Same H H' → H' p = some (.tup vs) → rowsT H' (byY C n r) vs → Q (.ref p) H'
theorem ok_by_years (M : Mg mg) (D : DefAt K mg "by_years" s_by_years ["row", "choices", "count"]) : Has P w K mg base "by_years" ["row", "choices", "count"] 1 (sp3 sp_by_years) := by
  refine .mk3 D sc_by_years fun fa cdv A outer s0 H a b c Q E hr h => ⟨_, (pss_one (ps_ret (pe_callTy (k_tuple K rfl) (by rfl) M.tuple (by decide +kernel) (pa_cons (pe_lc (own := [("k", 3)]) (g := gName 3) (by rfl) sc_by_years.nd (pi_range1 (by rfl) M.range (pa_cons (pv 2) pa_nil)) (blkOk_by (N := ["row", "choices", "count", "k"]) (sc := (defScope s_by_years)) (own := [("k", 3)]) (by decide +kernel)) (fun _ _ _ _ _ => (pg_name (i := 3) sc_by_years.nd rfl (by first | exact Or.inl rfl | exact Or.inr rfl))) (fun _ _ _ _ _ => pts_nil) (fun _ _ _ _ _ => (pe_slice (k_sl K rfl) (pv 0) (po_some (pe_op o_mul (pv 3) (pv 1))) (po_some (pe_op (k_add K rfl) (pe_op o_mul (pv 3) (pv 1)) (pv 1)))))) pa_nil)))), ?_⟩
  obtain ⟨t, r, C, n, rfl, ht, rfl, rfl, C8, n20, q⟩ := h
  refine Fl.go_start (σ0 := [some _, some _, some _, none]) rfl ?_
  walk_at "s"
  rw [Int.toNat_natCast]
  refine lc_rng (fun D i H' => ∃ acc, H' D = some (.lst acc) ∧ rowsT H' ((List.range i).map fun k => (r.drop (k * C)).take C) acc ∧ Same H H') (fun D hD => ⟨[], upd_same, rowsT.nil, by walk_at "sm"⟩) (fun D i H' hD hi ⟨acc, hacc, hrow, sm⟩ => ?_) (fun D H1 hD ⟨acc, hacc, hrow, sm⟩ => ?_)
  · have ht' := sm _ _ ht
    have la := hrow.1
    rw [List.length_map, List.length_range] at la
    refine ⟨rfl, ?_⟩
    refine Step.h (n := if true = true then _ else _) ?_
    rw [if_pos rfl]
    walk_at "s"
    rename_i t2 H2 sm2 ht2
    rw [show ((0 : Int) + i) * C = ((i * C : Nat) : Int) by rw [Int.zero_add, Int.natCast_mul], cutB] at ht2
    have hacc2 := sm2 _ _ hacc
    have kD : ∀ b u, b ≠ D → H2 b = some u → (upd H2 D (.lst (acc ++ [.ref t2]))) b = some u := fun b u nb h => by rw [upd_ne nb]; exact h
    have lt : LeT H2 (upd H2 D (.lst (acc ++ [.ref t2]))) := leT_keep kD hacc2
    refine ⟨?_, fun b u h => kD _ _ (fun e => by rw [e, hD] at h; cases h) (sm2 _ _ (sm _ _ h))⟩
    rw [List.range_succ, List.map_append]
    exact (((hrow.le fun b ys h => sm2 _ _ h).le lt)).snoc (lt _ _ ht2)
  · walk_at "s"
    rename_i t2 H2 sm2 ht2
    exact q t2 H2 acc (L2.Same.trans sm sm2) ht2 (hrow.le fun b ys h => sm2 _ _ h)
end
end Fl

-- after: va4.tpl hp0.tpl
namespace Fl
open PySem PySem.Spec PyProof.Rows L2 RZ
/-! ### years and takings at a heap that changes -/
theorem Frm.Ok.mono {F : Frm} {m n : Nat} (h : F.Ok m) (le : m ≤ n) : F.Ok n := ⟨h.good, h.acy, h.n1, Nat.le_trans h.n2 le, h.t5, h.c8, h.ow, h.tb, h.w1, h.w8, h.wd⟩
theorem wdt_other : WdT "other" := ⟨⟨by decide +kernel, by decide +kernel⟩, by decide +kernel⟩
theorem PapsAt.kp {H H' : Hp} {yv : List V} {pss : List (List (Str × Int))} {s : Addr} (h : PapsAt H yv pss) (k : ∀ b u, b ≠ s → H b = some u → H' b = some u) (lt : LeT H H') (ne : ∀ l, V.ref l ∈ yv → l ≠ s) : PapsAt H' yv pss :=
  ⟨h.len, fun i v ps e1 e2 => let ⟨l, vs, q, h1, h2, h3⟩ := h.at_ i v ps e1 e2; ⟨l, vs, q, k _ _ (ne l (q ▸ List.mem_of_getElem? e1)) h1, h2.leT lt (prs_tupO ps), h3⟩⟩
theorem TksAt.kp {H H' : Hp} {kv : List V} {tks : List (List Bool)} {C : Nat} {s : Addr} (h : TksAt H kv tks C) (k : ∀ b u, b ≠ s → H b = some u → H' b = some u) (ne : ∀ l, V.ref l ∈ kv → l ≠ s) : TksAt H' kv tks C :=
  ⟨h.len, fun i v tk e1 e2 => let ⟨l, q, h1, h2⟩ := h.at_ i v tk e1 e2; ⟨l, q, h1.imp (k _ _ (ne l (q ▸ List.mem_of_getElem? e1))) (k _ _ (ne l (q ▸ List.mem_of_getElem? e1))), h2⟩⟩
def fstOf (H : Hp) : V → Str
  | .ref t => match H t with
    | some (.tup (.str s :: _)) => s
    | _ => ""
  | _ => ""
theorem fstOf_at {H : Hp} {p : Str × Int} {v : V} (h : At H (prD p) v) : fstOf H v = p.1 := by
  obtain ⟨t, u, rfl, ht, _⟩ := At.t2 h
  simp only [fstOf, ht]
def notF (H : Hp) (w : Str) (v : V) : Option V := if fstOf H v ≠ w then some v else none
theorem filt_at {H : Hp} {w : Str} : ∀ {ps : List (Str × Int)} {vs : List V}, AtAll H (ps.map prD) vs → AtAll H ((ps.filter fun p => decide (p.1 ≠ w)).map prD) (vs.filterMap (notF H w))
  | [], _, h => by
    cases (show _ = _ from h)
    exact rfl
  | p :: r, _, ⟨v, us, e, h, t⟩ => by
    subst e
    have ih := filt_at (w := w) t
    rw [List.filter_cons, List.filterMap_cons]
    by_cases c : p.1 = w
    · rw [if_neg (by simpa using c), show notF H w v = none by unfold notF; rw [fstOf_at h, if_neg (by simpa using c)]]
      exact ih
    · rw [if_pos (by simpa using c), show notF H w v = some v by unfold notF; rw [fstOf_at h, if_pos (by simpa using c)]]
      exact ⟨v, _, rfl, h, ih⟩
theorem at_mem {H : Hp} {ps : List (Str × Int)} {vs : List V} {x : V} (h : AtAll H (ps.map prD) vs) (m : x ∈ vs) : ∃ p, p ∈ ps ∧ At H (prD p) x := by
  obtain ⟨i, hi, e⟩ := List.getElem_of_mem m
  obtain ⟨d, ed, hd⟩ := h.ix (show vs[i]? = some x by rw [List.getElem?_eq_getElem hi, e])
  obtain ⟨p, hp, rfl⟩ := List.mem_map.mp (List.mem_of_getElem? ed)
  exact ⟨p, hp, hd⟩
theorem PapsAt.set {H : Hp} {yv : List V} {pss : List (List (Str × Int))} {i : Nat} {l : Addr} {vs : List V} {ps : List (Str × Int)} (h : PapsAt H yv pss) (h1 : H l = some (.lst vs)) (h2 : AtAll H (ps.map prD) vs) (h3 : PapOk ps) : PapsAt H (yv.set i (.ref l)) (pss.set i ps) := by
  refine ⟨by rw [List.length_set, List.length_set, h.len], fun j v ps' e1 e2 => ?_⟩
  rcases get_set e1 with ⟨a1, a2⟩ | ⟨a1, a2⟩ <;> rcases get_set e2 with ⟨b1, b2⟩ | ⟨b1, b2⟩
  · subst a2 b2
    exact ⟨l, vs, rfl, h1, h2, h3⟩
  · exact absurd a1 b1
  · exact absurd b1 a1
  · exact h.at_ j v ps' a2 b2
theorem RowsAt.kp {H H' : Hp} {hv : List V} {n : Nat} {f : Nat → List Int} {s : Addr} (h : RowsAt H hv n f) (k : ∀ b u, b ≠ s → H b = some u → H' b = some u) (ne : ∀ l, V.ref l ∈ hv → l ≠ s) : RowsAt H' hv n f :=
  ⟨h.len, fun i v e1 => let ⟨l, q, h1⟩ := h.at_ i v e1; ⟨l, q, k _ _ (ne l (q ▸ List.mem_of_getElem? e1)) h1⟩⟩
theorem PapsAt.snoc {H : Hp} {yv : List V} {pss : List (List (Str × Int))} {l : Addr} {vs : List V} {ps : List (Str × Int)} (h : PapsAt H yv pss) (h1 : H l = some (.lst vs)) (h2 : AtAll H (ps.map prD) vs) (h3 : PapOk ps) : PapsAt H (yv ++ [.ref l]) (pss ++ [ps]) := by
  have hl := h.len
  refine ⟨by simp [hl], fun i v ps' e1 e2 => ?_⟩
  rcases get_snoc e1 with a | ⟨a1, a2⟩
  · have := (List.getElem?_eq_some_iff.mp a).1
    rw [List.getElem?_append_left (by omega)] at e2
    exact h.at_ i v ps' a e2
  · subst a2
    rw [List.getElem?_append_right (by omega), show i - pss.length = 0 by omega] at e2
    have e : ps = ps' := by simpa using e2
    subst e
    exact ⟨l, vs, rfl, h1, h2, h3⟩
theorem TksAt.snoc {H : Hp} {kv : List V} {tks : List (List Bool)} {C : Nat} {l : Addr} {tk : List Bool} (h : TksAt H kv tks C) (h1 : BoolsAt H l tk) (h2 : tk.length = C) : TksAt H (kv ++ [.ref l]) (tks ++ [tk]) C := by
  have hl := h.len
  refine ⟨by simp [hl], fun i v tk' e1 e2 => ?_⟩
  rcases get_snoc e1 with a | ⟨a1, a2⟩
  · have := (List.getElem?_eq_some_iff.mp a).1
    rw [List.getElem?_append_left (by omega)] at e2
    exact h.at_ i v tk' a e2
  · subst a2
    rw [List.getElem?_append_right (by omega), show i - tks.length = 0 by omega] at e2
    have e : tk = tk' := by simpa using e2
    subst e
    exact ⟨l, rfl, h1, h2⟩
theorem PapsAt.take {H : Hp} {yv : List V} {pss : List (List (Str × Int))} (h : PapsAt H yv pss) (j : Nat) : PapsAt H (yv.take j) (pss.take j) := by
  refine ⟨by rw [List.length_take, List.length_take, h.len], fun i v ps e1 e2 => ?_⟩
  have l1 := (List.getElem?_eq_some_iff.mp e1).1
  rw [List.length_take] at l1
  rw [List.getElem?_take_of_lt (by omega)] at e1 e2
  exact h.at_ i v ps e1 e2
theorem TksAt.take {H : Hp} {kv : List V} {tks : List (List Bool)} {C : Nat} (h : TksAt H kv tks C) (j : Nat) : TksAt H (kv.take j) (tks.take j) C := by
  refine ⟨by rw [List.length_take, List.length_take, h.len], fun i v tk e1 e2 => ?_⟩
  have l1 := (List.getElem?_eq_some_iff.mp e1).1
  rw [List.length_take] at l1
  rw [List.getElem?_take_of_lt (by omega)] at e1 e2
  exact h.at_ i v tk e1 e2
theorem RowsAt.snoc {H : Hp} {hv : List V} {n : Nat} {f : Nat → List Int} {l : Addr} (h : RowsAt H hv n f) (h1 : H l = some (.lst ((f n).map V.int))) : RowsAt H (hv ++ [.ref l]) (n + 1) f := by
  have hl := h.len
  refine ⟨by simp [hl], fun i v e1 => ?_⟩
  rcases get_snoc e1 with a | ⟨a1, a2⟩
  · exact h.at_ i v a
  · subst a2
    exact ⟨l, rfl, by rw [a1, hl]; exact h1⟩
end Fl

-- after: k09a.tpl yt.tpl
namespace Fl
open PySem PySem.Spec PyProof.Rows L2 RZ
/-! ### what is owed, by each row of choices -/
def Frm.tot (F : Frm) (pss : List (List (Str × Int))) (tks : List (List Bool)) (n : Nat) : Int := ((List.range n).map fun i => (F.hy pss tks (i + 1)).getD F.owed 0).sum
abbrev Ent := List (List Bool) × Int
def entD (e : Ent) : PyData := .tuple [.tuple (e.1.map blD), .int e.2]
def Frm.ent (F : Frm) (pss : List (List (Str × Int))) (n : Nat) (r : List Bool) : Ent := (byY F.C n r, F.tot pss (byY F.C n r) n)
def Frm.ents (F : Frm) (pss : List (List (Str × Int))) (n : Nat) : List Ent := (binR (F.C * n)).map (F.ent pss n)
def bst (e0 : Ent) (es : List Ent) : Ent := es.foldl (fun b e => if e.2 < b.2 then e else b) e0
/-- some papers are none -/
def PaB (H : Hp) (yv : List V) : Prop := ∃ (j : Nat) (pss : List (List (Str × Int))) (u : V), PapsAt H (yv.take j) pss ∧ yv[j]? = some u ∧ PapBad H u
theorem PaB.same {H H' : Hp} {yv : List V} (h : PaB H yv) (e : Same H H') : PaB H' yv := by
  obtain ⟨j, pss, u, h1, h2, h3⟩ := h
  exact ⟨j, pss, u, h1.same e, h2, h3.same e⟩
theorem byY_len {C n : Nat} {r : List Bool} : (byY C n r).length = n := by unfold byY; rw [List.length_map, List.length_range]
theorem byY_row {C n : Nat} {r x : List Bool} (h : r.length = C * n) (hx : x ∈ byY C n r) : x.length = C := by
  unfold byY at hx
  obtain ⟨k, hk, rfl⟩ := List.mem_map.mp hx
  have hk := List.mem_range.mp hk
  rw [List.length_take, List.length_drop, h, Nat.mul_comm k C, ← Nat.mul_sub]
  have : C * 1 ≤ C * (n - k) := Nat.mul_le_mul_left C (by omega)
  omega
theorem rowsT.tks {H : Hp} {rs : List (List Bool)} {vs : List V} {C : Nat} (h : rowsT H rs vs) (l : ∀ x ∈ rs, x.length = C) : TksAt H vs rs C :=
  ⟨h.1, fun i v tk e1 e2 => let ⟨t, q, ht⟩ := h.2 i v tk e1 e2; ⟨t, q, .inr ht, l tk (List.mem_of_getElem? e2)⟩⟩
theorem at_blD {H : Hp} {t : Addr} {r : List Bool} (h : H t = some (.tup (r.map V.bl))) : At H (blD r) (.ref t) := by
  refine at_tup h ?_
  clear h
  induction r with
  | nil => rfl
  | cons b r ih => exact ⟨_, _, rfl, rfl, ih⟩
theorem atAll_ix {H : Hp} : ∀ {ds : List PyData} {vs : List V}, vs.length = ds.length → (∀ (i : Nat) v d, vs[i]? = some v → ds[i]? = some d → At H d v) → AtAll H ds vs
  | [], [], _, _ => rfl
  | d :: ds, v :: vs, l, h => ⟨v, vs, rfl, h 0 v d rfl rfl, atAll_ix (by simpa using l) fun i v' d' e1 e2 => h (i + 1) v' d' (by simpa using e1) (by simpa using e2)⟩
theorem rowsT.atAll {H : Hp} {rs : List (List Bool)} {vs : List V} (h : rowsT H rs vs) : AtAll H (rs.map blD) vs := atAll_ix (by rw [List.length_map, h.1]) fun i v d e1 e2 => by
  rw [List.getElem?_map] at e2
  cases e : rs[i]? with
  | none => rw [e] at e2; cases e2
  | some r =>
    rw [e] at e2
    cases e2
    obtain ⟨t, rfl, ht⟩ := h.2 i v r e1 e
    exact at_blD ht
theorem entD_tup (e : Ent) : tupOnly (entD e) = true := by
  have : tupsOnly (e.1.map blD) = true := tupsOnly_all fun d hd => by
    obtain ⟨r, _, rfl⟩ := List.mem_map.mp hd
    have : tupsOnly (r.map PyData.bool) = true := tupsOnly_all fun d hd => by
      obtain ⟨b, _, rfl⟩ := List.mem_map.mp hd
      rfl
    simpa [blD, tupOnly] using this
  simp [entD, tupOnly, tupsOnly, this]
theorem ents_tup (es : List Ent) : tupsOnly (es.map entD) = true := tupsOnly_all fun d hd => by
  obtain ⟨e, _, rfl⟩ := List.mem_map.mp hd
  exact entD_tup e
section
variable {P : Program} {w : World} {K : PySem.W.Frag} {mg : Str → Option Value} {base : Heap}
abbrev s_owed : Stmt := topS 48
theorem sc_owed : FnScope ["form", "years", "taken", "lines"] ["form", "years", "taken"] (defScope s_owed) := ⟨rfl, rfl, rfl, by decide +kernel, rfl, by decide +kernel, by decide +kernel⟩
def sp_owedX (CP : Addr) : Sp3 := fun a b c H Q E => ∃ (F : Frm) (y : Addr) (yv : List V) (k : Addr) (kv : List V) (tks : List (List Bool)), F.Ok 40 ∧ At H F.d a ∧ b = .ref y ∧ H y = some (.lst yv) ∧ c = .ref k ∧ SqK H k kv ∧ TksAt H kv tks F.C ∧ yv.length = kv.length ∧ yv.length ≤ 20 ∧
  ((∃ pss, PapsAt H yv pss ∧ ∀ H', Same H H' → Q (.int (F.tot pss tks yv.length)) H') ∨ (PaB H yv ∧ ∀ H', Same H H' → E (.ref CP) none H'))
theorem ok_owed {CP CC : Addr} (M : Mg mg) (G_history : Has P w K mg base "history" ["form", "years", "taken"] 11 (sp3 (sp_histX CP CC))) (D : DefAt K mg "owed" s_owed ["form", "years", "taken"]) : Has P w K mg base "owed" ["form", "years", "taken"] 12 (sp3 (sp_owedX CP)) := by
  refine .mk3 D sc_owed fun fa cdv A outer s0 H a b c Q E hr h => ⟨_, (pss_one (ps_ret (pe_callB (k_sum K rfl rfl) (by rfl) M.sum (by decide +kernel) (pa_cons (pe_lc (own := [("lines", 3)]) (g := gName 3) (by rfl) sc_owed.nd (k_pi K rfl (pe_own G_history (hr.mono (by first | decide | omega)) (by rfl) p_body (pa_cons (pv 0) (pa_cons (pv 1) (pa_cons (pv 2) pa_nil))))) (blkOk_by (N := ["form", "years", "taken", "lines"]) (sc := (defScope s_owed)) (own := [("lines", 3)]) (by decide +kernel)) (fun _ _ _ _ _ => (pg_name (i := 3) sc_owed.nd rfl (by first | exact Or.inl rfl | exact Or.inr rfl))) (fun _ _ _ _ _ => pts_nil) (fun _ _ _ _ _ => (pe_ix (k_ix K rfl) (pv 3) (pe_ix (k_ix K rfl) (pv 0) pe_int (fun _ _ => rfl)) (fun _ _ => rfl)))) pa_nil)))), ?_⟩
  obtain ⟨F, y, yv, k, kv, tks, ok, hat, rfl, hy, rfl, hk, htk, len, l20, q⟩ := h
  refine Fl.go_start (σ0 := [some _, some _, some _, none]) rfl ?_
  walk_at "s"
  rcases q with ⟨pss, hps, q⟩ | ⟨⟨j, pss, u, h1, h2, h3⟩, q⟩
  · have lps := hps.len
    have ltk := htk.len
    refine histX_good ⟨F, y, yv, pss, k, kv, tks, ok, hat, rfl, hy, hps, rfl, hk, htk, by omega, by omega, fun p H1 hv sm1 _ hp hrow _ _ => ?_⟩
    obtain ⟨f, L, T, fs, ts, rfl, hf, hL, hfs, hT, hts⟩ := Frm.at hat
    have hf1 := sm1 _ _ hf
    have lh := hrow.len
    have ow := ok.ow
    walk_at "s"
    refine lc_seqL (((List.range yv.length).map fun i => (F.hy pss tks (i + 1)).getD F.owed 0).map V.int) hp (by simp; omega) (by simp; omega) (fun _ => rfl) (fun i x z H' ex ez sm R hR => ?_) (fun D H2 hD sm2 hDv => ?_)
    · have il := (List.getElem?_eq_some_iff.mp ex).1
      rw [List.getElem?_map, List.getElem?_map, List.getElem?_range (by omega)] at ez
      cases ez
      obtain ⟨l, rfl, hl⟩ := (hrow.same sm).at_ i x ex
      have hf2 := sm _ _ hf1
      have ly : (F.hy pss tks (i + 1)).length = F.rs.length := F.yr_len
      have g := atI_getD (ls := F.hy pss tks (i + 1)) (i := F.owed) (by omega) (by omega)
      rw [Int.toNat_natCast] at g
      walk_at "s"
      refine ex_v g ?_
      exact hR _ (.refl _)
    · walk_at "s"
      exact q _ (L2.Same.trans sm1 sm2)
  · have jl := (List.getElem?_eq_some_iff.mp h2).1
    have ltk := htk.len
    exact ⟨F, y, yv, pss, k, kv, tks.take j, j, ok, hat, rfl, hy, h1, rfl, hk, htk.take j, by omega, by omega, by omega, .inr ⟨u, kv[j]'(by omega), h2, List.getElem?_eq_getElem _, .inl ⟨h3, q⟩⟩⟩
end
end Fl

-- after: k09b.tpl
namespace Fl
open PySem PySem.Spec PyProof.Rows L2 RZ
section
variable {P : Program} {w : World} {K : PySem.W.Frag} {mg : Str → Option Value} {base : Heap}
abbrev s_sums : Stmt := topS 49
theorem sc_sums : FnScope ["form", "years", "found", "row", "taken"] ["form", "years"] (defScope s_sums) := ⟨rfl, rfl, rfl, by decide +kernel, rfl, by decide +kernel, by decide +kernel⟩
def sp_sumsX (CT CP : Addr) : Sp2 := fun a b H Q E => ∃ (F : Frm) (y : Addr) (yv : List V), F.Ok 40 ∧ At H F.d a ∧ b = .ref y ∧ H y = some (.lst yv) ∧ yv.length ≤ 20 ∧
  ((8 < F.C * yv.length ∧ ∀ H', Same H H' → E (.ref CT) none H') ∨ (F.C * yv.length ≤ 8 ∧ ((∃ pss, PapsAt H yv pss ∧ ∀ p H' vs, Same H H' → H p = none → H' p = some (.lst vs) → AtAll H' ((F.ents pss yv.length).map entD) vs → Q (.ref p) H') ∨ (PaB H yv ∧ ∀ H', Same H H' → E (.ref CP) none H'))))
theorem ok_sums {CT CP : Addr} (M : Mg mg) (T_TooMany : ExcT K mg "TooMany" CT) (c_MOST : ∃ t, mg "MOST" = some (.int 8 t)) (G_all_taken : Has P w K mg base "all_taken" ["many"] 1 (sp1 sp_all_taken)) (G_by_years : Has P w K mg base "by_years" ["row", "choices", "count"] 1 (sp3 sp_by_years))
    (G_owed : Has P w K mg base "owed" ["form", "years", "taken"] 12 (sp3 (sp_owedX CP))) (D : DefAt K mg "sums" s_sums ["form", "years"]) : Has P w K mg base "sums" ["form", "years"] 13 (sp2 (sp_sumsX CT CP)) := by
  refine .mk2 D sc_sums fun fa cdv A outer s0 H a b Q E hr h => ⟨_, (pss_cons (ps_if (pt_cmpR o_gt (pe_op o_mul (pe_ix (k_ix K rfl) (pv 0) pe_int (fun _ _ => rfl)) (pe_callB (k_len K rfl) (by rfl) M.len (by decide +kernel) (pa_cons (pv 1) pa_nil))) (pe_gi (by rfl) c_MOST) (nomark _)) (pss_one (ps_raise (by rfl) t_body (pmk_own PySem.F.excBase_ValueError T_TooMany.xC T_TooMany.gC T_TooMany.kC (raises_own T_TooMany.bC T_TooMany.tC) (by exact rfl)))) pss_nil)
    (pss_cons (ps_set (i := 2) sc_sums.nd rfl (by first | exact Or.inl rfl | exact Or.inr rfl) (pe_lst pa_nil))
    (pss_cons (ps_for own_p (by rfl) (k_pi K rfl (pe_own G_all_taken (hr.mono (by first | decide | omega)) (by rfl) p_body (pa_cons (pe_op o_mul (pe_ix (k_ix K rfl) (pv 0) pe_int (fun _ _ => rfl)) (pe_callB (k_len K rfl) (by rfl) M.len (by decide +kernel) (pa_cons (pv 1) pa_nil))) pa_nil))) (pg_name (i := 3) sc_sums.nd rfl (by first | exact Or.inl rfl | exact Or.inr rfl)) (pss_cons (ps_set (i := 4) sc_sums.nd rfl (by first | exact Or.inl rfl | exact Or.inr rfl) (pe_own G_by_years (hr.mono (by first | decide | omega)) (by rfl) p_body (pa_cons (pv 3) (pa_cons (pe_ix (k_ix K rfl) (pv 0) pe_int (fun _ _ => rfl)) (pa_cons (pe_callB (k_len K rfl) (by rfl) M.len (by decide +kernel) (pa_cons (pv 1) pa_nil)) pa_nil)))))
    (pss_one (ps_expr (k_bm K rfl PySem.F.plainAttrs_list PySem.F.slot_list_append PySem.F.type_list_append mt_append (pv 2) (pa_cons (pe_tup (pa_cons (pv 4) (pa_cons (pe_own G_owed (hr.mono (by first | decide | omega)) (by rfl) p_body (pa_cons (pv 0) (pa_cons (pv 1) (pa_cons (pv 4) pa_nil)))) pa_nil))) pa_nil))))))
    (pss_one (ps_ret (pv 2)))))), ?_⟩
  obtain ⟨F, y, yv, ok, hat, rfl, hy, l20, q⟩ := h
  obtain ⟨f, L, T, fs, ts, rfl, hf, hL, hfs, hT, hts⟩ := Frm.at hat
  have c8 := ok.c8
  refine Fl.go_start (σ0 := [some _, some _, none, none, none]) rfl ?_
  walk_at "s"
  rw [show (F.C : Int) * yv.length = ((F.C * yv.length : Nat) : Int) by rw [Int.natCast_mul]]
  refine if_d (fun c => ?_) (fun c => ?_)
  · walk_at "s"
    rcases q with ⟨_, q⟩ | ⟨h, _⟩
    · exact q _ (.refl _)
    · omega
  rcases q with ⟨h, _⟩ | ⟨l8, q⟩
  · omega
  walk_at "s"
  rename_i p0 hp0
  have sm1 : Same H (upd H p0 (.lst [])) := Same.new (.refl _) hp0
  have p01 : (upd H p0 (.lst [])) p0 = some (.lst []) := upd_same
  generalize upd H p0 (.lst []) = H1 at *
  have hf1 := sm1 _ _ hf
  have hy1 := sm1 _ _ hy
  refine ⟨F.C * yv.length, by rw [Int.natCast_mul], l8, fun pr H2 rv sm2 fpr hpr hrow => ?_⟩
  have sm02 := L2.Same.trans sm1 sm2
  have hf2 := sm02 _ _ hf
  have hy2 := sm02 _ _ hy
  have p02 := sm2 _ _ p01
  have lrv : rv.length = 2 ^ (F.C * yv.length) := by rw [hrow.1, binR_len]
  have lr1 : 1 ≤ rv.length := by rw [lrv]; exact Nat.one_le_two_pow
  have lr256 : rv.length ≤ 256 := by rw [lrv]; exact Nat.le_trans (Nat.pow_le_pow_right (by decide) l8) (by decide)
  have nfp : f ≠ p0 := fun e => by rw [e, hp0] at hf; cases hf
  have nyp : y ≠ p0 := fun e => by rw [e, hp0] at hy; cases hy
  have npp : pr ≠ p0 := fun e => by rw [e, p01] at fpr; cases fpr
  have hat2 := hat.le (Same.le sm02)
  rcases q with ⟨pss, hps, q⟩ | ⟨hb, q⟩
  · have lps := hps.len
    have nel : ∀ l, V.ref l ∈ yv → l ≠ p0 := fun l h e => by
      obtain ⟨j, hj, ej⟩ := List.getElem_of_mem h
      obtain ⟨ps', eps'⟩ : ∃ ps', pss[j]? = some ps' := ⟨_, List.getElem?_eq_getElem (by omega)⟩
      obtain ⟨l', vs', q', hb, _⟩ := hps.at_ j _ ps' (List.getElem?_eq_getElem hj) eps'
      rw [ej] at q'
      cases q'
      rw [e, hp0] at hb
      cases hb
    have hps2 := hps.same sm02
    refine for_lst (fun j σ' H' => ∃ (acc : List V) (y3 y4 : Option V), σ' = [some (.ref f), some (.ref y), some (.ref p0), y3, y4] ∧ H' p0 = some (.lst acc) ∧ AtAll H' (((F.ents pss yv.length).take j).map entD) acc ∧ acc.length = j ∧ (∀ b u, b ≠ p0 → H2 b = some u → H' b = some u))
      hpr ⟨[], none, none, rfl, p02, rfl, rfl, fun b u _ h => h⟩ (fun j σ' H' _ ⟨_, _, _, _, _, _, _, k⟩ => k _ _ npp hpr) ?_ ?_
    · rintro j x σ' H3 ex ⟨acc, y3, y4, rfl, hacc, hata, la, kp⟩
      have jl := (List.getElem?_eq_some_iff.mp ex).1
      obtain ⟨r, er⟩ : ∃ r, (binR (F.C * yv.length))[j]? = some r := ⟨_, List.getElem?_eq_getElem (by have := hrow.1; omega)⟩
      have lr := binR_row (List.mem_of_getElem? er)
      obtain ⟨t, rfl, ht2⟩ := hrow.2 j x r ex er
      have ntp : t ≠ p0 := fun e => by rw [e, p02] at ht2; cases ht2
      have lt3 : LeT H2 H3 := leT_keep kp p02
      have ht3 := kp _ _ ntp ht2
      have hf3 := kp _ _ nfp hf2
      have hy3 := kp _ _ nyp hy2
      walk_at "s"
      refine ⟨t, r, F.C, yv.length, rfl, ht3, rfl, rfl, c8, l20, fun tk H4 tv sm4 htk hty => ?_⟩
      have hy4 := sm4 _ _ hy3
      have htks := hty.tks (C := F.C) (fun x hx => byY_row lr hx)
      have hps4 := (hps2.kp kp lt3 nel).same sm4
      have hat4 := (hat2.leT lt3 F.tupO).le (Same.le sm4)
      have ltv := hty.1
      rw [byY_len] at ltv
      walk_at "s"
      refine ⟨F, y, yv, tk, tv, byY F.C yv.length r, ok, hat4, rfl, hy4, rfl, .inr htk, htks, by omega, l20, .inl ⟨pss, hps4, fun H5 sm5 => ?_⟩⟩
      have sm35 := L2.Same.trans sm4 sm5
      have hacc5 := sm35 _ _ hacc
      have hata5 := hata.le (Same.le sm35)
      have hty5 := hty.le (fun b ys h => sm5 _ _ h)
      have htk5 := sm5 _ _ htk
      walk_at "s"
      rename_i pt hpt
      have sm6 : Same H5 (upd H5 pt (.tup [.ref tk, .int (F.tot pss (byY F.C yv.length r) yv.length)])) := Same.new (.refl _) hpt
      have hpt6 : (upd H5 pt (.tup [.ref tk, .int (F.tot pss (byY F.C yv.length r) yv.length)])) pt = some (.tup [.ref tk, .int (F.tot pss (byY F.C yv.length r) yv.length)]) := upd_same
      have npt : pt ≠ p0 := fun e => by rw [e, hacc5] at hpt; cases hpt
      generalize upd H5 pt (.tup [.ref tk, .int (F.tot pss (byY F.C yv.length r) yv.length)]) = H6 at *
      have hacc6 := sm6 _ _ hacc5
      have k7 : ∀ b u, b ≠ p0 → H6 b = some u → (upd H6 p0 (.lst (acc ++ [.ref pt]))) b = some u := fun b u nb h => by rw [upd_ne nb]; exact h
      have lt7 : LeT H6 (upd H6 p0 (.lst (acc ++ [.ref pt]))) := leT_keep k7 hacc6
      have er' : (F.ents pss yv.length)[j]? = some (F.ent pss yv.length r) := by
        unfold Frm.ents
        rw [List.getElem?_map, er]
        rfl
      have hnew : At H6 (entD (F.ent pss yv.length r)) (.ref pt) := at_tup hpt6 (AtAll.cons (at_tup (sm6 _ _ htk5) ((hty5.le (fun b ys h => sm6 _ _ h)).atAll)) (AtAll.cons rfl AtAll.nil))
      refine ⟨acc ++ [.ref pt], _, _, rfl, upd_same, ?_, by rw [List.length_append, la]; rfl, fun b u nb h => k7 _ _ nb (sm6 _ _ (sm35 _ _ (kp _ _ nb h)))⟩
      rw [List.take_add_one, er', List.map_append]
      exact ((hata5.le (Same.le sm6)).leT lt7 (ents_tup _)).append (AtAll.one (hnew.leT lt7 (entD_tup _)))
    · rintro σ' H3 ⟨acc, y3, y4, rfl, hacc, hata, la, kp⟩
      rw [List.take_of_length_le (by unfold Frm.ents; rw [List.length_map, ← hrow.1]; exact Nat.le_refl _)] at hata
      walk_at "s"
      exact q p0 H3 acc (fun b u h => kp _ _ (fun e => by rw [e, hp0] at h; cases h) (sm02 _ _ h)) hp0 hacc hata
  · refine for_lst (fun j σ' H' => j = 0 ∧ σ' = [some (.ref f), some (.ref y), some (.ref p0), none, none] ∧ Same H2 H') hpr ⟨rfl, rfl, .refl _⟩ (fun j σ' H' _ ⟨_, _, k⟩ => k _ _ hpr) ?_ ?_
    · rintro j x σ' H3 ex ⟨rfl, rfl, sm3⟩
      obtain ⟨r, er⟩ : ∃ r, (binR (F.C * yv.length))[0]? = some r := ⟨_, List.getElem?_eq_getElem (by have := hrow.1; omega)⟩
      have lr := binR_row (List.mem_of_getElem? er)
      obtain ⟨t, rfl, ht2⟩ := hrow.2 0 x r ex er
      have ht3 := sm3 _ _ ht2
      have hf3 := sm3 _ _ hf2
      have hy3 := sm3 _ _ hy2
      have sm03 := L2.Same.trans sm02 sm3
      walk_at "s"
      refine ⟨t, r, F.C, yv.length, rfl, ht3, rfl, rfl, c8, l20, fun tk H4 tv sm4 htk hty => ?_⟩
      have hy4 := sm4 _ _ hy3
      have htks := hty.tks (C := F.C) (fun x hx => byY_row lr hx)
      have sm04 := L2.Same.trans sm03 sm4
      have ltv := hty.1
      rw [byY_len] at ltv
      have p04 := sm4 _ _ (sm3 _ _ p02)
      walk_at "s"
      exact ⟨F, y, yv, tk, tv, byY F.C yv.length r, ok, hat.le (Same.le sm04), rfl, hy4, rfl, .inr htk, htks, by omega, l20, .inr ⟨hb.same sm04, fun H5 sm5 => q _ (L2.Same.trans sm04 sm5)⟩⟩
    · rintro σ' H3 ⟨e, _⟩
      omega
abbrev s_least : Stmt := topS 50
theorem sc_least : FnScope ["form", "years", "found", "pair"] ["form", "years"] (defScope s_least) := ⟨rfl, rfl, rfl, by decide +kernel, rfl, by decide +kernel, by decide +kernel⟩
def sp_leastX (CT CP : Addr) : Sp2 := fun a b H Q E => ∃ (F : Frm) (y : Addr) (yv : List V), F.Ok 40 ∧ At H F.d a ∧ b = .ref y ∧ H y = some (.lst yv) ∧ yv.length ≤ 20 ∧
  ((8 < F.C * yv.length ∧ ∀ H', Same H H' → E (.ref CT) none H') ∨ (F.C * yv.length ≤ 8 ∧ ((∃ pss, PapsAt H yv pss ∧ ∀ v H', Same H H' → (∀ e0 es, F.ents pss yv.length = e0 :: es → At H' (entD (bst e0 (e0 :: es))) v) → Q v H') ∨ (PaB H yv ∧ ∀ H', Same H H' → E (.ref CP) none H'))))
theorem ok_least {CT CP : Addr} (M : Mg mg) (G_sums : Has P w K mg base "sums" ["form", "years"] 13 (sp2 (sp_sumsX CT CP))) (D : DefAt K mg "least" s_least ["form", "years"]) : Has P w K mg base "least" ["form", "years"] 14 (sp2 (sp_leastX CT CP)) := by
  refine .mk2 D sc_least fun fa cdv A outer s0 H a b Q E hr h => ⟨_, (pss_cons (ps_set (i := 2) sc_least.nd rfl (by first | exact Or.inl rfl | exact Or.inr rfl) pe_non)
    (pss_cons (ps_for own_p (by rfl) (k_pi K rfl (pe_own G_sums (hr.mono (by first | decide | omega)) (by rfl) p_body (pa_cons (pv 0) (pa_cons (pv 1) pa_nil)))) (pg_name (i := 3) sc_least.nd rfl (by first | exact Or.inl rfl | exact Or.inr rfl)) (pss_one (ps_if (PW.pt (pw_or (pt_cmpR op_isN (pv 2) pe_non (nomark _)) (pw_or1 (pt_cmpR o_lt (pe_ix (k_ix K rfl) (pv 3) pe_int (fun _ _ => rfl)) (pe_ix (k_ix K rfl) (pv 2) pe_int (fun _ _ => rfl)) (nomark _))))) (pss_one (ps_set (i := 2) sc_least.nd rfl (by first | exact Or.inl rfl | exact Or.inr rfl) (pv 3))) pss_nil)))
    (pss_one (ps_ret (pv 2))))), ?_⟩
  obtain ⟨F, y, yv, ok, hat, rfl, hy, l20, q⟩ := h
  refine Fl.go_start (σ0 := [some _, some _, none, none]) rfl ?_
  walk_at "s"
  rcases q with ⟨c, q⟩ | ⟨c, ⟨pss, hps, q⟩ | ⟨hb, q⟩⟩
  · exact ⟨F, y, yv, ok, hat, rfl, hy, l20, .inl ⟨c, q⟩⟩
  · refine ⟨F, y, yv, ok, hat, rfl, hy, l20, .inr ⟨c, .inl ⟨pss, hps, fun p H1 vs sm1 _ hp hes => ?_⟩⟩⟩
    obtain ⟨e0, es, ee⟩ : ∃ e0 es, F.ents pss yv.length = e0 :: es := by
      cases e : F.ents pss yv.length with
      | nil =>
        have := congrArg List.length e
        unfold Frm.ents at this
        rw [List.length_map, binR_len] at this
        have h1 : 1 ≤ 2 ^ (F.C * yv.length) := Nat.one_le_two_pow
        simp at this
      | cons a b => exact ⟨a, b, rfl⟩
    rw [ee] at hes
    have lv := hes.length
    rw [List.length_map] at lv
    refine for_lst (fun j σ' H' => Same H1 H' ∧ ∃ (y3 : Option V) (v : V), σ' = [some a, some (.ref y), some v, y3] ∧ ((j = 0 ∧ v = .non) ∨ (1 ≤ j ∧ At H' (entD (bst e0 ((e0 :: es).take j))) v))) hp ⟨.refl _, none, .non, rfl, .inl ⟨rfl, rfl⟩⟩ (fun j σ' H' _ ⟨k, _⟩ => k _ _ hp) ?_ ?_
    · rintro j x σ' H2 ex ⟨sm2, y3, v, rfl, hv⟩
      obtain ⟨d, ed, hd⟩ := hes.ix ex
      obtain ⟨e, ee2, rfl⟩ : ∃ e, (e0 :: es)[j]? = some e ∧ d = entD e := by
        rw [List.getElem?_map] at ed
        cases e : (e0 :: es)[j]? with
        | none => rw [e] at ed; cases ed
        | some t => rw [e] at ed; exact ⟨t, rfl, (Option.some.inj ed).symm⟩
      have hd2 := hd.le (Same.le sm2)
      have stp : bst e0 ((e0 :: es).take (j + 1)) = if e.2 < (bst e0 ((e0 :: es).take j)).2 then e else bst e0 ((e0 :: es).take j) := by
        unfold bst
        rw [List.take_add_one, ee2, List.foldl_append]
        rfl
      obtain ⟨te, ue, rfl, hte, u0, r0, rfl, h0, u1, r1, rfl, h1, h2⟩ := hd2
      cases (show u1 = .int e.2 from h1)
      cases (show r1 = [] from h2)
      have hde : At H2 (entD e) (.ref te) := ⟨te, _, rfl, hte, u0, _, rfl, h0, _, _, rfl, rfl, rfl⟩
      walk_at "s"
      rcases hv with ⟨rfl, rfl⟩ | ⟨j1, hv⟩
      · refine if_dt rfl ?_
        walk_at "s"
        refine ⟨_, _, rfl, .inr ⟨by omega, ?_⟩⟩
        rw [stp]
        have he : e0 = e := Option.some.inj ee2
        subst he
        show At H2 (entD (if e0.2 < e0.2 then e0 else e0)) _
        rw [ite_self]
        exact hde
      · obtain ⟨tb, ub, rfl, htb, v0, s0', rfl, g0, v1, s1, rfl, g1, g2⟩ := hv
        cases (show v1 = .int _ from g1)
        cases (show s1 = [] from g2)
        have hdb : At H2 (entD (bst e0 ((e0 :: es).take j))) (.ref tb) := ⟨tb, _, rfl, htb, v0, _, rfl, g0, _, _, rfl, rfl, rfl⟩
        refine if_df (by simp) ?_
        walk_at "s"
        refine if_d (fun c => ?_) (fun c => ?_)
        · walk_at "s"
          refine ⟨_, _, rfl, .inr ⟨by omega, ?_⟩⟩
          rw [stp, if_pos c]
          exact hde
        · walk_at "s"
          refine ⟨_, _, rfl, .inr ⟨by omega, ?_⟩⟩
          rw [stp, if_neg c]
          exact hdb
    · rintro σ' H2 ⟨sm2, y3, v, rfl, hv⟩
      walk_at "s"
      refine q v H2 (L2.Same.trans sm1 sm2) fun e0' es' e' => ?_
      rw [ee] at e'
      cases e'
      rcases hv with ⟨h, _⟩ | ⟨_, h⟩
      · rw [lv] at h
        cases h
      · rw [List.take_of_length_le (by omega)] at h
        exact h
  · exact ⟨F, y, yv, ok, hat, rfl, hy, l20, .inr ⟨c, .inr ⟨hb, q⟩⟩⟩
end
end Fl

-- after: va3.tpl lawtab.tpl
namespace Fl
open PySem PySem.Spec PyProof.Rows L2 RZ
/-! ### the law's own value of a rule -/
/-- dict(pairs) -/
def rDictP (K : PySem.W.Frag) : List V → Hp → VK → Prop := fun xs H Q => ∃ (a : Addr) (ps : List Addr) (kvs : List (Key × V)), xs = [.ref a] ∧ SqL K H a (ps.map V.ref) ∧ Paired (fun p kv => SqT K H p [kV kv.1, kv.2]) ps kvs ∧
    ∀ p, H p = none → Q (.ref p) (upd H p (.dK (mergeK [] kvs)))
theorem k_dict (K : PySem.W.Frag) {X : L2.Cx} (h : X.K = K) (hc : X.calm = true) : CallR X (.type "dict") (rDictP K) := by
  subst h
  exact call_dictP hc
def kvOf (p : Str × Int) : Key × V := (.inr p.1, .int p.2)
theorem prs_paired {K : PySem.W.Frag} {H : Hp} : ∀ {ps : List (Str × Int)} {vs : List V}, AtAll H (ps.map prD) vs → ∃ as : List Addr, vs = as.map V.ref ∧ Paired (fun p kv => SqT K H p [kV kv.1, kv.2]) as (ps.map kvOf)
  | [], _, h => by
    cases (show _ = _ from h)
    exact ⟨[], rfl, .nil⟩
  | p :: r, _, ⟨v, us, e, h, t⟩ => by
    subst e
    obtain ⟨as, rfl, ha⟩ := prs_paired (K := K) t
    obtain ⟨x, u, rfl, hx, hu⟩ := At.t2 h
    cases (show u = .int p.2 from hu)
    exact ⟨x :: as, rfl, .cons (.of hx) ha⟩
theorem merge_dic : ∀ {more done : List (Str × Int)} {kvs : List (Key × V)}, ((done ++ more).map (·.1)).Nodup → DicOf done kvs → DicOf (done ++ more) (mergeK kvs (more.map kvOf))
  | [], done, kvs, _, h => by
    rw [List.append_nil]
    exact h
  | p :: r, done, kvs, nd, h => by
    have no : p.1 ∉ done.map (·.1) := fun hm => by
      rw [List.map_append, List.map_cons] at nd
      exact (List.nodup_append.mp nd).2.2 _ hm _ List.mem_cons_self rfl
    have ih := merge_dic (more := r) (done := done ++ [p]) (kvs := putK kvs (.inr p.1) (.int p.2)) (by rw [List.append_assoc]; exact nd) (h.put no)
    rw [List.append_assoc] at ih
    exact ih
theorem dict_prs {K : PySem.W.Frag} {H : Hp} {Q : VK} {a : Addr} {vs : List V} {ps : List (Str × Int)} (ha : H a = some (.lst vs)) (hv : AtAll H (ps.map prD) vs) (ok : PapOk ps) (q : ∀ p kvs, H p = none → DicOf ps kvs → Q (.ref p) (upd H p (.dK kvs))) : rDictP K [.ref a] H Q := by
  obtain ⟨as, rfl, hp⟩ := prs_paired (K := K) hv
  exact ⟨a, as, _, rfl, .of ha, hp, fun p h => q p _ h (merge_dic (more := ps) (done := []) ok.nd (fun w => by simp [valV_nil]))⟩
/-- one number of these -/
theorem cut_one (ls : List Int) (n : Nat) : cutV (ls.map V.int) (some (n : Int)) (some ((n : Int) + 1)) = ((ls.drop n).take 1).map V.int := by
  unfold cutV HT.sIx
  simp only []
  rw [if_neg (by omega), if_neg (by omega), Int.toNat_natCast, show ((n : Int) + 1).toNat = n + 1 by omega, List.length_map, List.map_take, List.map_drop]
  by_cases h : n + 1 ≤ ls.length
  · rw [Nat.min_eq_left h, Nat.min_eq_left (by omega), show n + 1 - n = 1 by omega]
  · rw [Nat.min_eq_right (by omega)]
    have e1 : (ls.map V.int).drop n = [] := List.drop_eq_nil_of_le (by rw [List.length_map]; omega)
    by_cases h2 : n ≤ ls.length
    · rw [Nat.min_eq_left h2, e1, List.take_nil, List.take_nil]
    · rw [Nat.min_eq_right (by omega), e1, List.take_nil, List.drop_eq_nil_of_le (by rw [List.length_map]; exact Nat.le_refl _), List.take_nil]
theorem sum_one (ls : List Int) (n : Nat) : ((ls.drop n).take 1).sum = ls.getD n 0 := by
  rw [List.getD_eq_getElem?_getD]
  cases e : ls[n]? with
  | none =>
    rw [List.drop_eq_nil_of_le (List.getElem?_eq_none_iff.mp e)]
    rfl
  | some x =>
    obtain ⟨h, rfl⟩ := List.getElem?_eq_some_iff.mp e
    rw [List.drop_eq_getElem_cons h]
    simp only [List.take_succ_cons, List.take_zero, List.sum_cons, List.sum_nil]
    exact Int.add_zero _
theorem sum_cut {H : Hp} {Q : VK} {a : Addr} {ls : List Int} {n : Nat} (h : H a = some (.lst (cutV (ls.map V.int) (some (n : Int)) (some ((n : Int) + 1))))) (q : Q (.int (ls.getD n 0)) H) : ∃ ns : List Int, H a = some (.lst (ns.map V.int)) ∧ Q (.int ns.sum) H :=
  ⟨(ls.drop n).take 1, by rw [h, cut_one], by rw [sum_one]; exact q⟩
theorem Sgt.ear_getD (S : Sgt) (k : Int) : S.ear k = S.earl.getD k.toNat 0 := by
  unfold Sgt.ear
  split
  · rename_i h
    rw [h]
    rfl
  · rfl
/-- the law's sight -/
structure LgtAt (H : Hp) (v : V) (F : Frm) (S : Sgt) : Prop where
  ex : ∃ (s l p e t k : Addr) (vs : List V) (ps : List (Str × Int)) (ts : List V), v = .ref s ∧ H s = some (.tup [.ref l, .ref p, .ref e, .ref t, .ref k]) ∧ H l = some (.lst (S.lines.map V.int)) ∧ (H p = some (.lst vs) ∧ AtAll H (ps.map prD) vs ∧ PapOk ps ∧ S.papers = papF ps) ∧
    H e = some (.lst (S.earl.map V.int)) ∧ (H t = some (.tup ts) ∧ AtAll H (S.tbs.map tbD) ts) ∧ BoolsAt H k S.tk
  tb : S.tbs = F.tbs
  ll : S.lines.length = F.rs.length
  le : S.earl = [] ∨ S.earl.length = F.rs.length
  lk : S.tk.length = F.C
theorem LgtAt.same {H H' : Hp} {v : V} {F : Frm} {S : Sgt} (h : LgtAt H v F S) (e : Same H H') : LgtAt H' v F S := by
  obtain ⟨s, l, p, e1, t, k, vs, ps, ts, h1, h2, h3, ⟨h4, h4a, h4b, h4c⟩, h5, ⟨h6, h6'⟩, h7⟩ := h.ex
  exact ⟨⟨s, l, p, e1, t, k, vs, ps, ts, h1, e _ _ h2, e _ _ h3, ⟨e _ _ h4, h4a.le (Same.le e), h4b, h4c⟩, e _ _ h5, ⟨e _ _ h6, h6'.le (Same.le e)⟩, h7.imp (e _ _) (e _ _)⟩, h.tb, h.ll, h.le, h.lk⟩
/-- a dict that is written down -/
theorem disp_cons {tk tv : TE} {r : List (TE × TE)} {σ : L2.St} {H : Hp} {Q : List (V × V) → Hp → Prop} (h : tk σ H fun x H1 => tv σ H1 fun y H2 => tPairs r σ H2 fun ps H3 => Q ((x, y) :: ps) H3) : tPairs ((tk, tv) :: r) σ H Q := h
section
variable {P : Program} {w : World} {K : PySem.W.Frag} {mg : Str → Option Value} {base : Heap}
section
variable {tk tv : TE} {r : List (TE × TE)} {σ : L2.St} {H : Hp} {Q : List (V × V) → Hp → Prop} {Q' : VK}
instance : Step (tPairs ((tk, tv) :: r) σ H Q) (tk σ H fun x H1 => tv σ H1 fun y H2 => tPairs r σ H2 fun ps H3 => Q ((x, y) :: ps) H3) := ⟨disp_cons⟩
instance : Step (tPairs [] σ H Q) (Q [] H) := ⟨fun h => h⟩
instance : Step (tDisp r σ H Q') (NewQ H fun p => tPairs r σ (upd H p (.dK [])) fun ps H2 => H2 p = some (.dK []) ∧ ∃ kvs : List (Key × V), ps = kvs.map (fun kv => (kV kv.1, kv.2)) ∧ kvs.length ≤ 15 ∧ Q' (.ref p) (upd H2 p (.dK (mergeK [] kvs)))) := ⟨fun h => h⟩
end
theorem val_join {w : Str} {x y : Int} {kvs : List (Key × V)} (hw : op4 w) (e : kvs = [(.inr "add", .int (x + y)), (.inr "take", .int (x - y)), (.inr "least", .int (if y < x then y else x)), (.inr "most", .int (if y > x then y else x))]) : valV (mergeK [] kvs) (.inr w) = some (.int (joinV w x y)) := by
  subst e
  have hw' : w = "add" ∨ w = "take" ∨ w = "least" ∨ w = "most" := by
    unfold op4 at hw
    exact hw
  rcases hw' with rfl | rfl | rfl | rfl <;> rfl
abbrev s__law_value : Stmt := topS 66
theorem sc__law_value : FnScope ["_law_rule_here", "_law_sight", "_law_word", "_law_values", "_law_one", "_law_other"] ["_law_rule_here", "_law_sight"] (defScope s__law_value) := ⟨rfl, rfl, rfl, by decide +kernel, rfl, by decide +kernel, by decide +kernel⟩
def sp_lval (n : Nat) : Sp2 := fun a b H Q _ => ∃ (F : Frm) (S : Sgt) (r : Rule), F.Ok 40 ∧ At H r.d a ∧ r.ok F.g n ∧ LgtAt H b F S ∧ ∀ H', Same H H' → Q (.int (r.val S)) H'
theorem ok_lval_step {n : Nat} (M : Mg mg) (G__law_at : Has P w K mg base "_law_at" ["_law_table_here", "_law_number_here"] 1 (sp2 sp_law_at))
    (G__law_value : Has P w K mg base "_law_value" ["_law_rule_here", "_law_sight"] (n + 1) (sp2 (sp_lval n))) (D : DefAt K mg "_law_value" s__law_value ["_law_rule_here", "_law_sight"]) : Has P w K mg base "_law_value" ["_law_rule_here", "_law_sight"] (n + 1 + 1) (sp2 (sp_lval (n + 1))) := by
  refine .mk2 D sc__law_value fun fa cdv A outer s0 H a b Q E hr h => ⟨_, (pss_cons (ps_set (i := 2) sc__law_value.nd rfl (by first | exact Or.inl rfl | exact Or.inr rfl) (pe_ix (k_ix K rfl) (pv 0) pe_int (fun _ _ => rfl)))
    (pss_cons (ps_if (pt_cmpR (k_eq K rfl hr) (pv 2) pe_str (nomark _)) (pss_one (ps_ret (pe_ix (k_ix K rfl) (pv 0) pe_int (fun _ _ => rfl)))) pss_nil)
    (pss_cons (ps_if (pt_cmpR (k_eq K rfl hr) (pv 2) pe_str (nomark _)) (pss_one (ps_ret (pe_dget2 (hu_of hr) (pe_callTy (k_dict K rfl rfl) (by rfl) M.dict (by decide +kernel) (pa_cons (pe_ix (k_ix K rfl) (pv 1) pe_int (fun _ _ => rfl)) pa_nil)) (pe_ix (k_ix K rfl) (pv 0) pe_int (fun _ _ => rfl)) pe_int ⟨rfl, rfl, rfl, rfl⟩))) pss_nil)
    (pss_cons (ps_if (pt_cmpR (k_in K rfl hr) (pv 2) (pe_lst (pa_cons pe_str (pa_cons pe_str pa_nil))) (by rfl)) (pss_cons (ps_set (i := 3) sc__law_value.nd rfl (by first | exact Or.inl rfl | exact Or.inr rfl) (pe_ix (k_ix K rfl) (pv 1) (pe_op o_mul pe_int (pe_callTy c_int (by rfl) M.int (by decide +kernel) (pa_cons (pe_cmpR (k_eq K rfl hr) (pv 2) pe_str (nomark _)) pa_nil))) (fun _ _ => rfl)))
    (pss_one (ps_ret (pe_callB (k_sum K rfl rfl) (by rfl) M.sum (by decide +kernel) (pa_cons (pe_slice (k_sl K rfl) (pv 3) (po_some (pe_ix (k_ix K rfl) (pv 0) pe_int (fun _ _ => rfl))) (po_some (pe_op (k_add K rfl) (pe_ix (k_ix K rfl) (pv 0) pe_int (fun _ _ => rfl)) pe_int))) pa_nil))))) pss_nil)
    (pss_cons (ps_if (pt_cmpR (k_eq K rfl hr) (pv 2) pe_str (nomark _)) (pss_one (ps_ret (pe_own G__law_at (hr.mono (by first | decide | omega)) (by rfl) p_body (pa_cons (pe_ix (k_ix K rfl) (pe_ix (k_ix K rfl) (pv 1) pe_int (fun _ _ => rfl)) (pe_ix (k_ix K rfl) (pv 0) pe_int (fun _ _ => rfl)) (fun _ _ => rfl)) (pa_cons (pe_own G__law_value (hr.mono (by first | decide | omega)) (by rfl) p_body (pa_cons (pe_ix (k_ix K rfl) (pv 0) pe_int (fun _ _ => rfl)) (pa_cons (pv 1) pa_nil))) pa_nil))))) pss_nil)
    (pss_cons (ps_if (pt_cmpR (k_eq K rfl hr) (pv 2) pe_str (nomark _)) (pss_one (ps_ret (pe_op o_div (pe_op o_mul (pe_own G__law_value (hr.mono (by first | decide | omega)) (by rfl) p_body (pa_cons (pe_ix (k_ix K rfl) (pv 0) pe_int (fun _ _ => rfl)) (pa_cons (pv 1) pa_nil))) (pe_ix (k_ix K rfl) (pv 0) pe_int (fun _ _ => rfl))) pe_int))) pss_nil)
    (pss_cons (ps_if (pt_cmpR (k_eq K rfl hr) (pv 2) pe_str (nomark _)) (pss_one (ps_ret (pe_own G__law_value (hr.mono (by first | decide | omega)) (by rfl) p_body (pa_cons (pe_ix (k_ix K rfl) (pv 0) (pe_op (k_add K rfl) pe_int (pe_callTy c_int (by rfl) M.int (by decide +kernel) (pa_cons (pe_ix (k_ix K rfl) (pe_ix (k_ix K rfl) (pv 1) pe_int (fun _ _ => rfl)) (pe_ix (k_ix K rfl) (pv 0) pe_int (fun _ _ => rfl)) (fun _ _ => rfl)) pa_nil))) (fun _ _ => rfl)) (pa_cons (pv 1) pa_nil))))) pss_nil)
    (pss_cons (ps_set (i := 4) sc__law_value.nd rfl (by first | exact Or.inl rfl | exact Or.inr rfl) (pe_own G__law_value (hr.mono (by first | decide | omega)) (by rfl) p_body (pa_cons (pe_ix (k_ix K rfl) (pv 0) pe_int (fun _ _ => rfl)) (pa_cons (pv 1) pa_nil))))
    (pss_cons (ps_set (i := 5) sc__law_value.nd rfl (by first | exact Or.inl rfl | exact Or.inr rfl) (pe_own G__law_value (hr.mono (by first | decide | omega)) (by rfl) p_body (pa_cons (pe_ix (k_ix K rfl) (pv 0) pe_int (fun _ _ => rfl)) (pa_cons (pv 1) pa_nil))))
    (pss_cons (ps_if (pt_cmpR (k_eq K rfl hr) (pv 2) pe_str (nomark _)) (pss_one (ps_ret (pe_ix (k_ix K rfl) (pe_lst (pa_cons (pe_own G__law_value (hr.mono (by first | decide | omega)) (by rfl) p_body (pa_cons (pe_ix (k_ix K rfl) (pv 0) pe_int (fun _ _ => rfl)) (pa_cons (pv 1) pa_nil))) (pa_cons (pv 5) pa_nil))) (pe_callTy c_int (by rfl) M.int (by decide +kernel) (pa_cons (pe_cmpR o_gt (pv 4) pe_int (nomark _)) pa_nil)) (fun _ _ => rfl)))) pss_nil)
    (pss_one (ps_ret (pe_dget (hu_of hr) (pe_disp (pps_cons pe_str (pe_op (k_add K rfl) (pv 4) (pv 5)) (pps_cons pe_str (pe_op o_sub (pv 4) (pv 5)) (pps_cons pe_str (pe_callB (c_min2 rfl) (by rfl) M.min (by decide +kernel) (pa_cons (pv 4) (pa_cons (pv 5) pa_nil))) (pps_cons pe_str (pe_callB (c_max2 rfl) (by rfl) M.max (by decide +kernel) (pa_cons (pv 4) (pa_cons (pv 5) pa_nil))) pps_nil)))) (by rfl) (by rfl) (fun z => by cases z) (by decide)) (pv 2) (fun _ _ => rfl)))))))))))))), ?_⟩
  obtain ⟨F, S, r, ok, hat, hok, hS, q⟩ := h
  have hSx := hS
  obtain ⟨s, l, p, e, t, k, vs, ps, ts, rfl, hs, hl, ⟨hp, hpv, pok, hpk⟩, he, ⟨ht, hts⟩, hk⟩ := hSx.ex
  have ll := hS.ll
  have lk := hS.lk
  have tb := hS.tb
  refine Fl.go_start (σ0 := [some _, some _, none, none, none, none]) rfl ?_
  cases r with
  | num i =>
    obtain ⟨x, u, rfl, hx, h1⟩ := At.t2 hat
    cases (show u = .int i from h1)
    walk_at "s"
    exact q _ (.refl _)
  | line i =>
    obtain ⟨x, u, rfl, hx, h1⟩ := At.t2 hat
    cases (show u = .int i from h1)
    have hi := mem_rangeI.mp (show i ∈ rangeI F.rs.length from hok)
    obtain ⟨n', rfl⟩ : ∃ n' : Nat, i = n' := ⟨i.toNat, by omega⟩
    walk_at "s"
    refine sum_cut upd_same ?_
    exact q _ (by walk_at "sm")
  | paper x =>
    obtain ⟨x', u, rfl, hx, h1⟩ := At.t2 hat
    cases (show u = .str x from h1)
    walk_at "s"
    refine dict_prs (by walk_at "hp") hpv pok fun d kvs hd hdic => ?_
    have hd' : (upd H d (.dK kvs)) d = some (.dK kvs) := upd_same
    walk_at "s"
    refine ⟨isD_of hd', ?_⟩
    walk_at "s"
    refine dinS hd' ?_
    rw [hdic.papK x, ← hpk]
    exact q _ (by walk_at "sm")
  | earl i =>
    obtain ⟨x, u, rfl, hx, h1⟩ := At.t2 hat
    cases (show u = .int i from h1)
    have hi := (show 0 ≤ i ∧ i < (F.rs.length : Int) from hok)
    obtain ⟨n', rfl⟩ : ∃ n' : Nat, i = n' := ⟨i.toNat, by omega⟩
    walk_at "s"
    refine sum_cut upd_same ?_
    have e := S.ear_getD n'
    rw [Int.toNat_natCast] at e
    rw [← e]
    exact q _ (by walk_at "sm")
  | two x y z =>
    obtain ⟨x', u1, u2, rfl, hx, h1, h2⟩ := At.t3 hat
    have hw := hok.1
    have n1 : ¬ x = "number" := by rintro rfl; exact absurd hw (by unfold op4; decide +kernel)
    have n2 : ¬ x = "line" := by rintro rfl; exact absurd hw (by unfold op4; decide +kernel)
    have n3 : ¬ x = "paper" := by rintro rfl; exact absurd hw (by unfold op4; decide +kernel)
    have n4 : ¬ x = "earlier" := by rintro rfl; exact absurd hw (by unfold op4; decide +kernel)
    have n5 : ¬ x = "table" := by rintro rfl; exact absurd hw (by unfold op4; decide +kernel)
    have n6 : ¬ x = "choose" := by rintro rfl; exact absurd hw (by unfold op4; decide +kernel)
    have n7 : ¬ x = "part" := by rintro rfl; exact absurd hw (by unfold op4; decide +kernel)
    have n8 : ¬ x = "where" := by rintro rfl; exact absurd hw (by unfold op4; decide +kernel)
    walk_at "s"
    refine if_df n1 ?_
    walk_at "s"
    refine if_df n3 ?_
    walk_at "s"
    rw [show inV (V.str x) [V.str "line", V.str "earlier"] = false by (simp [inV, eqV]; exact ⟨fun h => n2 h.symm, fun h => n4 h.symm⟩)]
    walk_at "s"
    refine if_df n5 ?_
    walk_at "s"
    refine if_df n7 ?_
    walk_at "s"
    refine if_df n6 ?_
    walk_at "s"
    refine ⟨F, S, y, ok, h1.le (by walk_at "le"), hok.2.1, hS.same (by walk_at "sm"), fun H1 sm1 => ?_⟩
    walk_at "s"
    refine ⟨F, S, z, ok, h2.le (by walk_at "le"), hok.2.2, hS.same (by walk_at "sm"), fun H2 sm2 => ?_⟩
    walk_at "s"
    refine if_df n8 ?_
    walk_at "s"
    refine ⟨upd_same, [(.inr "add", .int (y.val S + z.val S)), (.inr "take", .int (y.val S - z.val S)), (.inr "least", .int (if z.val S < y.val S then z.val S else y.val S)), (.inr "most", .int (if z.val S > y.val S then z.val S else y.val S))], rfl, by show 4 ≤ 15; decide, ?_⟩
    walk_at "s"
    refine dgetS upd_same (val_join hw rfl) ?_
    exact q _ (by walk_at "sm")
  | part x i =>
    obtain ⟨x', u1, u2, rfl, hx, h1, h2⟩ := At.t3 hat
    cases (show u2 = .int i from h2)
    have hi := hok.1
    walk_at "s"
    refine ⟨F, S, x, ok, h1.le (by walk_at "le"), hok.2, hS.same (by walk_at "sm"), fun H1 sm1 => ?_⟩
    walk_at "s"
    exact q _ (by walk_at "sm")
  | table i x =>
    obtain ⟨x', u1, u2, rfl, hx, h1, h2⟩ := At.t3 hat
    cases (show u1 = .int i from h1)
    have hi := (show 0 ≤ i ∧ i < (F.tbs.length : Int) from hok.1)
    obtain ⟨n', rfl⟩ : ∃ n' : Nat, i = n' := ⟨i.toNat, by omega⟩
    obtain ⟨rows, er⟩ : ∃ rows, S.tbs[n']? = some rows := ⟨S.tbs[n']'(by rw [tb]; omega), List.getElem?_eq_getElem _⟩
    obtain ⟨v0, ev0, hv0⟩ := hts.get (i := n') (d := tbD rows) (by rw [List.getElem?_map, er]; rfl)
    have dr := ok.tb rows (by rw [← tb]; exact List.mem_of_getElem? er)
    walk_at "s"
    refine ex_v (atI_nat ev0) ?_
    walk_at "s"
    refine ⟨F, S, x, ok, h2.le (by walk_at "le"), hok.2, hS.same (by walk_at "sm"), fun H1 sm1 => ?_⟩
    walk_at "s"
    refine ⟨rows, x.val S, hv0.le (by walk_at "le"), rfl, dr.small, ?_⟩
    have e : (Rule.table n' x).val S = atTab rows (x.val S) := by
      simp only [Rule.val]
      rw [Int.toNat_natCast, List.getD_eq_getElem?_getD, er]
      rfl
    rw [← e]
    exact q _ (by walk_at "sm")
  | wher x y z =>
    obtain ⟨x', u1, u2, u3, rfl, hx, h1, h2, h3⟩ := At.t4 hat
    walk_at "s"
    refine ⟨F, S, x, ok, h1.le (by walk_at "le"), hok.1, hS.same (by walk_at "sm"), fun H1 sm1 => ?_⟩
    walk_at "s"
    refine ⟨F, S, y, ok, h2.le (by walk_at "le"), hok.2.1, hS.same (by walk_at "sm"), fun H2 sm2 => ?_⟩
    walk_at "s"
    refine ⟨F, S, z, ok, h3.le (by walk_at "le"), hok.2.2, hS.same (by walk_at "sm"), fun H3 sm3 => ?_⟩
    have e : (Rule.wher x y z).val S = if 0 < x.val S then y.val S else z.val S := rfl
    walk_at "s"
    by_cases c : 0 < x.val S
    · rw [e, if_pos c] at q
      rw [decide_eq_true c]
      refine ⟨_, rfl, ?_⟩
      exact q _ (by walk_at "sm")
    · rw [e, if_neg c] at q
      rw [decide_eq_false c]
      refine ⟨_, rfl, ?_⟩
      exact q _ (by walk_at "sm")
  | choo i x y =>
    obtain ⟨x', u1, u2, u3, rfl, hx, h1, h2, h3⟩ := At.t4 hat
    cases (show u1 = .int i from h1)
    have hi := (show 0 ≤ i ∧ i < (F.C : Int) from hok.1)
    have hkk := bools_sq (K := K) hk
    have e : (Rule.choo i x y).val S = if S.tk.getD i.toNat false = true then y.val S else x.val S := rfl
    walk_at "s"
    refine ⟨_, bools_sq (BoolsAt.same hk (by walk_at "sm")), ?_⟩
    refine ex_v (atI_getB hi.1 (by omega)) ?_
    walk_at "s"
    cases c : S.tk.getD i.toNat false with
    | true =>
      rw [e, if_pos c] at q
      walk_at "s"
      refine ⟨F, S, y, ok, h3.le (by walk_at "le"), hok.2.2, hS.same (by walk_at "sm"), fun H2 sm2 => ?_⟩
      exact q _ (by walk_at "sm")
    | false =>
      rw [e, c] at q
      walk_at "s"
      refine ⟨F, S, x, ok, h2.le (by walk_at "le"), hok.2.1, hS.same (by walk_at "sm"), fun H2 sm2 => ?_⟩
      exact q _ (by walk_at "sm")
theorem ok_law_value (M : Mg mg) (G__law_at : Has P w K mg base "_law_at" ["_law_table_here", "_law_number_here"] 1 (sp2 sp_law_at)) (D : DefAt K mg "_law_value" s__law_value ["_law_rule_here", "_law_sight"]) :
    ∀ n : Nat, Has P w K mg base "_law_value" ["_law_rule_here", "_law_sight"] (n + 1) (sp2 (sp_lval n))
  | 0 => Has.none_left D fun vs H Q E h => by
    obtain ⟨_, _, _, F, S, r, _, _, h, _⟩ := h
    exact h
  | n + 1 => ok_lval_step M G__law_at (ok_law_value M G__law_at D n) D
end
end Fl

-- after: k09b.tpl lv.tpl
namespace Fl
open PySem PySem.Spec PyProof.Rows L2 RZ
/-! ### any order in which each line stands behind those that it names tells the same year -/
def Frm.fo (F : Frm) (S : Sgt) (o : List Int) (j : Nat) : List Int := (o.take j).foldl (F.put S) (List.replicate F.rs.length 0)
theorem Frm.fo_succ {F : Frm} {S : Sgt} {o : List Int} {j : Nat} {k : Int} (h : o[j]? = some k) : F.fo S o (j + 1) = F.put S (F.fo S o j) k := by
  unfold Frm.fo
  rw [List.take_add_one, h, List.foldl_append]
  rfl
theorem Frm.fo_len {F : Frm} {S : Sgt} {o : List Int} : ∀ j, (F.fo S o j).length = F.rs.length := by
  intro j
  unfold Frm.fo
  have : ∀ (ks : List Int) (ls : List Int), (ks.foldl (F.put S) ls).length = ls.length := by
    intro ks
    induction ks with
    | nil => intro ls; rfl
    | cons k r ih =>
      intro ls
      rw [List.foldl_cons, ih]
      unfold Frm.put
      rw [List.length_set]
  rw [this, List.length_replicate]
theorem Frm.fo_keep {F : Frm} {S : Sgt} {o : List Int} {n : Nat} (ok : OrdOk F.adj F.rs.length n o) {j : Nat} {k : Int} (hk : k ∈ o.take j) : ∀ i, j ≤ i → (F.fo S o i).getD k.toNat 0 = (F.fo S o j).getD k.toNat 0 := by
  intro i hi
  induction hi with
  | refl => rfl
  | @step i hi ih =>
    have hi : j ≤ i := hi
    rcases Nat.lt_or_ge i o.length with c | c
    · obtain ⟨x, ex⟩ : ∃ x, o[i]? = some x := ⟨_, List.getElem?_eq_getElem c⟩
      rw [Frm.fo_succ ex]
      unfold Frm.put
      have h1 := ok.rng k (List.mem_of_mem_take hk)
      have h2 := ok.rng x (List.mem_of_getElem? ex)
      have ne : x ≠ k := fun e => by
        subst e
        obtain ⟨q, hq, eq⟩ := List.getElem_of_mem hk
        rw [List.length_take] at hq
        rw [List.getElem_take] at eq
        have h5 := (List.getElem?_eq_some_iff.mp ex).2
        exact List.pairwise_iff_getElem.mp ok.nd q i (by omega) c (by omega) (eq.trans h5.symm)
      rw [getD_set_ne (by omega)]
      exact ih
    · have e : F.fo S o (i + 1) = F.fo S o i := by
        unfold Frm.fo
        rw [List.take_of_length_le (show o.length ≤ i + 1 by omega), List.take_of_length_le c]
      rw [e]
      exact ih
def Fixed (F : Frm) (S : Sgt) (ls : List Int) : Prop := ls.length = F.rs.length ∧ ∀ (i : Nat) r, F.rs[i]? = some r → ls.getD i 0 = r.val { S with lines := ls }
theorem Frm.fo_fix {F : Frm} {m : Nat} (ok : F.Ok m) {S : Sgt} {ord : List Int} (o : OrdOk F.adj F.rs.length F.rs.length ord) : Fixed F S (F.fo S ord F.rs.length) := by
  refine ⟨Frm.fo_len _, fun i r e => ?_⟩
  have il := (List.getElem?_eq_some_iff.mp e).1
  have hm : (i : Int) ∈ ord := (o.perm i).mpr ⟨by omega, by omega⟩
  obtain ⟨j, hj, ej⟩ := List.getElem_of_mem hm
  have ej' : ord[j]? = some (i : Int) := by rw [List.getElem?_eq_getElem hj, ej]
  have hjn : j < F.rs.length := by rw [← o.len]; exact hj
  have e1 : (F.fo S ord (j + 1)).getD i 0 = r.val { S with lines := F.fo S ord j } := by
    rw [Frm.fo_succ ej']
    unfold Frm.put
    rw [Int.toNat_natCast, getD_set_self (by rw [Frm.fo_len]; exact il)]
    have : F.rule i = r := by
      unfold Frm.rule
      rw [Int.toNat_natCast, List.getD_eq_getElem?_getD, e]
      rfl
    rw [this]
  have mem : (i : Int) ∈ ord.take (j + 1) := by
    rw [List.take_add_one, ej']
    simp
  have e2 := Frm.fo_keep o (S := S) mem F.rs.length (by omega)
  rw [Int.toNat_natCast] at e2
  rw [e2, e1]
  refine Rule.val_congr (S := { S with lines := F.fo S ord j }) (S' := { S with lines := F.fo S ord F.rs.length }) rfl (fun k hk => ?_) (fun _ _ => rfl) (fun _ _ => rfl) (fun _ _ => rfl)
  have h1 := Frm.adj_lines ok e hk
  have h2 := o.ord j i ej' k h1
  exact (Frm.fo_keep o (S := S) h2 F.rs.length (by omega)).symm
theorem Fixed.uniq {F : Frm} {m : Nat} (ok : F.Ok m) {S : Sgt} {a b : List Int} (ha : Fixed F S a) (hb : Fixed F S b) : a = b := by
  obtain ⟨rk, hk⟩ := ok.acy
  have main : ∀ n (i : Nat), i < F.rs.length → rk i < n → a.getD i 0 = b.getD i 0 := by
    intro n
    induction n with
    | zero => intro i _ h; omega
    | succ n ih =>
      intro i il h
      have e : F.rs[i]? = some (F.rs[i]'il) := List.getElem?_eq_getElem il
      rw [ha.2 i _ e, hb.2 i _ e]
      refine Rule.val_congr (S := { S with lines := a }) (S' := { S with lines := b }) rfl (fun k hkk => ?_) (fun _ _ => rfl) (fun _ _ => rfl) (fun _ _ => rfl)
      have g := ok.good _ (List.getElem_mem il)
      have rg := mem_rangeI.mp (Rule.ok_lines g k hkk)
      have lt := hk i _ k e hkk
      obtain ⟨kn, rfl⟩ : ∃ kn : Nat, k = kn := ⟨k.toNat, by omega⟩
      rw [Int.toNat_natCast]
      exact ih kn (by have : (kn : Int) < F.rs.length := rg.2; omega) (by omega)
  refine List.ext_getElem (ha.1.trans hb.1.symm) fun i h1 h2 => ?_
  have := main (rk i + 1) i (by rw [← ha.1]; exact h1) (Nat.lt_succ_self _)
  rw [List.getD_eq_getElem?_getD, List.getD_eq_getElem?_getD, List.getElem?_eq_getElem h1, List.getElem?_eq_getElem h2] at this
  exact this
theorem Frm.fo_year {F : Frm} {m : Nat} (ok : F.Ok m) {S : Sgt} {ord : List Int} (o : OrdOk F.adj F.rs.length F.rs.length ord) : F.fo S ord F.rs.length = F.year S :=
  Fixed.uniq ok (Frm.fo_fix ok o) ⟨F.year_len, fun _ _ e => Frm.year_fix ok e⟩
theorem OrdOk.put {adj : Int → List Int} {n i : Nat} {f : List Int} {k : Int} (h : OrdOk adj n i f) (hk : 0 ≤ k ∧ k < n) (no : k ∉ f) (ha : ∀ y ∈ adj k, y ∈ f) : OrdOk adj n (i + 1) (f ++ [k]) := by
  refine ⟨by rw [List.length_append, h.len]; rfl, List.nodup_append.mpr ⟨h.nd, by simp, fun x hx y hy => by rw [List.mem_singleton.mp hy]; rintro rfl; exact no hx⟩, fun x hx => ?_, fun j x ex y hy => ?_⟩
  · rcases List.mem_append.mp hx with z | z
    · exact h.rng x z
    · rw [List.mem_singleton.mp z]; exact hk
  · rcases get_snoc ex with z | ⟨z1, z2⟩
    · have jl := (List.getElem?_eq_some_iff.mp z).1
      rw [List.take_append_of_le_length (by omega)]
      exact h.ord j x z y hy
    · subst z2
      rw [z1, List.take_append_of_le_length (by omega), List.take_length]
      exact ha y hy
section
variable {P : Program} {w : World} {K : PySem.W.Frag} {mg : Str → Option Value} {base : Heap}
abbrev s__law_row : Stmt := topS 71
theorem sc__law_row : FnScope ["_law_lines", "_law_row_here", "_law_line", "_law_waits", "_law_one"] ["_law_lines"] (defScope s__law_row) := ⟨rfl, rfl, rfl, by decide +kernel, rfl, by decide +kernel, by decide +kernel⟩
def sp_row : Sp1 := fun a H Q _ => ∃ (F : Frm) (L : Addr) (vs : List V), F.Ok 40 ∧ a = .ref L ∧ SqK H L vs ∧ AtAll H (F.rs.map Rule.d) vs ∧ ∀ p H' o, Same H H' → H p = none → H' p = some (.lst (o.map V.int)) → OrdOk F.adj F.rs.length F.rs.length o → Q (.ref p) H'
theorem ok_law_row (M : Mg mg) (G__law_named : Has P w K mg base "_law_named" ["_law_rule_here", "_law_word"] 9 (sp2 (sp_law_named 8))) (D : DefAt K mg "_law_row" s__law_row ["_law_lines"]) : Has P w K mg base "_law_row" ["_law_lines"] 10 (sp1 sp_row) := by
  refine .mk1 D sc__law_row fun fa cdv A outer s0 H a Q E hr h => ⟨_, (pss_cons (ps_set (i := 1) sc__law_row.nd rfl (by first | exact Or.inl rfl | exact Or.inr rfl) (pe_lst pa_nil))
    (pss_cons (ps_while own_p (pt_cmpR o_lt (pe_callB (k_len K rfl) (by rfl) M.len (by decide +kernel) (pa_cons (pv 1) pa_nil)) (pe_callB (k_len K rfl) (by rfl) M.len (by decide +kernel) (pa_cons (pv 0) pa_nil)) (nomark _)) (pss_one (ps_for own_p (by rfl) (pi_range1 (by rfl) M.range (pa_cons (pe_callB (k_len K rfl) (by rfl) M.len (by decide +kernel) (pa_cons (pv 0) pa_nil)) pa_nil)) (pg_name (i := 2) sc__law_row.nd rfl (by first | exact Or.inl rfl | exact Or.inr rfl)) (pss_cons (ps_setLc (i := 3) (own := [("_law_one", 4)]) (g := gName 4) (by rfl) sc__law_row.nd rfl rfl (sw_true rfl rfl rfl (by decide +kernel)) (k_pi K rfl (pe_own G__law_named (hr.mono (by first | decide | omega)) (by rfl) p_body (pa_cons (pe_ix (k_ix K rfl) (pv 0) (pv 2) (fun _ _ => rfl)) (pa_cons pe_str pa_nil)))) (blkOk_by (N := ["_law_lines", "_law_row_here", "_law_line", "_law_waits", "_law_one"]) (sc := (defScope s__law_row)) (own := [("_law_one", 4)]) (by decide +kernel)) (fun _ _ _ _ _ => (pg_name (i := 4) sc__law_row.nd rfl (by first | exact Or.inl rfl | exact Or.inr rfl))) (fun _ _ _ _ _ => (pts_one (pt_cmpR (k_notin K rfl hr) (pv 4) (pv 1) (by rfl)))) (fun _ _ _ _ _ => (pv 4)))
    (pss_one (ps_if (PW.pt (pw_and (pt_cmpR (k_notin K rfl hr) (pv 2) (pv 1) (by rfl)) (pw_and1 (pt_cmpR (k_eqE K rfl hr) (pv 3) (pe_lst pa_nil) (nomark _))))) (pss_one (ps_expr (k_bm K rfl PySem.F.plainAttrs_list PySem.F.slot_list_append PySem.F.type_list_append mt_append (pv 1) (pa_cons (pv 2) pa_nil)))) pss_nil))))))
    (pss_one (ps_ret (pv 1))))), ?_⟩
  obtain ⟨F, L, vs, ok, rfl, hL, hvs, q⟩ := h
  have lvs := hvs.length
  rw [List.length_map] at lvs
  have n1 := ok.n1
  have n2 := ok.n2
  have hadj := ok.adj
  refine Fl.go_start (σ0 := [some _, none, none, none, none]) rfl ?_
  walk_at "s"
  rename_i p0 hp0
  refine while_go (fun m σ' H' => ∃ (o : List Int) (y2 y3 : Option V), σ' = [some (.ref L), some (.ref p0), y2, y3, none] ∧ m = F.rs.length - o.length ∧ OrdOk F.adj F.rs.length o.length o ∧ o.length ≤ F.rs.length ∧ H' p0 = some (.lst (o.map V.int)) ∧ Same H H') F.rs.length
    ⟨[], none, none, rfl, by simp, ⟨rfl, by simp, by simp, by simp⟩, by simp, upd_same, by walk_at "sm"⟩ ?_
  rintro m σ' H1 ⟨o, y2, y3, rfl, rfl, oi, hi, hp1, sm⟩
  have hL1 := hL.same sm
  have hL1' : IsSq K H1 L vs := hL1.elim sq_l sq_t
  walk_at "s"
  rw [List.length_map, lvs]
  refine if_d (fun c => ?_) (fun c => ?_)
  · refine while_turn ?_
    obtain ⟨k0, ek⟩ := oi.next hadj ok.acy.adj (by omega)
    obtain ⟨w0, w1, w2, w3⟩ : ∃ w : Nat, w < F.rs.length ∧ (w : Int) ∉ o ∧ ∀ y ∈ F.adj w, y ∈ o := by
      unfold ordNext at ek
      have hm := mem_rangeI.mp (List.mem_of_find?_eq_some ek)
      have ht := List.find?_some ek
      unfold ordT at ht
      rw [Bool.and_eq_true] at ht
      obtain ⟨kn, rfl⟩ : ∃ kn : Nat, k0 = kn := ⟨k0.toNat, by omega⟩
      exact ⟨kn, by omega, by simpa using ht.1, fun y hy => by simpa using List.all_eq_true.mp ht.2 y hy⟩
    walk_at "s"
    rw [Int.toNat_natCast]
    refine for_rng (fun j σ' H' => ∃ (o' : List Int) (y2 y3 : Option V), σ' = [some (.ref L), some (.ref p0), y2, y3, none] ∧ OrdOk F.adj F.rs.length o'.length o' ∧ o'.length ≤ F.rs.length ∧ H' p0 = some (.lst (o'.map V.int)) ∧ Same H H' ∧ (o.length < o'.length ∨ o' = o ∧ j ≤ w0)) ⟨o, _, _, rfl, oi, hi, hp1, sm, .inr ⟨rfl, Nat.zero_le _⟩⟩ ?_ ?_
    · rintro j σ' H2 hj ⟨o', y2, y3, rfl, oi', hi', hp2, sm2, hw⟩
      rw [Int.zero_add]
      have hL2 := hL.same sm2
      have hL2' : IsSq K H2 L vs := hL2.elim sq_l sq_t
      have jl : j < F.rs.length := by omega
      obtain ⟨r, er⟩ : ∃ r, F.rs[j]? = some r := ⟨F.rs[j], List.getElem?_eq_getElem jl⟩
      obtain ⟨v0, ev0, hv0⟩ := hvs.get (i := j) (d := r.d) (by rw [List.getElem?_map, er]; rfl)
      have eadj : F.adj j = nameI "line" F.rs.length r := adjR_at er
      walk_at "s"
      refine ex_v (atI_nat ev0) ?_
      walk_at "s"
      refine named_use (ok.goodR r (List.mem_of_getElem? er)) (hv0.le (Same.le sm2)) (.inl rfl) (n := F.rs.length) (by rw [wordN, if_neg (by decide +kernel)]; rfl) fun nl H4 sm4 hnl enl => ?_
      rw [← eadj] at enl
      have lns : (F.adj j).length ≤ 40 := Nat.le_trans (range_len (pw_nodup (hadj.srt _)) (hadj.rng _)) n2
      have hp4 := sm4 _ _ hp2
      walk_at "s"
      refine lc_filtL (selF fun y => decide (y ∉ o')) enl (by simp; omega) (fun _ => rfl) (fun x H' hx sm5 R hR => ?_) (fun x y H' hx ey sm5 R hR => ?_) (fun D H5 hD sm5 eD => ?_)
      · obtain ⟨y, _, rfl⟩ := List.mem_map.mp hx
        rw [selF_is] at hR
        walk_at "s"
        refine notin_i (sm5 _ _ hp4) ?_
        rw [show (!decide (y ∈ o')) = decide (y ∉ o') by simp]
        walk_at "s"
        exact hR _ (.refl _)
      · obtain ⟨z, _, rfl⟩ := List.mem_map.mp hx
        obtain ⟨rfl, _⟩ := selF_eq ey
        walk_at "s"
        exact hR _ (.refl _)
      rw [selF_map] at eD
      have hp5 := sm5 _ _ hp4
      have sm25 := L2.Same.trans sm2 (L2.Same.trans sm4 sm5)
      walk_at "s"
      refine notin_i hp5 ?_
      by_cases c1 : (j : Int) ∈ o'
      · rw [decide_eq_true c1]
        walk_at "s"
        refine ⟨o', _, _, rfl, oi', hi', hp5, sm25, hw.imp id fun ⟨e, h⟩ => ⟨e, ?_⟩⟩
        subst e
        have : j ≠ w0 := fun e => w2 (e ▸ c1)
        omega
      rw [decide_eq_false c1]
      walk_at "s"
      rename_i pe hpe
      have smE : Same H5 (upd H5 pe (.lst [])) := Same.new (.refl _) hpe
      have hpE := smE _ _ hp5
      refine eq_eI (ns := (F.adj j).filter fun y => decide (y ∉ o')) upd_same (smE _ _ eD) ?_
      generalize upd H5 pe (.lst []) = H6 at *
      have sm26 := L2.Same.trans sm25 smE
      cases ew : ((F.adj j).filter fun y => decide (y ∉ o')).isEmpty with
      | true =>
        have inn : ∀ y ∈ F.adj j, y ∈ o' := fun y hy => Classical.byContradiction fun c => by
          have : y ∈ (F.adj j).filter fun y => decide (y ∉ o') := List.mem_filter.mpr ⟨hy, by simpa using c⟩
          rw [List.isEmpty_iff.mp ew] at this
          cases this
        have o2 := oi'.put (k := (j : Int)) ⟨by omega, by omega⟩ c1 inn
        have ll := range_len (n := F.rs.length) o2.nd o2.rng
        have l2 : (o' ++ [(j : Int)]).length = o'.length + 1 := by rw [List.length_append]; rfl
        walk_at "s"
        refine ⟨o' ++ [(j : Int)], _, _, rfl, by rw [l2]; exact o2, ll, by rw [upd_same, List.map_append]; rfl, Same.mut sm26 hp0, .inl ?_⟩
        rw [l2]
        rcases hw with h | ⟨h, _⟩
        · omega
        · rw [h]; exact Nat.lt_succ_self _
      | false =>
        walk_at "s"
        refine ⟨o', _, _, rfl, oi', hi', hpE, sm26, hw.imp id fun ⟨e, h⟩ => ⟨e, ?_⟩⟩
        subst e
        have : j ≠ w0 := fun e => by
          subst e
          have e0 : (F.adj j).filter (fun y => decide (y ∉ o')) = [] := List.filter_eq_nil_iff.mpr fun y hy => by simpa using w3 y hy
          rw [e0] at ew
          cases ew
        omega
    · rintro σ' H2 ⟨o', y2, y3, rfl, oi', hi', hp2, sm2, hw⟩
      walk_at "s"
      refine ⟨F.rs.length - o'.length, ?_, o', _, _, rfl, rfl, oi', hi', hp2, sm2⟩
      rcases hw with h | ⟨_, h⟩ <;> omega
  · walk_at "s"
    have e : o.length = F.rs.length := by omega
    rw [e] at oi
    exact q p0 H1 o sm hp0 hp1 oi
end
end Fl

-- after: k09d.tpl zlt2.tpl
namespace Fl
open PySem PySem.Spec PyProof.Rows L2 RZ
/-! ### the law's own sums -/
def bitsL : Nat → Nat → List Bool
  | 0, _ => []
  | k + 1, v => decide (v / 2 ^ k % 2 = 1) :: bitsL k v
theorem bitsL_len : ∀ k v, (bitsL k v).length = k
  | 0, _ => rfl
  | k + 1, v => by rw [bitsL, List.length_cons, bitsL_len k v]
theorem bitsL_low : ∀ k v, bitsL (k + 1) v = bitsL k (v / 2) ++ [decide (v % 2 = 1)]
  | 0, v => by simp [bitsL]
  | k + 1, v => by
    rw [bitsL, bitsL_low k v, bitsL, Nat.div_div_eq_div_mul, ← Nat.pow_succ']
    rfl
theorem flat2 {α : Type} (f g : List α → List α) : ∀ (rs : List (List α)) (v : Nat), (rs.flatMap fun r => [f r, g r])[v]? = (rs[v / 2]?).map fun r => if v % 2 = 1 then g r else f r
  | [], v => by simp
  | r :: rs, 0 => by simp
  | r :: rs, 1 => by simp
  | r :: rs, v + 2 => by
    rw [List.flatMap_cons]
    show ((rs.flatMap fun r => [f r, g r]))[v]? = _
    rw [flat2 f g rs v, show (v + 2) / 2 = v / 2 + 1 by omega, List.getElem?_cons_succ, show (v + 2) % 2 = v % 2 by omega]
theorem binR_get : ∀ {m v : Nat}, v < 2 ^ m → (binR m)[v]? = some (bitsL m v)
  | 0, v, h => by
    have : v = 0 := by
      rw [Nat.pow_zero] at h
      omega
    subst this
    rfl
  | m + 1, v, h => by
    rw [Nat.pow_succ] at h
    rw [binR, flat2 (fun r => r ++ [false]) (fun r => r ++ [true]), binR_get (m := m) (v := v / 2) (by omega), bitsL_low]
    show some _ = some _
    congr 1
    by_cases c : v % 2 = 1
    · simp [c]
    · simp [c]
theorem Frm.ents_get {F : Frm} {pss : List (List (Str × Int))} {n v : Nat} (h : v < 2 ^ (F.C * n)) : (F.ents pss n)[v]? = some (F.ent pss n (bitsL (F.C * n) v)) := by
  unfold Frm.ents
  rw [List.getElem?_map, binR_get h]
  rfl
theorem Frm.tot_succ {F : Frm} {pss : List (List (Str × Int))} {tks : List (List Bool)} {n : Nat} : F.tot pss tks (n + 1) = F.tot pss tks n + (F.hy pss tks (n + 1)).getD F.owed 0 := by
  unfold Frm.tot
  rw [List.range_succ, List.map_append, List.sum_append]
  simp
section
variable {P : Program} {w : World} {K : PySem.W.Frag} {mg : Str → Option Value} {base : Heap}
abbrev s__law_reckoned : Stmt := topS 70
theorem sc__law_reckoned : FnScope ["_law_form_here", "_law_row_here", "_law_pairs", "_law_earlier", "_law_taken_here", "_law_lines", "_law_sight", "_law_line"] ["_law_form_here", "_law_row_here", "_law_pairs", "_law_earlier", "_law_taken_here"] (defScope s__law_reckoned) := ⟨rfl, rfl, rfl, by decide +kernel, rfl, by decide +kernel, by decide +kernel⟩
def sp_lreck : Sp5 := fun a b c d e H Q _ => ∃ (F : Frm) (ro l e0 k : Addr) (o : List Int) (vs : List V) (ps : List (Str × Int)) (earl : List Int) (tk : List Bool), F.Ok 40 ∧ At H F.d a ∧ b = .ref ro ∧ H ro = some (.lst (o.map V.int)) ∧ OrdOk F.adj F.rs.length F.rs.length o ∧ c = .ref l ∧ H l = some (.lst vs) ∧ AtAll H (ps.map prD) vs ∧ PapOk ps ∧
  d = .ref e0 ∧ H e0 = some (.lst (earl.map V.int)) ∧ (earl = [] ∨ earl.length = F.rs.length) ∧ e = .ref k ∧ BoolsAt H k tk ∧ tk.length = F.C ∧ ∀ p H', Same H H' → H p = none → H' p = some (.lst ((F.yr ps earl tk).map V.int)) → Q (.ref p) H'
theorem ok_law_reckoned (M : Mg mg) (G__law_value : Has P w K mg base "_law_value" ["_law_rule_here", "_law_sight"] 9 (sp2 (sp_lval 8))) (D : DefAt K mg "_law_reckoned" s__law_reckoned ["_law_form_here", "_law_row_here", "_law_pairs", "_law_earlier", "_law_taken_here"]) : Has P w K mg base "_law_reckoned" ["_law_form_here", "_law_row_here", "_law_pairs", "_law_earlier", "_law_taken_here"] 10 (sp5 sp_lreck) := by
  refine .mk5 D sc__law_reckoned fun fa cdv A outer s0 H a b c d e Q E hr h => ⟨_, (pss_cons (ps_set (i := 5) sc__law_reckoned.nd rfl (by first | exact Or.inl rfl | exact Or.inr rfl) (pe_op o_mul (pe_lst (pa_cons pe_int pa_nil)) (pe_callB (k_len K rfl) (by rfl) M.len (by decide +kernel) (pa_cons (pv 1) pa_nil))))
    (pss_cons (ps_set (i := 6) sc__law_reckoned.nd rfl (by first | exact Or.inl rfl | exact Or.inr rfl) (pe_tup (pa_cons (pv 5) (pa_cons (pv 2) (pa_cons (pv 3) (pa_cons (pe_ix (k_ix K rfl) (pv 0) pe_int (fun _ _ => rfl)) (pa_cons (pv 4) pa_nil)))))))
    (pss_cons (ps_for own_p (by rfl) (k_pi K rfl (pv 1)) (pg_name (i := 7) sc__law_reckoned.nd rfl (by first | exact Or.inl rfl | exact Or.inr rfl)) (pss_one (ps_asg (pe_own G__law_value (hr.mono (by first | decide | omega)) (by rfl) p_body (pa_cons (pe_ix (k_ix K rfl) (pe_ix (k_ix K rfl) (pv 0) pe_int (fun _ _ => rfl)) (pv 7) (fun _ _ => rfl)) (pa_cons (pv 6) pa_nil))) (pg_sub (pv 5) (pv 7) set_list))))
    (pss_one (ps_ret (pv 5)))))), ?_⟩
  obtain ⟨F, ro, l, e0, k, o, vs, ps, earl, tk, ok, hat, rfl, hro, oo, rfl, hl, hvs, pok, rfl, he, le, rfl, hk, lk, q⟩ := h
  obtain ⟨f, L, T, fs, ts, rfl, hf, hL, hfs, hT, hts⟩ := Frm.at hat
  have lfs := hfs.length
  rw [List.length_map] at lfs
  have n2 := ok.n2
  have lo := oo.len
  refine Fl.go_start (σ0 := [some _, some _, some _, some _, some _, none, none, none]) rfl ?_
  walk_at "s"
  rename_i p1 hp1
  rw [List.length_map, lo, Int.toNat_natCast]
  refine ⟨⟨by omega, by omega, small_of (by rw [List.length_singleton]; omega)⟩, ?_⟩
  refine in_new fun p hp => ?_
  rw [rep_flat]
  walk_at "s"
  rename_i s hs
  have sm2 : Same H (upd (upd (upd H p1 (.lst [.int 0])) p (.lst (List.replicate F.rs.length (.int 0)))) s (.tup [.ref p, .ref l, .ref e0, .ref T, .ref k])) := by walk_at "sm"
  have fp : H p = none := by
    have h1 : Same H (upd H p1 (.lst [V.int 0])) := by walk_at "sm"
    exact L2.Same.free h1 hp
  have p3 : (upd (upd (upd H p1 (.lst [.int 0])) p (.lst (List.replicate F.rs.length (.int 0)))) s (.tup [.ref p, .ref l, .ref e0, .ref T, .ref k])) p = some (.lst (List.replicate F.rs.length (.int 0))) := by walk_at "hp"
  have s3 : (upd (upd (upd H p1 (.lst [.int 0])) p (.lst (List.replicate F.rs.length (.int 0)))) s (.tup [.ref p, .ref l, .ref e0, .ref T, .ref k])) s = some (.tup [.ref p, .ref l, .ref e0, .ref T, .ref k]) := upd_same
  generalize (upd (upd (upd H p1 (.lst [.int 0])) p (.lst (List.replicate F.rs.length (.int 0)))) s (.tup [.ref p, .ref l, .ref e0, .ref T, .ref k])) = H3 at *
  clear hs hp hp1
  have nop : ro ≠ p := fun e => by rw [e, fp] at hro; cases hro
  have nsp : s ≠ p := fun e => by rw [e, p3] at s3; cases s3
  have nlp : l ≠ p := fun e => by rw [e, fp] at hl; cases hl
  have nep : e0 ≠ p := fun e => by rw [e, fp] at he; cases he
  have nkp : k ≠ p := fun e => by rcases hk with h | h <;> (rw [e, fp] at h; cases h)
  have nTp : T ≠ p := fun e => by rw [e, fp] at hT; cases hT
  have nLp : L ≠ p := fun e => by rw [e, fp] at hL; cases hL
  have nfp : f ≠ p := fun e => by rw [e, fp] at hf; cases hf
  have ho := sm2 _ _ hro
  have hl4 := sm2 _ _ hl
  have hv4 := hvs.le (Same.le sm2)
  have he4 := sm2 _ _ he
  have hk4 := hk.same sm2
  have hT4 := sm2 _ _ hT
  have hL4 := sm2 _ _ hL
  have hf4 := sm2 _ _ hf
  have hts4 := hts.le (Same.le sm2)
  have hfs4 := hfs.le (Same.le sm2)
  refine for_lst (fun i σ' H' => ∃ y7 : Option V, σ' = [some (.ref f), some (.ref ro), some (.ref l), some (.ref e0), some (.ref k), some (.ref p), some (.ref s), y7] ∧ H' p = some (.lst ((F.fo ⟨[], papF ps, earl, F.tbs, tk⟩ o i).map V.int)) ∧ LeT H3 H' ∧ (∀ b u, b ≠ p → H3 b = some u → H' b = some u))
    ho ⟨none, rfl, ?_, .refl _, fun b u _ h => h⟩ (fun i σ' H' _ ⟨_, _, _, _, kp⟩ => kp _ _ nop ho) ?_ ?_
  · rw [p3]
    unfold Frm.fo
    simp
  · rintro i x σ' H4 ex ⟨y7, rfl, hp4, lt4, kp⟩
    obtain ⟨q1, eq1, rfl⟩ := map_int_get ex
    have il := (List.getElem?_eq_some_iff.mp eq1).1
    rw [oo.len] at il
    have rq := oo.rng q1 (List.mem_of_getElem? eq1)
    have hf5 := kp _ _ nfp hf4
    have hL5 := kp _ _ nLp hL4
    obtain ⟨qn, rfl⟩ : ∃ qn : Nat, q1 = qn := ⟨q1.toNat, by omega⟩
    have hqn : qn < F.rs.length := by omega
    obtain ⟨v0, ev0, hv0⟩ := hfs4.get (i := qn) (d := (F.rs[qn]'hqn).d) (by rw [List.getElem?_map, List.getElem?_eq_getElem hqn]; rfl)
    walk_at "s"
    refine ex_v (atI_nat ev0) ?_
    walk_at "s"
    have hv5 : At H4 (F.rs[qn]'hqn).d v0 := hv0.leT lt4 (Rule.tupO _)
    refine ⟨F, ⟨F.fo ⟨[], papF ps, earl, F.tbs, tk⟩ o i, papF ps, earl, F.tbs, tk⟩, F.rs[qn]'hqn, ok, hv5, ok.good _ (List.getElem_mem hqn), ⟨⟨s, p, l, e0, T, k, vs, ps, ts, rfl, kp _ _ nsp s3, hp4, ⟨kp _ _ nlp hl4, hv4.leT lt4 (prs_tupO ps), pok, rfl⟩, kp _ _ nep he4, ⟨kp _ _ nTp hT4, hts4.leT lt4 (tbs_tupO _)⟩, hk4.imp (kp _ _ nkp) (kp _ _ nkp)⟩, rfl, F.fo_len i, le, lk⟩, fun H5 sm5 => ?_⟩
    have hp5 := sm5 _ _ hp4
    walk_at "s"
    refine ex_j (ixN_nat (by rw [List.length_map, F.fo_len]; omega)) ?_
    walk_at "s"
    refine ⟨_, rfl, ?_, LeT.put1 hp5 (lt4.trans (Same.le sm5).let), fun b u nb h => by rw [upd_ne nb]; exact sm5 _ _ (kp _ _ nb h)⟩
    rw [upd_same, Frm.fo_succ eq1]
    unfold Frm.put Frm.rule
    rw [List.map_set, Int.toNat_natCast, List.getD_eq_getElem?_getD, List.getElem?_eq_getElem hqn]
    rfl
  · rintro σ' H4 ⟨y7, rfl, hp4, lt4, kp⟩
    rw [List.length_map, oo.len, Frm.fo_year ok oo] at hp4
    walk_at "s"
    exact q p H4 (fun b u h => kp _ _ (fun e => by rw [e, fp] at h; cases h) (sm2 _ _ h)) fp hp4
abbrev s__law_choices : Stmt := topS 73
theorem sc__law_choices : FnScope ["_law_number_here", "_law_choices_here", "_law_count", "_law_truths", "_law_k"] ["_law_number_here", "_law_choices_here", "_law_count"] (defScope s__law_choices) := ⟨rfl, rfl, rfl, by decide +kernel, rfl, by decide +kernel, by decide +kernel⟩
def sp_lchoi : Sp3 := fun a b c H Q _ => ∃ v C n : Nat, a = .int v ∧ b = .int C ∧ c = .int n ∧ C ≤ 8 ∧ n ≤ 20 ∧ C * n ≤ 8 ∧ ∀ p H' vs, Same H H' → H' p = some (.tup vs) → rowsT H' (byY C n (bitsL (C * n) v)) vs → Q (.ref p) H'
theorem ok_law_choices (M : Mg mg) (D : DefAt K mg "_law_choices" s__law_choices ["_law_number_here", "_law_choices_here", "_law_count"]) : Has P w K mg base "_law_choices" ["_law_number_here", "_law_choices_here", "_law_count"] 1 (sp3 sp_lchoi) := by
  refine .mk3 D sc__law_choices fun fa cdv A outer s0 H a b c Q E hr h => ⟨_, (pss_cons (ps_set (i := 3) sc__law_choices.nd rfl (by first | exact Or.inl rfl | exact Or.inr rfl) (pe_lst pa_nil))
    (pss_cons (ps_for own_p (by rfl) (pi_range1 (by rfl) M.range (pa_cons (pe_op o_mul (pv 1) (pv 2)) pa_nil)) (pg_name (i := 4) sc__law_choices.nd rfl (by first | exact Or.inl rfl | exact Or.inr rfl)) (pss_cons (ps_set (i := 3) sc__law_choices.nd rfl (by first | exact Or.inl rfl | exact Or.inr rfl) (pe_op (k_add K rfl) (pe_lst (pa_cons (pe_cmpR (k_eq K rfl hr) (pe_op o_mod (pv 0) pe_int) pe_int (nomark _)) pa_nil)) (pv 3)))
    (pss_one (ps_set (i := 0) sc__law_choices.nd rfl (by first | exact Or.inl rfl | exact Or.inr rfl) (pe_op o_div (pv 0) pe_int)))))
    (pss_one (ps_ret (pe_callTy (k_tuple K rfl) (by rfl) M.tuple (by decide +kernel) (pa_cons (pe_lc (own := [("_law_k", 4)]) (g := gName 4) (by rfl) sc__law_choices.nd (pi_range1 (by rfl) M.range (pa_cons (pv 2) pa_nil)) (blkOk_by (N := ["_law_number_here", "_law_choices_here", "_law_count", "_law_truths", "_law_k"]) (sc := (defScope s__law_choices)) (own := [("_law_k", 4)]) (by decide +kernel)) (fun _ _ _ _ _ => (pg_name (i := 4) sc__law_choices.nd rfl (by first | exact Or.inl rfl | exact Or.inr rfl))) (fun _ _ _ _ _ => pts_nil) (fun _ _ _ _ _ => (pe_callTy (k_tuple K rfl) (by rfl) M.tuple (by decide +kernel) (pa_cons (pe_slice (k_sl K rfl) (pv 3) (po_some (pe_op o_mul (pv 4) (pv 1))) (po_some (pe_op (k_add K rfl) (pe_op o_mul (pv 4) (pv 1)) (pv 1)))) pa_nil)))) pa_nil)))))), ?_⟩
  obtain ⟨v, C, n, rfl, rfl, rfl, C8, n20, l8, q⟩ := h
  refine Fl.go_start (σ0 := [some _, some _, some _, none, none]) rfl ?_
  walk_at "s"
  rename_i p0 hp0
  rw [show ((C : Int) * n).toNat = C * n by rw [← Int.natCast_mul, Int.toNat_natCast]]
  refine for_rng (fun i σ' H' => ∃ (tp : Addr) (y4 : Option V), σ' = [some (.int ((v / 2 ^ i : Nat) : Int)), some (.int C), some (.int n), some (.ref tp), y4] ∧ H' tp = some (.lst ((bitsL i v).map V.bl)) ∧ Same H H') ⟨p0, none, by rw [Nat.pow_zero, Nat.div_one]; rfl, upd_same, Same.new (.refl _) hp0⟩ ?_ ?_
  · rintro i σ' H1 hi ⟨tp, y4, rfl, htp, sm⟩
    have lb := bitsL_len i v
    walk_at "s"
    rename_i z1 hz1 z2 hz2
    refine ⟨z2, _, by rw [show ((v / 2 ^ i : Nat) : Int) / 2 = ((v / 2 ^ (i + 1) : Nat) : Int) by rw [Nat.pow_succ, ← Nat.div_div_eq_div_mul]; rfl]; rfl, ?_, by walk_at "sm"⟩
    rw [upd_same, bitsL, show decide ((((v / 2 ^ i : Nat) : Int)) % 2 = 1) = decide (v / 2 ^ i % 2 = 1) from decide_eq_decide.mpr (by omega)]
    rfl
  · rintro σ' H1 ⟨tp, y4, rfl, htp, sm⟩
    walk_at "s"
    rw [Int.toNat_natCast]
    refine lc_rng (fun D i H' => ∃ acc, H' D = some (.lst acc) ∧ rowsT H' ((List.range i).map fun k => ((bitsL (C * n) v).drop (k * C)).take C) acc ∧ Same H1 H') (fun D hD => ⟨[], upd_same, rowsT.nil, by walk_at "sm"⟩) (fun D i H' hD hi ⟨acc, hacc, hrow, sm1⟩ => ?_) (fun D H2 hD ⟨acc, hacc, hrow, sm1⟩ => ?_)
    · have htp' := sm1 _ _ htp
      have la := hrow.1
      rw [List.length_map, List.length_range] at la
      refine ⟨rfl, ?_⟩
      refine Step.h (n := if true = true then _ else _) ?_
      rw [if_pos rfl]
      walk_at "s"
      rename_i t1 ht1 t2 H2 sm2 ht2
      rw [show ((0 : Int) + i) * C = ((i * C : Nat) : Int) by rw [Int.zero_add, Int.natCast_mul], cutB] at ht2
      have sm3 : Same H' H2 := by walk_at "sm"
      have hacc2 := sm3 _ _ hacc
      have kD : ∀ b u, b ≠ D → H2 b = some u → (upd H2 D (.lst (acc ++ [.ref t2]))) b = some u := fun b u nb h => by rw [upd_ne nb]; exact h
      have lt : LeT H2 (upd H2 D (.lst (acc ++ [.ref t2]))) := leT_keep kD hacc2
      refine ⟨?_, fun b u h => kD _ _ (fun e => by rw [e, hD] at h; cases h) (sm3 _ _ (sm1 _ _ h))⟩
      rw [List.range_succ, List.map_append]
      exact (((hrow.le fun b ys h => sm3 _ _ h).le lt)).snoc (lt _ _ ht2)
    · walk_at "s"
      rename_i t2 H3 sm3 ht2
      exact q t2 H3 acc (L2.Same.trans sm (L2.Same.trans sm1 sm3)) ht2 (hrow.le fun b ys h => sm3 _ _ h)
abbrev s__law_sum : Stmt := topS 72
theorem sc__law_sum : FnScope ["_law_form_here", "_law_row_here", "_law_years", "_law_taken_here", "_law_total", "_law_earlier", "_law_pairs", "_law_choices_here"] ["_law_form_here", "_law_row_here", "_law_years", "_law_taken_here"] (defScope s__law_sum) := ⟨rfl, rfl, rfl, by decide +kernel, rfl, by decide +kernel, by decide +kernel⟩
def sp_lsum : Sp4 := fun a b c d H Q _ => ∃ (F : Frm) (ro y k : Addr) (o : List Int) (yv kv : List V) (pss : List (List (Str × Int))) (tks : List (List Bool)), F.Ok 40 ∧ At H F.d a ∧ b = .ref ro ∧ H ro = some (.lst (o.map V.int)) ∧ OrdOk F.adj F.rs.length F.rs.length o ∧ c = .ref y ∧ H y = some (.lst yv) ∧ PapsAt H yv pss ∧
  d = .ref k ∧ SqK H k kv ∧ TksAt H kv tks F.C ∧ yv.length = kv.length ∧ yv.length ≤ 20 ∧ ∀ H', Same H H' → Q (.int (F.tot pss tks yv.length)) H'
theorem ok_law_sum (M : Mg mg) (G__law_reckoned : Has P w K mg base "_law_reckoned" ["_law_form_here", "_law_row_here", "_law_pairs", "_law_earlier", "_law_taken_here"] 10 (sp5 sp_lreck)) (D : DefAt K mg "_law_sum" s__law_sum ["_law_form_here", "_law_row_here", "_law_years", "_law_taken_here"]) : Has P w K mg base "_law_sum" ["_law_form_here", "_law_row_here", "_law_years", "_law_taken_here"] 11 (sp4 sp_lsum) := by
  refine .mk4 D sc__law_sum fun fa cdv A outer s0 H a b c d Q E hr h => ⟨_, (pss_cons (ps_set (i := 4) sc__law_sum.nd rfl (by first | exact Or.inl rfl | exact Or.inr rfl) pe_int)
    (pss_cons (ps_set (i := 5) sc__law_sum.nd rfl (by first | exact Or.inl rfl | exact Or.inr rfl) (pe_lst pa_nil))
    (pss_cons (ps_for own_p (by rfl) (k_zip3 K rfl (by rfl) M.zip (pa_cons (pv 2) (pa_cons (pv 3) pa_nil))) (pg_tup (by rfl) (pgs_cons (pg_name (i := 6) sc__law_sum.nd rfl (by first | exact Or.inl rfl | exact Or.inr rfl)) (pgs_cons (pg_name (i := 7) sc__law_sum.nd rfl (by first | exact Or.inl rfl | exact Or.inr rfl)) pgs_nil))) (pss_cons (ps_set (i := 5) sc__law_sum.nd rfl (by first | exact Or.inl rfl | exact Or.inr rfl) (pe_own G__law_reckoned (hr.mono (by first | decide | omega)) (by rfl) p_body (pa_cons (pv 0) (pa_cons (pv 1) (pa_cons (pv 6) (pa_cons (pv 5) (pa_cons (pv 7) pa_nil)))))))
    (pss_one (ps_set (i := 4) sc__law_sum.nd rfl (by first | exact Or.inl rfl | exact Or.inr rfl) (pe_op (k_add K rfl) (pv 4) (pe_ix (k_ix K rfl) (pv 5) (pe_ix (k_ix K rfl) (pv 0) pe_int (fun _ _ => rfl)) (fun _ _ => rfl)))))))
    (pss_one (ps_ret (pv 4)))))), ?_⟩
  obtain ⟨F, ro, y, k, o, yv, kv, pss, tks, ok, hat, rfl, hro, oo, rfl, hy, hps, rfl, hk, htk, len, l20, q⟩ := h
  have lps := hps.len
  have ltk := htk.len
  obtain ⟨f, L, T, fs, ts, rfl, hf, hL, hfs, hT, hts⟩ := Frm.at hat
  have ow := ok.ow
  refine Fl.go_start (σ0 := [some _, some _, some _, some _, none, none, none, none]) rfl ?_
  walk_at "s"
  rename_i e0 he0
  have nke : k ≠ e0 := fun e => by rcases hk with h | h <;> (rw [e, he0] at h; cases h)
  refine forz3 (fun i σ' H' => ∃ (e : Addr) (y6 y7 : Option V), σ' = [some (.ref f), some (.ref ro), some (.ref y), some (.ref k), some (.int (F.tot pss tks i)), some (.ref e), y6, y7] ∧ H' e = some (.lst ((F.hy pss tks i).map V.int)) ∧ Same H H')
    (by walk_at "hp") (hk.same (by walk_at "sm")) len ⟨e0, none, none, rfl, upd_same, by walk_at "sm"⟩ (fun i σ' H' ⟨_, _, _, _, _, sm⟩ => ⟨sm _ _ hy, fun o h => sm _ _ (by rwa [upd_ne nke] at h)⟩) ?_ ?_
  · rintro i x z T0 σ' H1 ex ez ⟨e, y6, y7, rfl, he, sm⟩ hT0
    have il := (List.getElem?_eq_some_iff.mp ex).1
    obtain ⟨ps, eps⟩ : ∃ ps, pss[i]? = some ps := ⟨_, List.getElem?_eq_getElem (by omega)⟩
    obtain ⟨tk, etk⟩ : ∃ tk, tks[i]? = some tk := ⟨_, List.getElem?_eq_getElem (by omega)⟩
    obtain ⟨l, vs, rfl, hl, hvs, pok⟩ := (hps.same sm).at_ i x ps ex eps
    obtain ⟨tl, rfl, htl, ltl⟩ := (htk.same sm).at_ i z tk ez etk
    have sT : Same H1 (upd H1 T0 (.tup [.ref l, .ref tl])) := Same.new (.refl _) hT0
    have hT1 : (upd H1 T0 (.tup [.ref l, .ref tl])) T0 = some (.tup [.ref l, .ref tl]) := upd_same
    generalize upd H1 T0 (.tup [.ref l, .ref tl]) = H2 at *
    have sm2 := L2.Same.trans sm sT
    have hf2 := sm2 _ _ hf
    walk_at "s"
    refine ⟨rfl, ?_⟩
    walk_at "s"
    refine ⟨F, ro, l, e, tl, o, vs, ps, F.hy pss tks i, tk, ok, hat.le (Same.le sm2), rfl, sm2 _ _ hro, oo, rfl, sT _ _ hl, hvs.le (Same.le sT), pok, rfl, sT _ _ he, F.hy_len i, rfl, htl.same sT, ltl, fun e' H3 sm3 fe' he' => ?_⟩
    have eqy : F.yr ps (F.hy pss tks i) tk = F.hy pss tks (i + 1) := by
      rw [Frm.hy, List.getD_eq_getElem?_getD, eps, List.getD_eq_getElem?_getD, etk]
      rfl
    rw [eqy] at he'
    have hf3 := sm3 _ _ hf2
    have ly : (F.hy pss tks (i + 1)).length = F.rs.length := F.yr_len
    have g := atI_getD (ls := F.hy pss tks (i + 1)) (i := F.owed) (by omega) (by omega)
    rw [Int.toNat_natCast] at g
    walk_at "s"
    refine ex_v g ?_
    walk_at "s"
    refine ⟨e', _, _, by rw [Frm.tot_succ]; rfl, he', L2.Same.trans sm2 sm3⟩
  · rintro σ' H1 ⟨e, y6, y7, rfl, he, sm⟩
    walk_at "s"
    exact q _ sm
abbrev s__law_all : Stmt := topS 74
theorem sc__law_all : FnScope ["_law_form_here", "_law_years", "_law_row_here", "_law_found", "_law_many", "_law_k", "_law_number_here", "_law_taken_here"] ["_law_form_here", "_law_years"] (defScope s__law_all) := ⟨rfl, rfl, rfl, by decide +kernel, rfl, by decide +kernel, by decide +kernel⟩
def sp_lall : Sp2 := fun a b H Q _ => ∃ (F : Frm) (y : Addr) (yv : List V) (pss : List (List (Str × Int))), F.Ok 40 ∧ At H F.d a ∧ b = .ref y ∧ H y = some (.lst yv) ∧ PapsAt H yv pss ∧ yv.length ≤ 20 ∧ F.C * yv.length ≤ 8 ∧ ∀ p H' vs, Same H H' → H p = none → H' p = some (.lst vs) → AtAll H' ((F.ents pss yv.length).map entD) vs → Q (.ref p) H'
theorem ok_law_all (M : Mg mg) (G__law_row : Has P w K mg base "_law_row" ["_law_lines"] 10 (sp1 sp_row)) (G__law_choices : Has P w K mg base "_law_choices" ["_law_number_here", "_law_choices_here", "_law_count"] 1 (sp3 sp_lchoi)) (G__law_sum : Has P w K mg base "_law_sum" ["_law_form_here", "_law_row_here", "_law_years", "_law_taken_here"] 11 (sp4 sp_lsum)) (D : DefAt K mg "_law_all" s__law_all ["_law_form_here", "_law_years"]) :
    Has P w K mg base "_law_all" ["_law_form_here", "_law_years"] 12 (sp2 sp_lall) := by
  refine .mk2 D sc__law_all fun fa cdv A outer s0 H a b Q E hr h => ⟨_, (pss_cons (ps_set (i := 2) sc__law_all.nd rfl (by first | exact Or.inl rfl | exact Or.inr rfl) (pe_own G__law_row (hr.mono (by first | decide | omega)) (by rfl) p_body (pa_cons (pe_ix (k_ix K rfl) (pv 0) pe_int (fun _ _ => rfl)) pa_nil)))
    (pss_cons (ps_set (i := 3) sc__law_all.nd rfl (by first | exact Or.inl rfl | exact Or.inr rfl) (pe_lst pa_nil))
    (pss_cons (ps_set (i := 4) sc__law_all.nd rfl (by first | exact Or.inl rfl | exact Or.inr rfl) pe_int)
    (pss_cons (ps_for own_p (by rfl) (pi_range1 (by rfl) M.range (pa_cons (pe_op o_mul (pe_ix (k_ix K rfl) (pv 0) pe_int (fun _ _ => rfl)) (pe_callB (k_len K rfl) (by rfl) M.len (by decide +kernel) (pa_cons (pv 1) pa_nil))) pa_nil)) (pg_name (i := 5) sc__law_all.nd rfl (by first | exact Or.inl rfl | exact Or.inr rfl)) (pss_one (ps_set (i := 4) sc__law_all.nd rfl (by first | exact Or.inl rfl | exact Or.inr rfl) (pe_op o_mul (pv 4) pe_int))))
    (pss_cons (ps_for own_p (by rfl) (pi_range1 (by rfl) M.range (pa_cons (pv 4) pa_nil)) (pg_name (i := 6) sc__law_all.nd rfl (by first | exact Or.inl rfl | exact Or.inr rfl)) (pss_cons (ps_set (i := 7) sc__law_all.nd rfl (by first | exact Or.inl rfl | exact Or.inr rfl) (pe_own G__law_choices (hr.mono (by first | decide | omega)) (by rfl) p_body (pa_cons (pv 6) (pa_cons (pe_ix (k_ix K rfl) (pv 0) pe_int (fun _ _ => rfl)) (pa_cons (pe_callB (k_len K rfl) (by rfl) M.len (by decide +kernel) (pa_cons (pv 1) pa_nil)) pa_nil)))))
    (pss_one (ps_expr (k_bm K rfl PySem.F.plainAttrs_list PySem.F.slot_list_append PySem.F.type_list_append mt_append (pv 3) (pa_cons (pe_tup (pa_cons (pv 7) (pa_cons (pe_own G__law_sum (hr.mono (by first | decide | omega)) (by rfl) p_body (pa_cons (pv 0) (pa_cons (pv 2) (pa_cons (pv 1) (pa_cons (pv 7) pa_nil))))) pa_nil))) pa_nil))))))
    (pss_one (ps_ret (pv 3)))))))), ?_⟩
  obtain ⟨F, y, yv, pss, ok, hat, rfl, hy, hps, l20, l8, q⟩ := h
  have lps := hps.len
  obtain ⟨f, L, T, fs, ts, rfl, hf, hL, hfs, hT, hts⟩ := Frm.at hat
  have c8 := ok.c8
  refine Fl.go_start (σ0 := [some _, some _, none, none, none, none, none, none]) rfl ?_
  walk_at "s"
  refine ⟨F, L, fs, ok, rfl, .inr hL, hfs, fun ro H1 o sm1 fro hro oo => ?_⟩
  have hf1 := sm1 _ _ hf
  have hy1 := sm1 _ _ hy
  walk_at "s"
  rename_i p0 hp0
  rw [show ((F.C : Int) * yv.length).toNat = F.C * yv.length by rw [← Int.natCast_mul, Int.toNat_natCast]]
  obtain ⟨m, hm⟩ : ∃ m, m = F.C * yv.length := ⟨_, rfl⟩
  have h256 : ∀ i, i ≤ m → 2 ^ i ≤ 256 := fun i hi => Nat.le_trans (Nat.pow_le_pow_right (by decide) (show i ≤ 8 by omega)) (by decide)
  have sm2 : Same H1 (upd H1 p0 (.lst [])) := Same.new (.refl _) hp0
  have p02 : (upd H1 p0 (.lst [])) p0 = some (.lst []) := upd_same
  generalize upd H1 p0 (.lst []) = H2 at *
  have sm02 := L2.Same.trans sm1 sm2
  have fp0 : H p0 = none := L2.Same.free sm1 hp0
  have hf2 := sm2 _ _ hf1
  have hy2 := sm2 _ _ hy1
  have hro2 := sm2 _ _ hro
  have nfp : f ≠ p0 := fun e => by rw [e, hp0] at hf1; cases hf1
  have nyp : y ≠ p0 := fun e => by rw [e, hp0] at hy1; cases hy1
  have nrp : ro ≠ p0 := fun e => by rw [e, hp0] at hro; cases hro
  have nel : ∀ l, V.ref l ∈ yv → l ≠ p0 := fun l h e => by
    obtain ⟨j, hj, ej⟩ := List.getElem_of_mem h
    obtain ⟨ps', eps'⟩ : ∃ ps', pss[j]? = some ps' := ⟨_, List.getElem?_eq_getElem (by omega)⟩
    obtain ⟨l', vs', q', hb, _⟩ := hps.at_ j _ ps' (List.getElem?_eq_getElem hj) eps'
    rw [ej] at q'
    cases q'
    rw [e, fp0] at hb
    cases hb
  have hps2 := hps.same sm02
  have hat2 := hat.le (Same.le sm02)
  rw [← hm]
  refine for_rng (fun i σ' H' => (∃ y5 : Option V, σ' = [some (.ref f), some (.ref y), some (.ref ro), some (.ref p0), some (.int ((2 ^ i : Nat) : Int)), y5, none, none]) ∧ H' = H2) ⟨⟨none, rfl⟩, rfl⟩ ?_ ?_
  · rintro i σ' H3 hi ⟨⟨y5, rfl⟩, rfl⟩
    have := h256 i (by omega)
    walk_at "s"
    exact rfl
  rintro σ' H3 ⟨⟨y5, rfl⟩, rfl⟩
  have hmm := h256 m (Nat.le_refl _)
  walk_at "s"
  rw [Int.toNat_natCast]
  refine ⟨⟨Int.le_trans (by decide) (Int.natCast_nonneg (2 ^ m)), Int.lt_of_le_of_lt (Int.ofNat_le.mpr hmm) (by decide)⟩, ?_⟩
  refine for_rng (fun i σ' H' => ∃ (acc : List V) (y6 y7 : Option V), σ' = [some (.ref f), some (.ref y), some (.ref ro), some (.ref p0), some (.int ((2 ^ m : Nat) : Int)), y5, y6, y7] ∧ H' p0 = some (.lst acc) ∧ AtAll H' (((F.ents pss yv.length).take i).map entD) acc ∧ acc.length = i ∧ (∀ b u, b ≠ p0 → H3 b = some u → H' b = some u))
    ⟨[], none, none, rfl, p02, rfl, rfl, fun b u _ h => h⟩ ?_ ?_
  · rintro i σ' H4 hi ⟨acc, y6, y7, rfl, hacc, hata, la, kp⟩
    rw [Int.zero_add]
    have lt3 : LeT H3 H4 := leT_keep kp p02
    have hf4 := kp _ _ nfp hf2
    have hy4 := kp _ _ nyp hy2
    walk_at "s"
    refine ⟨i, F.C, yv.length, rfl, rfl, rfl, c8, l20, l8, fun tk H5 tv sm5 htk hty => ?_⟩
    have lr := bitsL_len (F.C * yv.length) i
    have htks := hty.tks (C := F.C) (fun x hx => byY_row lr hx)
    have hy5 := sm5 _ _ hy4
    have hro5 := sm5 _ _ (kp _ _ nrp hro2)
    have hps5 := (hps2.kp kp lt3 nel).same sm5
    have hat5 := (hat2.leT lt3 F.tupO).le (Same.le sm5)
    have ltv := hty.1
    rw [byY_len] at ltv
    walk_at "s"
    refine ⟨F, ro, y, tk, o, yv, tv, pss, byY F.C yv.length (bitsL (F.C * yv.length) i), ok, hat5, rfl, hro5, oo, rfl, hy5, hps5, rfl, .inr htk, htks, by omega, l20, fun H6 sm6 => ?_⟩
    have sm46 := L2.Same.trans sm5 sm6
    have hacc6 := sm46 _ _ hacc
    have hata6 := hata.le (Same.le sm46)
    have hty6 := hty.le (fun b ys h => sm6 _ _ h)
    have htk6 := sm6 _ _ htk
    walk_at "s"
    rename_i pt hpt
    have sm7 : Same H6 (upd H6 pt (.tup [.ref tk, .int (F.tot pss (byY F.C yv.length (bitsL (F.C * yv.length) i)) yv.length)])) := Same.new (.refl _) hpt
    have hpt7 : (upd H6 pt (.tup [.ref tk, .int (F.tot pss (byY F.C yv.length (bitsL (F.C * yv.length) i)) yv.length)])) pt = some (.tup [.ref tk, .int (F.tot pss (byY F.C yv.length (bitsL (F.C * yv.length) i)) yv.length)]) := upd_same
    have npt : pt ≠ p0 := fun e => by rw [e, hacc6] at hpt; cases hpt
    generalize upd H6 pt (.tup [.ref tk, .int (F.tot pss (byY F.C yv.length (bitsL (F.C * yv.length) i)) yv.length)]) = H7 at *
    have hacc7 := sm7 _ _ hacc6
    have k8 : ∀ b u, b ≠ p0 → H7 b = some u → (upd H7 p0 (.lst (acc ++ [.ref pt]))) b = some u := fun b u nb h => by rw [upd_ne nb]; exact h
    have lt8 : LeT H7 (upd H7 p0 (.lst (acc ++ [.ref pt]))) := leT_keep k8 hacc7
    have er' := Frm.ents_get (F := F) (pss := pss) (n := yv.length) (v := i) (by rw [← hm]; exact hi)
    have hnew : At H7 (entD (F.ent pss yv.length (bitsL (F.C * yv.length) i))) (.ref pt) := at_tup hpt7 (AtAll.cons (at_tup (sm7 _ _ htk6) ((hty6.le (fun b ys h => sm7 _ _ h)).atAll)) (AtAll.cons rfl AtAll.nil))
    refine ⟨acc ++ [.ref pt], _, _, rfl, upd_same, ?_, by rw [List.length_append, la]; rfl, fun b u nb h => k8 _ _ nb (sm7 _ _ (sm46 _ _ (kp _ _ nb h)))⟩
    rw [List.take_add_one, er', List.map_append]
    exact ((hata6.le (Same.le sm7)).leT lt8 (ents_tup _)).append (AtAll.one (hnew.leT lt8 (entD_tup _)))
  · rintro σ' H4 ⟨acc, y6, y7, rfl, hacc, hata, la, kp⟩
    rw [List.take_of_length_le (by unfold Frm.ents; rw [List.length_map, binR_len, ← hm]; exact Nat.le_refl _)] at hata
    walk_at "s"
    exact q p0 H4 acc (fun b u h => kp _ _ (fun e => by rw [e, fp0] at h; cases h) (sm02 _ _ h)) fp0 hacc hata
end
end Fl

-- after: ex.tpl
namespace Fl
open PySem PySem.Spec PyProof.Rows L2 RZ
/-! ### a def that is asked of the refusal that is handled -/
abbrev SpE := Addr × Obj → Hp → VK → Prop
/-- it answers, whatever is handled -/
structure AskE (P : Program) (w : World) (K : PySem.W.Frag) (mg : Str → Option Value) (base : Heap) (k : Nat) (f : Addr) (fd : FuncData) (x1 : Str) (g : SpE) : Prop where
  run : ∀ {A : Around} {outer : List Env} {s : Shared} {H : Hp} {args : Args} {Q : VK} {p : Addr × Obj}, L2H.RoomH k A → L2H.PinOk outer H s p → Env0 P w K mg base A outer s H → BindsTo s fd args [(x1, .ref p.1)] → g p H Q →
    codeAny (model P w) A (.call (.ref f) args) (CR (L2.CX P w) outer P w H s Q E0) s
structure HasE (P : Program) (w : World) (K : PySem.W.Frag) (mg : Str → Option Value) (base : Heap) (x x1 : Str) (k : Nat) (g : SpE) : Prop where
  ex : ∃ (f : Addr) (fd : FuncData), AskE P w K mg base k f fd x1 g ∧ mg x = some (.ref f) ∧ PySem.W.keepIn K (.ref f) = true ∧ Binds K fd [x1] []
section
variable {P : Program} {w : World} {K : PySem.W.Frag} {mg : Str → Option Value} {base : Heap} {x x1 : Str} {st : Stmt} {N : List Str} {k : Nat} {g : SpE}
theorem HasE.of (D : DefAt K mg x st [x1]) (S : FnScope N [x1] (defScope st))
    (body : ∀ (f : Addr) (cdv : Value) (A : Around) (outer : List Env) (s : Shared) (H : Hp) (Q : VK) (p : Addr × Obj), L2H.RoomH k (A.deeper (envOfC x (defScope st) s.heap.objs.size f cdv)) → g p H Q →
      ∃ t, PSs (L2H.cxH (L2.CX P w) P w K mg base N x (defScope st) f cdv A outer s H E0 p) (defBody st) t ∧ t { nx := fun _ H' => Q .non H', rt := Q } (L2.start N [.ref p.1]) H) : HasE P w K mg base x x1 (k + 1) g := by
  obtain ⟨f, fd, F, hm, hb⟩ := D.ex
  refine ⟨f, fd, ⟨?_⟩, hm, F.kp, hb⟩
  obtain ⟨oc, od, kV, doc, pm, an, cdv, ct, osl, rfl, lk, cod⟩ := F.ex
  intro A outer s H args Q p room pin around bind asked
  have inK : K.In s.heap := around.mod.kin.keeps fun b o e => (around.bs b o e).1
  have nolim : s.heap.NoLimit := around.mod.nolimit.keeps fun b o e => (around.bs b o e).1
  have kinds : ∀ z ∈ [(x1, Value.ref p.1)], (defScope st).names.lookup z.1 = some .local ∨ ((defScope st).names.lookup z.1 = some .cell ∧ ((cellsFrom (s.heap.objs.size + 1) (defScope st).names []).lookup z.1).isSome = true) := fun z hz => by
    have e : z = (x1, Value.ref p.1) := List.mem_singleton.mp hz
    subst e
    rcases S.par x1 (List.mem_singleton.mpr rfl) with c | c
    · exact .inl c
    · exact .inr ⟨c, PySem.W.cellsFrom_some _ _ _ (.inl c)⟩
  have vals : Vals [V.ref p.1] [Value.ref p.1] := .cons rfl .nil
  refine codeAny_call_function room.depth (inK _ _ lk) rfl S.co S.gen rfl (PySem.W.codeRec_of inK cod) (bind _ _ _ _ ?_)
  refine wpAny_newFunctionEnv_cells S.kind kinds fun env he s2 made => ?_
  subst he
  refine ⟨nolim.keeps made.toInCall.keep, codeAny_func ?_⟩
  obtain ⟨t, walk, asked'⟩ := body f cdv A outer s H Q p (room.deeper _) asked
  have I := L2H.inv_startH (CX := L2.CX P w) (E := E0) (vs := [V.ref p.1]) S pin around rfl vals made
  refine wpAny_mono (walk.run [] s2 _ H _ I asked') (fun fl s' ends => ?_) fun _ _ z => z
  have fin : ∀ {σ' : L2.St} {H' : Hp} {v : V} {u : Value}, Inv (L2H.cxH (L2.CX P w) P w K mg base N x (defScope st) f cdv A outer s H E0 p) [] σ' H' s' → RelV v u → Q v H' → CE outer P w H s Q u s' := fun J r q => ⟨_, _, J.os, J.bare, J.base, J.hok, r, q⟩
  cases fl with
  | ret u =>
    obtain ⟨v, σ', H', J, r, q⟩ := ends
    exact fin J r q
  | next =>
    obtain ⟨σ', H', J, q⟩ := ends
    exact fin (v := .non) (u := .none) J rfl q
  | brk =>
    obtain ⟨_, _, _, z⟩ := ends
    exact z.elim
  | cont =>
    obtain ⟨_, _, _, z⟩ := ends
    exact z.elim
end
section
variable {X : L2.Cx} {x x1 : Str} {k : Nat} {g : SpE} {q pos : Pos} {e : Expr} {t : TA} {a : Addr} {oe : Obj} {p : Addr × Obj} {D : Addr}
def tAsk (G : Hp → VK → Prop) (a : Addr) (t : TA) : TE := fun σ H Q => t σ H fun vs H1 => vs = [.ref a] ∧ G H1 Q
theorem pe_ask {G : Hp → VK → Prop} (h : HasE X.prog X.w X.K X.mg X.base x x1 k g) (hr : L2H.RoomH k X.A) (here : (a, oe) ∈ X.pn) (im : ∀ H Q, G H Q → g (a, oe) H Q) (hg : Gl X x) (ha : PA X [e] t) (hdb : (x == ("__debug__" : Str)) = false := by decide)
    (he : starEach [e] X.env = (false, eval e X.env) :: starEach [] X.env := by rfl) (hpl : (backTo pos (starEach [] X.env)).any (·.1) = false := by rfl) : PE X (.Call (.Name x q) [e] [] pos) (tAsk G a t) := by
  obtain ⟨f, fd, F, hm, hk, hb⟩ := h.ex
  refine ⟨fun pins s σ H Q I w => wpAny_Call_Name_kw (ld_glob I hg hm ?_ hdb)⟩
  refine PySem.W.callWith_K (h₀ := X.base) I.ok.mod.kin hk (thn (ha.run pos pins s σ H _ I w) fun us s2 ⟨vs, H2, J, r, ev, asked⟩ => ⟨J.kIn, ?_⟩) he hpl
  subst ev
  obtain ⟨u, eu, ru⟩ := vals1 r
  subst eu
  cases ru
  have bnd := hb s2 [.ref a] J.kIn rfl
  rw [List.append_nil] at bnd
  have P := J.pin (a, oe) (List.mem_append_left _ here)
  have pin : L2H.PinOk X.stack H2 s2 (a, oe) := ⟨P.1, P.2.1, fun hm => (List.mem_cons.mp (J.stkSub a hm)).elim P.2.2.1 P.2.2.2.1, P.2.2.2.2⟩
  refine wpAny_call (codeAny_mono (F.run (p := (a, oe)) hr pin J.env0 bnd (im _ _ asked)) fun res s' ends => ?_)
  cases res with
  | error z => exact passL pins σ H2 s2 z s' J ends
  | ok fl =>
    cases fl with
    | ret u => exact J.after ends
    | next => exact ends.elim
    | brk => exact ends.elim
    | cont => exact ends.elim
theorem roomS {j k : Nat} {A : Around} {hd : Option Value} (r : Room k A) (l : j ≤ k) : L2H.RoomH j (A.mark hd) := ⟨(r.mono l).dp, (r.mono l).un⟩
/-- isinstance, of what is handled -/
theorem ask_kind (here : p ∈ X.pn) (T : ExcC X.K D) (z : Zc (.ref D) none p.2) (fl : ∃ vs, p.2.data = .fields vs) : CallR X (.builtin "isinstance") (rIsE X.K D p.1) := by
  intro pins s σ H xs us Q I r w
  obtain ⟨c, cv, b, rfl, only, kit, q⟩ := w
  obtain ⟨u1, u2, rfl, r1, r2⟩ := vals2 r
  cases r1
  cases only _ r2
  obtain ⟨get, _⟩ := I.pin p (List.mem_append.mpr (.inl here))
  obtain ⟨vs, dat⟩ := fl
  have J : PySem.W.InstAt s.heap p.1 p.2 D none := by
    rcases p with ⟨adr, cl, dc, dt, sl⟩
    obtain ⟨z1, z2⟩ := z
    cases z1
    cases z2
    cases dat
    exact ⟨get, rfl, rfl, trivial⟩
  exact PySem.W.kia_one (PySem.W.handS_kitx_exc T.hg T.hk T.hs T.hd T.ha T.hn T.ht T.hm) I.kIn J kit (fun z => nomatch z) fun tk => ⟨.bl b, H, I.kept (t' := tk) fun _ _ z => z, rfl, q⟩
end
section
variable {P : Program} {w : World} {K : PySem.W.Frag} {mg : Str → Option Value} {base : Heap}
section
variable {σ : L2.St} {H : Hp} {Q : VK} {G : Hp → VK → Prop} {t : TA} {a : Addr}
instance : Step (tAsk G a t σ H Q) (t σ H fun vs H1 => ∃ v, vs = [v] ∧ v = .ref a ∧ G H1 Q) := ⟨fun h => by
  have e : (fun (vs : List V) (H1 : Hp) => ∃ v, vs = [v] ∧ v = .ref a ∧ G H1 Q) = fun vs H1 => vs = [.ref a] ∧ G H1 Q := by
    funext vs H1
    exact propext ⟨fun ⟨v, e1, e2, q⟩ => ⟨by rw [e1, e2], q⟩, fun ⟨e1, q⟩ => ⟨_, e1, rfl, q⟩⟩
  show t σ H _
  rw [← e]
  exact h⟩
end
/-- which of the classes it is -/
structure AlC (K : PySem.W.Frag) (D : Addr) (cs : List Addr) (bs : List Bool) : Prop where
  C : ExcC K D
  v : PySem.W.kitOne K (.ref D) (.type "ValueError") = some true
  k : ∀ (i : Nat) c b, cs[i]? = some c → bs[i]? = some b → PySem.W.kitOne K (.ref D) (.ref c) = some b
  n9 : bs.length = 9
  one : (bs.map fun b : Bool => if b = true then (1 : Int) else 0).sum = 1
theorem AlC.of {D c1 c2 c3 c4 c5 c6 c7 c8 c9 : Addr} {b1 b2 b3 b4 b5 b6 b7 b8 b9 : Bool} (C : ExcC K D) (v : PySem.W.kitOne K (.ref D) (.type "ValueError") = some true) (k1 : PySem.W.kitOne K (.ref D) (.ref c1) = some b1) (k2 : PySem.W.kitOne K (.ref D) (.ref c2) = some b2) (k3 : PySem.W.kitOne K (.ref D) (.ref c3) = some b3) (k4 : PySem.W.kitOne K (.ref D) (.ref c4) = some b4) (k5 : PySem.W.kitOne K (.ref D) (.ref c5) = some b5) (k6 : PySem.W.kitOne K (.ref D) (.ref c6) = some b6) (k7 : PySem.W.kitOne K (.ref D) (.ref c7) = some b7) (k8 : PySem.W.kitOne K (.ref D) (.ref c8) = some b8) (k9 : PySem.W.kitOne K (.ref D) (.ref c9) = some b9)
    (one : ([b1, b2, b3, b4, b5, b6, b7, b8, b9].map fun b : Bool => if b = true then (1 : Int) else 0).sum = 1) : AlC K D [c1, c2, c3, c4, c5, c6, c7, c8, c9] [b1, b2, b3, b4, b5, b6, b7, b8, b9] := ⟨C, v, (fun i c b e1 e2 => by
  match i, e1, e2 with
  | 0, e1, e2 =>
    have h1 : c1 = c := Option.some.inj e1
    have h2 : b1 = b := Option.some.inj e2
    rw [← h1, ← h2]
    exact k1
  | 1, e1, e2 =>
    have h1 : c2 = c := Option.some.inj e1
    have h2 : b2 = b := Option.some.inj e2
    rw [← h1, ← h2]
    exact k2
  | 2, e1, e2 =>
    have h1 : c3 = c := Option.some.inj e1
    have h2 : b3 = b := Option.some.inj e2
    rw [← h1, ← h2]
    exact k3
  | 3, e1, e2 =>
    have h1 : c4 = c := Option.some.inj e1
    have h2 : b4 = b := Option.some.inj e2
    rw [← h1, ← h2]
    exact k4
  | 4, e1, e2 =>
    have h1 : c5 = c := Option.some.inj e1
    have h2 : b5 = b := Option.some.inj e2
    rw [← h1, ← h2]
    exact k5
  | 5, e1, e2 =>
    have h1 : c6 = c := Option.some.inj e1
    have h2 : b6 = b := Option.some.inj e2
    rw [← h1, ← h2]
    exact k6
  | 6, e1, e2 =>
    have h1 : c7 = c := Option.some.inj e1
    have h2 : b7 = b := Option.some.inj e2
    rw [← h1, ← h2]
    exact k7
  | 7, e1, e2 =>
    have h1 : c8 = c := Option.some.inj e1
    have h2 : b8 = b := Option.some.inj e2
    rw [← h1, ← h2]
    exact k8
  | 8, e1, e2 =>
    have h1 : c9 = c := Option.some.inj e1
    have h2 : b9 = b := Option.some.inj e2
    rw [← h1, ← h2]
    exact k9
  | n + 9, e1, _ => exact absurd e1 (by simp)), rfl, one⟩
theorem isE_own {H : Hp} {Q : VK} {D a c : Addr} {b : Bool} (h : PySem.W.kitOne K (.ref D) (.ref c) = some b) (q : Q (.bl b) H) : rIsE K D a [.ref a, .ref c] H Q := ⟨.ref c, .ref c, b, rfl, fun _ r => r, h, q⟩
theorem isE_ty {H : Hp} {Q : VK} {D a : Addr} {T : String} {b : Bool} (h : PySem.W.kitOne K (.ref D) (.type T) = some b) (q : Q (.bl b) H) : rIsE K D a [.ref a, .ty T] H Q := ⟨.ty T, .type T, b, rfl, fun _ r => r, h, q⟩
theorem eq_one {H : Hp} {Q : VK} {i : Int} (h : i = 1) (q : Q (.bl true) H) : rEq (.int i) (.int 1) H Q := ⟨rfl, by rw [h]; exact q⟩
abbrev s__law_alone : Stmt := topS 69
theorem sc__law_alone : FnScope ["_law_e", "_law_many"] ["_law_e"] (defScope s__law_alone) := ⟨rfl, rfl, rfl, by decide +kernel, rfl, by decide +kernel, by decide +kernel⟩
def spA (K : PySem.W.Frag) (cs : List Addr) : SpE := fun p H Q => ∃ (D : Addr) (bs : List Bool), AlC K D cs bs ∧ Zc (.ref D) none p.2 ∧ (∃ vs, p.2.data = .fields vs) ∧ Q (.bl true) H
/-- what is asked, by the class that flew -/
def gAl (K : PySem.W.Frag) (cs : List Addr) (cls : Value) (d : Option Addr) : Hp → VK → Prop := fun H Q => (∃ (D : Addr) (bs : List Bool), cls = .ref D ∧ d = none ∧ AlC K D cs bs) ∧ Q (.bl true) H
theorem gAl_im {cs : List Addr} {cls : Value} {d : Option Addr} {a : Addr} {oe : Obj} (z : Zc cls d oe) (f : ∃ vs, oe.data = .fields vs) : ∀ H Q, gAl K cs cls d H Q → spA K cs (a, oe) H Q := by
  rintro H Q ⟨⟨D, bs, rfl, rfl, al⟩, q⟩
  exact ⟨D, bs, al, z, f, q⟩
theorem ok_law_alone {C1 C2 C3 C4 C5 C6 C7 C8 C9 : Addr} (M : Mg mg) (T_NoTable : ExcT K mg "NoTable" C1) (T_NoForm : ExcT K mg "NoForm" C2) (T_NoRule : ExcT K mg "NoRule" C3) (T_Ring : ExcT K mg "Ring" C4) (T_NoPaper : ExcT K mg "NoPaper" C5) (T_NoYear : ExcT K mg "NoYear" C6) (T_NoLine : ExcT K mg "NoLine" C7)
    (T_NoChoice : ExcT K mg "NoChoice" C8) (T_TooMany : ExcT K mg "TooMany" C9) (D : DefAt K mg "_law_alone" s__law_alone ["_law_e"]) : HasE P w K mg base "_law_alone" "_law_e" 1 (spA K [C1, C2, C3, C4, C5, C6, C7, C8, C9]) := by
  refine .of D sc__law_alone fun fa cdv A outer s0 H Q p hr h => ?_
  obtain ⟨DC, bs, al, hz, hf, q⟩ := h
  have TD := al.C
  refine ⟨_, (pss_cons (ps_set (i := 1) sc__law_alone.nd rfl (by first | exact Or.inl rfl | exact Or.inr rfl) (pe_op (k_add K rfl) (pe_op (k_add K rfl) (pe_callTy c_int (by rfl) M.int (by decide +kernel) (pa_cons (pe_callB (ask_kind (p := p) (by exact List.mem_cons_self) TD hz hf) (by rfl) M.isinstance (by decide +kernel) (pa_cons (pv 0) (pa_cons (pe_gcls (by rfl) T_NoTable.gC) pa_nil))) pa_nil)) (pe_callTy c_int (by rfl) M.int (by decide +kernel) (pa_cons (pe_callB (ask_kind (p := p) (by exact List.mem_cons_self) TD hz hf) (by rfl) M.isinstance (by decide +kernel) (pa_cons (pv 0) (pa_cons (pe_gcls (by rfl) T_NoForm.gC) pa_nil))) pa_nil))) (pe_callTy c_int (by rfl) M.int (by decide +kernel) (pa_cons (pe_callB (ask_kind (p := p) (by exact List.mem_cons_self) TD hz hf) (by rfl) M.isinstance (by decide +kernel) (pa_cons (pv 0) (pa_cons (pe_gcls (by rfl) T_NoRule.gC) pa_nil))) pa_nil))))
    (pss_cons (ps_set (i := 1) sc__law_alone.nd rfl (by first | exact Or.inl rfl | exact Or.inr rfl) (pe_op (k_add K rfl) (pe_op (k_add K rfl) (pe_op (k_add K rfl) (pv 1) (pe_callTy c_int (by rfl) M.int (by decide +kernel) (pa_cons (pe_callB (ask_kind (p := p) (by exact List.mem_cons_self) TD hz hf) (by rfl) M.isinstance (by decide +kernel) (pa_cons (pv 0) (pa_cons (pe_gcls (by rfl) T_Ring.gC) pa_nil))) pa_nil))) (pe_callTy c_int (by rfl) M.int (by decide +kernel) (pa_cons (pe_callB (ask_kind (p := p) (by exact List.mem_cons_self) TD hz hf) (by rfl) M.isinstance (by decide +kernel) (pa_cons (pv 0) (pa_cons (pe_gcls (by rfl) T_NoPaper.gC) pa_nil))) pa_nil))) (pe_callTy c_int (by rfl) M.int (by decide +kernel) (pa_cons (pe_callB (ask_kind (p := p) (by exact List.mem_cons_self) TD hz hf) (by rfl) M.isinstance (by decide +kernel) (pa_cons (pv 0) (pa_cons (pe_gcls (by rfl) T_NoYear.gC) pa_nil))) pa_nil))))
    (pss_cons (ps_set (i := 1) sc__law_alone.nd rfl (by first | exact Or.inl rfl | exact Or.inr rfl) (pe_op (k_add K rfl) (pe_op (k_add K rfl) (pe_op (k_add K rfl) (pv 1) (pe_callTy c_int (by rfl) M.int (by decide +kernel) (pa_cons (pe_callB (ask_kind (p := p) (by exact List.mem_cons_self) TD hz hf) (by rfl) M.isinstance (by decide +kernel) (pa_cons (pv 0) (pa_cons (pe_gcls (by rfl) T_NoLine.gC) pa_nil))) pa_nil))) (pe_callTy c_int (by rfl) M.int (by decide +kernel) (pa_cons (pe_callB (ask_kind (p := p) (by exact List.mem_cons_self) TD hz hf) (by rfl) M.isinstance (by decide +kernel) (pa_cons (pv 0) (pa_cons (pe_gcls (by rfl) T_NoChoice.gC) pa_nil))) pa_nil))) (pe_callTy c_int (by rfl) M.int (by decide +kernel) (pa_cons (pe_callB (ask_kind (p := p) (by exact List.mem_cons_self) TD hz hf) (by rfl) M.isinstance (by decide +kernel) (pa_cons (pv 0) (pa_cons (pe_gcls (by rfl) T_TooMany.gC) pa_nil))) pa_nil))))
    (pss_one (ps_ret (pe_and (pe_cmpR op_eq (pv 1) pe_int (nomark _)) (pe_one (pe_callB (ask_kind (p := p) (by exact List.mem_cons_self) TD hz hf) (by rfl) M.isinstance (by decide +kernel) (pa_cons (pv 0) (pa_cons (pe_bltn (v := .ty "ValueError") (by rfl) M.ValueError (by decide +kernel) rfl) pa_nil)))))))))), ?_⟩
  have n9 := al.n9
  obtain ⟨b1, b2, b3, b4, b5, b6, b7, b8, b9, rfl⟩ : ∃ b1 b2 b3 b4 b5 b6 b7 b8 b9, bs = [b1, b2, b3, b4, b5, b6, b7, b8, b9] := by
    match bs, n9 with
    | [b1, b2, b3, b4, b5, b6, b7, b8, b9], _ => exact ⟨b1, b2, b3, b4, b5, b6, b7, b8, b9, rfl⟩
  refine Fl.go_start (σ0 := [some _, none]) rfl ?_
  walk_at "s"
  refine isE_own (al.k 0 _ _ rfl rfl) ?_
  walk_at "s"
  refine isE_own (al.k 1 _ _ rfl rfl) ?_
  walk_at "s"
  refine isE_own (al.k 2 _ _ rfl rfl) ?_
  walk_at "s"
  refine isE_own (al.k 3 _ _ rfl rfl) ?_
  walk_at "s"
  refine isE_own (al.k 4 _ _ rfl rfl) ?_
  walk_at "s"
  refine isE_own (al.k 5 _ _ rfl rfl) ?_
  walk_at "s"
  refine isE_own (al.k 6 _ _ rfl rfl) ?_
  walk_at "s"
  refine isE_own (al.k 7 _ _ rfl rfl) ?_
  walk_at "s"
  refine isE_own (al.k 8 _ _ rfl rfl) ?_
  walk_at "s"
  refine eq_one (by have := al.one; simp only [List.map_cons, List.map_nil, List.sum_cons, List.sum_nil] at this; omega) ?_
  walk_at "s"
  refine isE_ty al.v ?_
  exact q
end
end Fl

-- after: yt.tpl eq.tpl
namespace Fl
open PySem PySem.Spec PyProof.Rows L2 RZ
/-! ### rows, papers compared -/
theorem dpAll_of {K : PySem.W.Frag} {H : Hp} : ∀ {vs : List V} {ds : List PyData}, vs.length = ds.length → (∀ (i : Nat) v d, vs[i]? = some v → ds[i]? = some d → Dp K H v d) → DpAll K H vs ds
  | [], [], _, _ => .nil
  | v :: vs, d :: ds, l, h => .cons (h 0 v d rfl rfl) (dpAll_of (by simpa using l) fun i v' d' e1 e2 => h (i + 1) v' d' (by simpa using e1) (by simpa using e2))
theorem depthAll_max {ds : List PyData} {n : Nat} (h : ∀ d ∈ ds, d.depth ≤ n) : PyData.depthAll ds ≤ n := by
  induction ds with
  | nil => simp [PyData.depthAll]
  | cons d r ih =>
    have h1 := h d (List.mem_cons_self ..)
    have h2 := ih fun x hx => h x (List.mem_cons_of_mem _ hx)
    simp only [PyData.depthAll]
    omega
theorem shaped_lst {ds : List PyData} {n : Nat} (h1 : ∀ d ∈ ds, d.depth ≤ n) (h2 : ∀ d ∈ ds, d.canLay0 = true) (hn : n + 1 ≤ 64) : SeqAt.shaped (.list ds) = true := by
  have e : PyData.depthAll ds + 1 ≤ 64 := by have := depthAll_max h1; omega
  simp [SeqAt.shaped, PyData.canLay0, lay_all ds h2, PyData.depth, e]
def rowD (r : List Int) : PyData := .list (r.map PyData.int)
def papD (ps : List (Str × Int)) : PyData := .list (ps.map prD)
theorem rowD_depth (r : List Int) : (rowD r).depth ≤ 1 := by
  unfold rowD
  rw [PyData.depth, depth_ints]
  exact Nat.le_refl _
theorem rowD_lay (r : List Int) : (rowD r).canLay0 = true := by
  have := shaped_ints r
  unfold SeqAt.shaped at this
  exact (Bool.and_eq_true_iff.mp this).1
theorem prD_depth (p : Str × Int) : (prD p).depth ≤ 1 := by
  show PyData.depth (.tuple [.str p.1, .int p.2]) ≤ 1
  simp [PyData.depth, PyData.depthAll]
theorem prD_lay {p : Str × Int} (h : WdT p.1) : (prD p).canLay0 = true := by
  have l := okD_lay _ (h.ok.ok (Nat.le_refl _))
  show PyData.canLay0 (.tuple [.str p.1, .int p.2]) = true
  simp only [PyData.canLay0, PyData.canLayAll0, Bool.and_true, Bool.true_and] at l ⊢
  exact l
theorem papD_depth (ps : List (Str × Int)) : (papD ps).depth ≤ 2 := by
  have : PyData.depthAll (ps.map prD) ≤ 1 := depthAll_max fun d hd => by
    obtain ⟨p, _, rfl⟩ := List.mem_map.mp hd
    exact prD_depth p
  unfold papD
  rw [PyData.depth]
  omega
theorem papD_lay {ps : List (Str × Int)} (h : PapOk ps) : (papD ps).canLay0 = true := by
  unfold papD
  rw [PyData.canLay0]
  exact lay_all _ fun d hd => by
    obtain ⟨p, hp, rfl⟩ := List.mem_map.mp hd
    exact prD_lay (h.wd p hp)
theorem shaped_rows (rs : List (List Int)) : SeqAt.shaped (.list (rs.map rowD)) = true := shaped_lst (n := 1) (fun d hd => by
  obtain ⟨r, _, rfl⟩ := List.mem_map.mp hd
  exact rowD_depth r) (fun d hd => by
  obtain ⟨r, _, rfl⟩ := List.mem_map.mp hd
  exact rowD_lay r) (by decide)
theorem shaped_paps {pss : List (List (Str × Int))} (h : ∀ ps ∈ pss, PapOk ps) : SeqAt.shaped (.list (pss.map papD)) = true := shaped_lst (n := 2) (fun d hd => by
  obtain ⟨r, _, rfl⟩ := List.mem_map.mp hd
  exact papD_depth r) (fun d hd => by
  obtain ⟨r, hr, rfl⟩ := List.mem_map.mp hd
  exact papD_lay (h r hr)) (by decide)
theorem RowsAt.dp {K : PySem.W.Frag} {H : Hp} {hv : List V} {n : Nat} {f : Nat → List Int} {a : Addr} (h : RowsAt H hv n f) (ha : H a = some (.lst hv)) : Dp K H (.ref a) (.list (((List.range n).map f).map rowD)) := by
  refine .lst (.of ha) (dpAll_of (by rw [List.length_map, List.length_map, List.length_range, h.len]) fun i v d e1 e2 => ?_)
  obtain ⟨l, rfl, hl⟩ := h.at_ i v e1
  have il := (List.getElem?_eq_some_iff.mp e1).1
  rw [h.len] at il
  rw [List.getElem?_map, List.getElem?_map, List.getElem?_range il] at e2
  cases e2
  exact dp_ints hl
theorem PapsAt.dp {K : PySem.W.Frag} {H : Hp} {yv : List V} {pss : List (List (Str × Int))} {a : Addr} (h : PapsAt H yv pss) (ha : H a = some (.lst yv)) : Dp K H (.ref a) (.list (pss.map papD)) := by
  refine .lst (.of ha) (dpAll_of (by rw [List.length_map, h.len]) fun i v d e1 e2 => ?_)
  rw [List.getElem?_map] at e2
  cases e : pss[i]? with
  | none => rw [e] at e2; cases e2
  | some ps =>
    rw [e] at e2
    cases e2
    obtain ⟨l, vs, rfl, hl, hv, _⟩ := h.at_ i v ps e1 e
    exact .lst (.of hl) hv.dp
theorem PapsAt.oks {H : Hp} {yv : List V} {pss : List (List (Str × Int))} (h : PapsAt H yv pss) : ∀ ps ∈ pss, PapOk ps := fun ps hp => by
  obtain ⟨i, hi, e⟩ := List.getElem_of_mem hp
  have hl := h.len
  obtain ⟨_, _, _, _, _, ok⟩ := h.at_ i _ ps (List.getElem?_eq_getElem (by omega)) (by rw [List.getElem?_eq_getElem hi, e])
  exact ok
end Fl

-- after: k09c.tpl k09e.tpl al.tpl eq2.tpl
namespace Fl
open PySem PySem.Spec PyProof.Rows L2 RZ
/-! ### what is refused -/
def RefW (F : Frm) (H : Hp) (yv : List V) (w : Str) : Prop := (w = "many" ∧ 8 < F.C * yv.length) ∨ (w = "paper" ∧ F.C * yv.length ≤ 8 ∧ PaB H yv)
theorem RefW.same {F : Frm} {H H' : Hp} {yv : List V} {w : Str} (h : RefW F H yv w) (e : Same H H') : RefW F H' yv w := h.imp id fun ⟨a, b, c⟩ => ⟨a, b, c.same e⟩
theorem PaB.length {H : Hp} {yv : List V} (h : PaB H yv) : 1 ≤ yv.length := by
  obtain ⟨j, _, _, _, h, _⟩ := h
  have := (List.getElem?_eq_some_iff.mp h).1
  omega
section
variable {P : Program} {w : World} {K : PySem.W.Frag} {mg : Str → Option Value} {base : Heap}
abbrev s__law_tried : Stmt := topS 75
theorem sc__law_tried : FnScope ["_law_form_here", "_law_years", "_law_way"] ["_law_form_here", "_law_years", "_law_way"] (defScope s__law_tried) := ⟨rfl, rfl, rfl, by decide +kernel, rfl, by decide +kernel, by decide +kernel⟩
def sp_tried : Sp3 := fun a b c H Q _ => ∃ (F : Frm) (y : Addr) (yv : List V) (w : Str) (k : Int), F.Ok 40 ∧ At H F.d a ∧ b = .ref y ∧ H y = some (.lst yv) ∧ yv.length ≤ 20 ∧ RefW F H yv w ∧ c = .int k ∧ (k = 0 ∨ k = 1) ∧ ∀ H', Same H H' → Q (.str w) H'
theorem ok_law_tried {CT CP : Addr} (M : Mg mg) (T_TooMany : ExcT K mg "TooMany" CT) (T_NoPaper : ExcT K mg "NoPaper" CP) (e_TT : PySem.W.exmOne K (.ref CT) (.ref CT) = some true) (e_PT : PySem.W.exmOne K (.ref CP) (.ref CT) = some false) (e_PP : PySem.W.exmOne K (.ref CP) (.ref CP) = some true)
    (G_sums : Has P w K mg base "sums" ["form", "years"] 13 (sp2 (sp_sumsX CT CP))) (G_least : Has P w K mg base "least" ["form", "years"] 14 (sp2 (sp_leastX CT CP))) (D : DefAt K mg "_law_tried" s__law_tried ["_law_form_here", "_law_years", "_law_way"]) : Has P w K mg base "_law_tried" ["_law_form_here", "_law_years", "_law_way"] 15 (sp3 sp_tried) := by
  refine .mk3 D sc__law_tried fun fa cdv A outer s0 H a b c Q E hr h => ⟨_, (pss_cons (ps_try_many rfl rfl t_body (fun W pn xe tk _ => (pss_one (ps_if (pt_cmpR (k_eq K rfl hr) (pv 2) pe_int (nomark _)) (pss_one (ps_expr (pe_ownS G_sums (hr.mono (by first | decide | omega)) (by rfl) (fun σ => passAt tk σ) (pa_cons (pv 0) (pa_cons (pv 1) pa_nil))))) (pss_one (ps_expr (pe_ownS G_least (hr.mono (by first | decide | omega)) (by rfl) (fun σ => passAt tk σ) (pa_cons (pv 0) (pa_cons (pv 1) pa_nil)))))))) (HdsOk.cons ⟨rfl, by decide, .inl T_TooMany.gC⟩ (fun a oe cls d pn _ _ => (pss_one (ps_ret pe_str))) (HdsOk.cons ⟨rfl, by decide, .inl T_NoPaper.gC⟩ (fun a oe cls d pn _ _ => (pss_one (ps_ret pe_str))) HdsOk.nil)))
    (pss_one (ps_ret pe_str))), ?_⟩
  obtain ⟨F, y, yv, w', k, ok, hat, rfl, hy, l20, hw, rfl, hk, q⟩ := h
  refine Fl.go_start (σ0 := [some _, some _, some _]) rfl ?_
  rcases hk with rfl | rfl
  · walk_at "s"
    rcases hw with ⟨rfl, c⟩ | ⟨rfl, c, hb⟩
    · refine ⟨F, y, yv, ok, hat, rfl, hy, l20, .inl ⟨c, fun H1 e => wm_yes e_TT fun ea hea => ?_⟩⟩
      walk_at "s"
      exact q _ e
    · refine ⟨F, y, yv, ok, hat, rfl, hy, l20, .inr ⟨c, .inr ⟨hb, fun H1 e => wm_no e_PT (wm_yes e_PP fun ea hea => ?_)⟩⟩⟩
      walk_at "s"
      exact q _ e
  · walk_at "s"
    rcases hw with ⟨rfl, c⟩ | ⟨rfl, c, hb⟩
    · refine ⟨F, y, yv, ok, hat, rfl, hy, l20, .inl ⟨c, fun H1 e => wm_yes e_TT fun ea hea => ?_⟩⟩
      walk_at "s"
      exact q _ e
    · refine ⟨F, y, yv, ok, hat, rfl, hy, l20, .inr ⟨c, .inr ⟨hb, fun H1 e => wm_no e_PT (wm_yes e_PP fun ea hea => ?_)⟩⟩⟩
      walk_at "s"
      exact q _ e
abbrev s__law_any : Stmt := topS 76
theorem sc__law_any : FnScope ["_law_form_here", "_law_years", "_law_e"] ["_law_form_here", "_law_years"] (defScope s__law_any) := ⟨rfl, rfl, rfl, by decide +kernel, rfl, by decide +kernel, by decide +kernel⟩
def sp_any : Sp2 := fun a b H Q _ => ∃ (F : Frm) (y : Addr) (yv : List V) (w : Str), F.Ok 40 ∧ At H F.d a ∧ b = .ref y ∧ H y = some (.lst yv) ∧ yv.length ≤ 20 ∧ RefW F H yv w ∧ ∀ H', Q (.bl true) H'
theorem ok_law_any {CT CP CF : Addr} {cs bT bP : List _} (M : Mg mg) (T_FormError : ExcT K mg "FormError" CF) (e_TF : PySem.W.exmOne K (.ref CT) (.ref CF) = some true) (e_PF : PySem.W.exmOne K (.ref CP) (.ref CF) = some true) (AT : AlC K CT cs bT) (AP : AlC K CP cs bP)
    (G__law_alone : HasE P w K mg base "_law_alone" "_law_e" 1 (spA K cs)) (G_sums : Has P w K mg base "sums" ["form", "years"] 13 (sp2 (sp_sumsX CT CP))) (D : DefAt K mg "_law_any" s__law_any ["_law_form_here", "_law_years"]) : Has P w K mg base "_law_any" ["_law_form_here", "_law_years"] 14 (sp2 sp_any) := by
  refine .mk2 D sc__law_any fun fa cdv A outer s0 H a b Q E hr h => ⟨_, (pss_cons (ps_try_as (i := 2) rfl rfl sc__law_any.nd rfl rfl ⟨rfl, by decide, .inl T_FormError.gC⟩ t_body (fun W pn xe tk _ => (pss_one (ps_expr (pe_ownS G_sums (hr.mono (by first | decide | omega)) (by rfl) (fun σ => passAt tk σ) (pa_cons (pv 0) (pa_cons (pv 1) pa_nil)))))) (fun a oe cls d pn hz hf => (pss_one (ps_ret (pe_ask G__law_alone (roomS hr (by first | decide | omega)) (oe := oe) (by exact List.mem_cons_self) (gAl_im hz hf) (by rfl) (pa_cons (pv 2) pa_nil))))))
    (pss_one (ps_ret pe_bl))), ?_⟩
  obtain ⟨F, y, yv, w', ok, hat, rfl, hy, l20, hw, q⟩ := h
  refine Fl.go_start (σ0 := [some _, some _, none]) rfl ?_
  walk_at "s"
  rcases hw with ⟨rfl, c⟩ | ⟨rfl, c, hb⟩
  · refine ⟨F, y, yv, ok, hat, rfl, hy, l20, .inl ⟨c, fun H1 e => was_yes e_TF fun ea hea => ?_⟩⟩
    walk_at "s"
    exact ⟨rfl, ⟨CT, bT, rfl, rfl, AT⟩, q _⟩
  · refine ⟨F, y, yv, ok, hat, rfl, hy, l20, .inr ⟨c, .inr ⟨hb, fun H1 e => was_yes e_PF fun ea hea => ?_⟩⟩⟩
    walk_at "s"
    exact ⟨rfl, ⟨CP, bP, rfl, rfl, AP⟩, q _⟩
abbrev s__law_refused : Stmt := topS 77
theorem sc__law_refused : FnScope ["_law_form_here", "_law_years", "_law_word"] ["_law_form_here", "_law_years", "_law_word"] (defScope s__law_refused) := ⟨rfl, rfl, rfl, by decide +kernel, rfl, by decide +kernel, by decide +kernel⟩
def sp_refu : Sp3 := fun a b c H Q _ => ∃ (F : Frm) (y : Addr) (yv : List V) (w : Str), F.Ok 40 ∧ At H F.d a ∧ b = .ref y ∧ H y = some (.lst yv) ∧ yv.length ≤ 20 ∧ RefW F H yv w ∧ c = .str w ∧ ∀ H', Q (.bl true) H'
theorem ok_law_refused (M : Mg mg) (G__law_tried : Has P w K mg base "_law_tried" ["_law_form_here", "_law_years", "_law_way"] 15 (sp3 sp_tried)) (G__law_any : Has P w K mg base "_law_any" ["_law_form_here", "_law_years"] 14 (sp2 sp_any)) (D : DefAt K mg "_law_refused" s__law_refused ["_law_form_here", "_law_years", "_law_word"]) : Has P w K mg base "_law_refused" ["_law_form_here", "_law_years", "_law_word"] 16 (sp3 sp_refu) := by
  refine .mk3 D sc__law_refused fun fa cdv A outer s0 H a b c Q E hr h => ⟨_, (pss_cons (ps_if (PW.pt (pw_or (pt_cmpR (k_ne K rfl hr) (pe_own G__law_tried (hr.mono (by first | decide | omega)) (by rfl) p_body (pa_cons (pv 0) (pa_cons (pv 1) (pa_cons pe_int pa_nil)))) (pv 2) (nomark _)) (pw_or1 (pt_cmpR (k_ne K rfl hr) (pe_own G__law_tried (hr.mono (by first | decide | omega)) (by rfl) p_body (pa_cons (pv 0) (pa_cons (pv 1) (pa_cons pe_int pa_nil)))) (pv 2) (nomark _))))) (pss_one (ps_ret pe_bl)) pss_nil)
    (pss_one (ps_ret (pe_own G__law_any (hr.mono (by first | decide | omega)) (by rfl) p_body (pa_cons (pv 0) (pa_cons (pv 1) pa_nil)))))), ?_⟩
  obtain ⟨F, y, yv, w', ok, hat, rfl, hy, l20, hw, rfl, q⟩ := h
  refine Fl.go_start (σ0 := [some _, some _, some _]) rfl ?_
  walk_at "s"
  refine ⟨F, y, yv, w', 0, ok, hat, rfl, hy, l20, hw, rfl, .inl rfl, fun H1 e1 => ?_⟩
  walk_at "s"
  rw [decide_eq_true rfl]
  have hy1 := e1 _ _ hy
  walk_at "s"
  refine ⟨F, y, yv, w', 1, ok, hat.le (Same.le e1), rfl, hy1, l20, hw.same e1, rfl, .inr rfl, fun H2 e2 => ?_⟩
  have e02 := L2.Same.trans e1 e2
  have hy2 := e02 _ _ hy
  walk_at "s"
  rw [decide_eq_true rfl]
  walk_at "s"
  exact ⟨F, y, yv, w', ok, hat.le (Same.le e02), rfl, hy2, l20, hw.same e02, q⟩
abbrev s__law_kinds : Stmt := topS 78
theorem sc__law_kinds : FnScope ["_law_found", "_law_pair", "_law_row_here", "_law_one"] ["_law_found"] (defScope s__law_kinds) := ⟨rfl, rfl, rfl, by decide +kernel, rfl, by decide +kernel, by decide +kernel⟩
def sp_kinds : Sp1 := fun a H Q _ => ∃ (p : Addr) (vs : List V) (es : List Ent), a = .ref p ∧ H p = some (.lst vs) ∧ AtAll H (es.map entD) vs ∧ es.length ≤ 256 ∧ (∀ e ∈ es, e.1.length ≤ 20 ∧ ∀ r ∈ e.1, r.length ≤ 8) ∧ ∀ H', Same H H' → Q (.bl true) H'
theorem ok_law_kinds (M : Mg mg) (G__law_whole : Has P w K mg base "_law_whole" ["_law_found"] 1 (sp1 sp_whole)) (D : DefAt K mg "_law_kinds" s__law_kinds ["_law_found"]) : Has P w K mg base "_law_kinds" ["_law_found"] 2 (sp1 sp_kinds) := by
  refine .mk1 D sc__law_kinds fun fa cdv A outer s0 H a Q E hr h => ⟨_, (pss_cons (ps_for own_p (by rfl) (k_pi K rfl (pv 0)) (pg_name (i := 1) sc__law_kinds.nd rfl (by first | exact Or.inl rfl | exact Or.inr rfl)) (pss_cons (ps_if (PW.pt (pw_or (pt_not (pt_val (pe_callB (k_isi K rfl) (by rfl) M.isinstance (by decide +kernel) (pa_cons (pv 1) (pa_cons (pe_bltn (v := .ty "tuple") (by rfl) M.tuple (by decide +kernel) rfl) pa_nil))))) (pw_or (pt_not (pt_val (pe_callB (k_isi K rfl) (by rfl) M.isinstance (by decide +kernel) (pa_cons (pe_ix (k_ix K rfl) (pv 1) pe_int (fun _ _ => rfl)) (pa_cons (pe_bltn (v := .ty "tuple") (by rfl) M.tuple (by decide +kernel) rfl) pa_nil))))) (pw_or1 (pt_not (pt_val (pe_own G__law_whole (hr.mono (by first | decide | omega)) (by rfl) p_body (pa_cons (pe_ix (k_ix K rfl) (pv 1) pe_int (fun _ _ => rfl)) pa_nil)))))))) (pss_one (ps_ret pe_bl)) pss_nil)
    (pss_one (ps_for own_p (by rfl) (k_pi K rfl (pe_ix (k_ix K rfl) (pv 1) pe_int (fun _ _ => rfl))) (pg_name (i := 2) sc__law_kinds.nd rfl (by first | exact Or.inl rfl | exact Or.inr rfl)) (pss_one (ps_if (PW.pt (pw_or (pt_not (pt_val (pe_callB (k_isi K rfl) (by rfl) M.isinstance (by decide +kernel) (pa_cons (pv 2) (pa_cons (pe_bltn (v := .ty "tuple") (by rfl) M.tuple (by decide +kernel) rfl) pa_nil))))) (pw_or1 (pt_cmpR (k_neE K rfl hr) (pe_lc (own := [("_law_one", 3)]) (g := gName 3) (by rfl) sc__law_kinds.nd (k_pi K rfl (pv 2)) (blkOk_by (N := ["_law_found", "_law_pair", "_law_row_here", "_law_one"]) (sc := (defScope s__law_kinds)) (own := [("_law_one", 3)]) (by decide +kernel)) (fun _ _ _ _ _ => (pg_name (i := 3) sc__law_kinds.nd rfl (by first | exact Or.inl rfl | exact Or.inr rfl))) (fun _ _ _ _ _ => (pts_one (pt_not (pt_val (pe_callB (k_isi K rfl) (by rfl) M.isinstance (by decide +kernel) (pa_cons (pv 3) (pa_cons (pe_bltn (v := .ty "bool") (by rfl) M.bool (by decide +kernel) rfl) pa_nil))))))) (fun _ _ _ _ _ => (pv 3))) (pe_lst pa_nil) (nomark _))))) (pss_one (ps_ret pe_bl)) pss_nil))))))
    (pss_one (ps_ret pe_bl))), ?_⟩
  obtain ⟨p, vs, es, rfl, hp, hes, l256, lens, q⟩ := h
  refine Fl.go_start (σ0 := [some _, none, none, none]) rfl ?_
  walk_at "s"
  refine for_lst (fun i σ' H' => (∃ y1 y2 : Option V, σ' = [some (.ref p), y1, y2, none]) ∧ Same H H') hp ⟨⟨none, none, rfl⟩, .refl _⟩ (fun i σ' H' _ ⟨_, e⟩ => e _ _ hp) ?_ ?_
  · rintro i x σ' H1 ex ⟨⟨y1, y2, rfl⟩, sm⟩
    obtain ⟨d, ed, hd⟩ := hes.ix ex
    obtain ⟨e, ee, rfl⟩ : ∃ e, es[i]? = some e ∧ d = entD e := by
      rw [List.getElem?_map] at ed
      cases e : es[i]? with
      | none => rw [e] at ed; cases ed
      | some t => rw [e] at ed; exact ⟨t, rfl, (Option.some.inj ed).symm⟩
    have le := lens e (List.mem_of_getElem? ee)
    have hd1 := hd.le (Same.le sm)
    obtain ⟨te, ue, rfl, hte, u0, r0, rfl, ⟨tt, us, rfl, htt, hus⟩, u1, r1, rfl, h1, h2⟩ := hd1
    cases (show u1 = .int e.2 from h1)
    cases (show r1 = [] from h2)
    have hatt : At H1 (.tuple (e.1.map blD)) (.ref tt) := at_tup htt hus
    have hate : At H1 (entD e) (.ref te) := at_tup hte (AtAll.cons hatt (AtAll.cons rfl AtAll.nil))
    have hate' : At H1 (.tuple [.tuple (e.1.map blD), .int e.2]) (.ref te) := hate
    walk_at "s"
    refine for_tpl (fun j σ' H' => (∃ y2 : Option V, σ' = [some (.ref p), some (.ref te), y2, none]) ∧ Same H1 H') htt ⟨⟨y2, rfl⟩, .refl _⟩ (fun j σ' H' _ ⟨_, e⟩ => e _ _ htt) ?_ ?_
    · rintro j x σ' H2 ex2 ⟨⟨y2', rfl⟩, sm2⟩
      obtain ⟨d, ed2, hd⟩ := hus.ix ex2
      obtain ⟨r, er, rfl⟩ : ∃ r, e.1[j]? = some r ∧ d = blD r := by
        rw [List.getElem?_map] at ed2
        cases e2 : e.1[j]? with
        | none => rw [e2] at ed2; cases ed2
        | some t => rw [e2] at ed2; exact ⟨t, rfl, (Option.some.inj ed2).symm⟩
      have hd2 := hd.le (Same.le sm2)
      obtain ⟨tr, ws, rfl, htr, hws⟩ := hd2
      have hatr : At H2 (.tuple (r.map PyData.bool)) (.ref tr) := at_tup htr hws
      walk_at "s"
      refine lc_tpl (fun D i H' => H' D = some (.lst []) ∧ Same H2 H') htr (fun D hD => ⟨upd_same, by walk_at "sm"⟩) (fun D i H' _ _ ⟨_, e⟩ => e _ _ htr) (fun D i x H' hD ex3 ⟨hDD, sm3⟩ => ?_) (fun D H3 hD ⟨hDD, sm3⟩ => ?_)
      · obtain ⟨d, ed3, hd3⟩ := hws.ix ex3
        obtain ⟨bb, _, rfl⟩ := List.mem_map.mp (List.mem_of_getElem? ed3)
        cases (show x = .bl bb from hd3)
        refine ⟨rfl, ?_⟩
        walk_at "s"
        exact sm3
      · walk_at "s"
        rename_i pe hpe
        refine ne_eI (ns := []) upd_same (by rw [upd_ne (ne_of_none hDD hpe)]; exact hDD) ?_
        walk_at "s"
        exact L2.Same.trans sm2 (L2.Same.trans sm3 (Same.new (.refl _) hpe))
    · rintro σ' H2 ⟨⟨y2', rfl⟩, sm2⟩
      exact ⟨⟨_, _, rfl⟩, L2.Same.trans sm sm2⟩
  · rintro σ' H1 ⟨⟨y1, y2, rfl⟩, sm⟩
    walk_at "s"
    exact q _ sm
end
end Fl

-- after: va4.tpl r3.tpl
namespace Fl
open PySem PySem.Spec PyProof.Rows L2 RZ
/-! ### papers, takings that are drawn -/
section
variable {P : Program} {w : World} {K : PySem.W.Frag} {mg : Str → Option Value} {base : Heap}
abbrev s__law_papers : Stmt := topS 67
theorem sc__law_papers : FnScope ["_law_state", "_law_words_here", "_law_found", "_law_word", "_law_pair"] ["_law_state", "_law_words_here"] (defScope s__law_papers) := ⟨rfl, rfl, rfl, by decide +kernel, rfl, by decide +kernel, by decide +kernel⟩
def sp_law_papers : Sp2 := fun a b H Q _ => ∃ (st W : Addr) (x0 : Int) (ws : List Str), a = .ref st ∧ H st = some (.lst [.int x0]) ∧ b = .ref W ∧ W ≠ st ∧ H W = some (.lst (ws.map V.str)) ∧ (∀ s ∈ ws, WdT s) ∧ ws.length ≤ 10 ∧
  ∀ p H' vs ps, Gs st H H' → H p = none → H' p = some (.lst vs) → AtAll H' (ps.map prD) vs → PapOk ps → ps.length ≤ ws.length → Q (.ref p) H'
theorem ok_law_papers (M : Mg mg) (G__law_next : Has P w K mg base "_law_next" ["_law_state", "_law_size"] 1 (sp2 sp_next)) (G__law_number : Has P w K mg base "_law_number" ["_law_state"] 2 (sp1 sp_number)) (D : DefAt K mg "_law_papers" s__law_papers ["_law_state", "_law_words_here"]) :
    Has P w K mg base "_law_papers" ["_law_state", "_law_words_here"] 3 (sp2 sp_law_papers) := by
  refine .mk2 D sc__law_papers fun fa cdv A outer s0 H a b Q E hr h => ⟨_, (pss_cons (ps_set (i := 2) sc__law_papers.nd rfl (by first | exact Or.inl rfl | exact Or.inr rfl) (pe_lst pa_nil))
    (pss_cons (ps_for own_p (by rfl) (k_pi K rfl (pv 1)) (pg_name (i := 3) sc__law_papers.nd rfl (by first | exact Or.inl rfl | exact Or.inr rfl)) (pss_one (ps_if (PW.pt (pw_and (pt_cmpR o_gt (pe_own G__law_next (hr.mono (by first | decide | omega)) (by rfl) p_body (pa_cons (pv 0) (pa_cons pe_int pa_nil))) pe_int (nomark _)) (pw_and1 (pt_cmpR (k_notin K rfl hr) (pv 3) (pe_lc (own := [("_law_pair", 4)]) (g := gName 4) (by rfl) sc__law_papers.nd (k_pi K rfl (pv 2)) (blkOk_by (N := ["_law_state", "_law_words_here", "_law_found", "_law_word", "_law_pair"]) (sc := (defScope s__law_papers)) (own := [("_law_pair", 4)]) (by decide +kernel)) (fun _ _ _ _ _ => (pg_name (i := 4) sc__law_papers.nd rfl (by first | exact Or.inl rfl | exact Or.inr rfl))) (fun _ _ _ _ _ => pts_nil) (fun _ _ _ _ _ => (pe_ix (k_ix K rfl) (pv 4) pe_int (fun _ _ => rfl)))) (by rfl))))) (pss_one (ps_expr (k_bm K rfl PySem.F.plainAttrs_list PySem.F.slot_list_append PySem.F.type_list_append mt_append (pv 2) (pa_cons (pe_tup (pa_cons (pv 3) (pa_cons (pe_own G__law_number (hr.mono (by first | decide | omega)) (by rfl) p_body (pa_cons (pv 0) pa_nil)) pa_nil))) pa_nil)))) pss_nil)))
    (pss_one (ps_ret (pv 2))))), ?_⟩
  obtain ⟨st, W, x0, ws, rfl, hst, rfl, nW, hW, hwd, l8, q⟩ := h
  refine Fl.go_start (σ0 := [some _, some _, none, none, none]) rfl ?_
  walk_at "s"
  rename_i p0 hp0
  have nps : p0 ≠ st := fun e => by rw [e, hst] at hp0; cases hp0
  refine for_lst (fun i σ' H' => ∃ (y3 : Option V) (ps : List (Str × Int)) (vs : List V), σ' = [some (.ref st), some (.ref W), some (.ref p0), y3, none] ∧ (∃ x, H' st = some (.lst [.int x])) ∧ H' p0 = some (.lst vs) ∧ AtAll H' (ps.map prD) vs ∧ PapOk ps ∧ ps.length ≤ i ∧ Gs st H H')
    (by walk_at "hp") ⟨none, [], [], rfl, ⟨x0, by walk_at "hp"⟩, upd_same, rfl, ⟨by simp, by simp, by simp, by simp⟩, by simp, by walk_at "gs"⟩ (fun i σ' H' _ ⟨_, _, _, _, _, _, _, _, _, gs⟩ => gs.keep _ _ nW hW) ?_ ?_
  · rintro i x σ' H1 ex ⟨y3, ps, vs, rfl, ⟨x1, hx1⟩, hp1, hat, pok, lp, gs⟩
    obtain ⟨s, es, rfl⟩ : ∃ s, ws[i]? = some s ∧ x = .str s := by
      rw [List.getElem?_map] at ex
      cases e : ws[i]? with
      | none => rw [e] at ex; cases ex
      | some y => rw [e] at ex; exact ⟨y, rfl, (Option.some.inj ex).symm⟩
    have il := (List.getElem?_eq_some_iff.mp es).1
    have wd := hwd s (List.mem_of_getElem? es)
    walk_at "s"
    rename_i yy rr hr0 hr1
    have g2 : Gs st H1 (upd H1 st (.lst [.int yy])) := by walk_at "gs"
    have hx2 : (upd H1 st (.lst [.int yy])) st = some (.lst [.int yy]) := upd_same
    generalize upd H1 st (.lst [.int yy]) = H2 at *
    have gs2 := gs.trans g2
    have hp2 := g2.keep _ _ nps hp1
    have hat2 := hat.le (g2.le hx1)
    have lv := hat2.length
    rw [List.length_map] at lv
    have skip : ∀ H3, Same H2 H3 → ∃ (y3' : Option V) (ps : List (Str × Int)) (vs : List V), [some (V.ref st), some (.ref W), some (.ref p0), some (.str s), none] = [some (V.ref st), some (.ref W), some (.ref p0), y3', none] ∧ (∃ x, H3 st = some (.lst [.int x])) ∧ H3 p0 = some (.lst vs) ∧ AtAll H3 (ps.map prD) vs ∧ PapOk ps ∧ ps.length ≤ i + 1 ∧ Gs st H H3 :=
      fun H3 sm => ⟨_, ps, vs, rfl, ⟨_, sm _ _ hx2⟩, sm _ _ hp2, hat2.le (Same.le sm), pok, by omega, by walk_at "gs"⟩
    refine if_d (fun c => ?_) (fun c => ?_)
    · walk_at "s"
      refine lc_seqL (ps.map fun p => V.str p.1) hp2 (by rw [List.length_map, lv]) (by rw [List.length_map]; omega) (fun _ => rfl) (fun j x y H' ex2 ey sm R hR => ?_) (fun D1 H3 hD1 sm3 eD1 => ?_)
      · obtain ⟨d0, ed, hx⟩ := hat2.ix ex2
        obtain ⟨pr, ep, rfl⟩ : ∃ pr, ps[j]? = some pr ∧ d0 = prD pr := by
          rw [List.getElem?_map] at ed
          cases e : ps[j]? with
          | none => rw [e] at ed; cases ed
          | some t => rw [e] at ed; exact ⟨t, rfl, (Option.some.inj ed).symm⟩
        have : y = .str pr.1 := by
          rw [List.getElem?_map, ep] at ey
          exact (Option.some.inj ey).symm
        subst this
        obtain ⟨t, u, rfl, ht, hu⟩ := At.t2 hx
        have ht' := sm _ _ ht
        walk_at "s"
        exact hR _ (.refl _)
      walk_at "s"
      have okv : ∀ u ∈ ps.map fun p => V.str p.1, okK true u := fun u hu => by
        obtain ⟨p, _, rfl⟩ := List.mem_map.mp hu
        exact ⟨_, rfl⟩
      refine ⟨List.all_eq_true.mpr fun u hu => flat_k (okv u hu), ?_⟩
      rw [inV_k (b := true) ⟨s, rfl⟩ okv]
      have e1 : decide (V.str s ∈ ps.map fun p => V.str p.1) = decide (s ∈ ps.map (·.1)) := by
        congr 1
        refine propext ⟨fun h => ?_, fun h => ?_⟩
        · obtain ⟨p, hp, e⟩ := List.mem_map.mp h
          exact List.mem_map.mpr ⟨p, hp, V.str.inj e⟩
        · obtain ⟨p, hp, e⟩ := List.mem_map.mp h
          exact List.mem_map.mpr ⟨p, hp, congrArg V.str e⟩
      rw [e1]
      refine ⟨_, rfl, ?_⟩
      refine if_b (fun c2 => ?_) (fun c2 => ?_)
      · have no : s ∉ ps.map (·.1) := by simpa using c2
        have hx3 := sm3 _ _ hx2
        have hp3 := sm3 _ _ hp2
        have hat3 := hat2.le (Same.le sm3)
        walk_at "s"
        rename_i z H4 hz1 hz2 g4 x4 hx4 t5 ht5
        have hp4 := g4.keep _ _ nps hp3
        have n5 : t5 ≠ p0 := fun e => by rw [e, hp4] at ht5; cases ht5
        have hat4 := hat3.le (g4.le hx3)
        have lt : LeT H4 (upd (upd H4 t5 (.tup [.str s, .int z])) p0 (.lst (vs ++ [.ref t5]))) := LeT.put1 (by rw [upd_ne n5.symm]; exact hp4) (LeT.new1 ht5 (.refl _))
        have g24 : Gs st H H4 := (show Gs st H H3 by walk_at "gs").trans g4
        have nst5 : st ≠ t5 := fun e => by rw [← e, hx4] at ht5; cases ht5
        refine ⟨_, ps ++ [(s, z)], vs ++ [.ref t5], rfl, ⟨x4, by rw [upd_ne nps.symm, upd_ne nst5]; exact hx4⟩, upd_same, ?_, ?_, by rw [List.length_append, List.length_singleton]; omega, ?_⟩
        · rw [List.map_append]
          exact (hat4.leT lt (prs_tupO ps)).append (AtAll.one (at2 (by rw [upd_ne n5]; exact upd_same) rfl rfl))
        · refine ⟨fun p hp => ?_, fun p hp => ?_, ?_, by rw [List.length_append, List.length_singleton]; omega⟩
          · rcases List.mem_append.mp hp with h | h
            · exact pok.wd p h
            · rw [List.mem_singleton.mp h]; exact wd
          · rcases List.mem_append.mp hp with h | h
            · exact pok.num p h
            · rw [List.mem_singleton.mp h]; exact ⟨hz1, hz2⟩
          · rw [List.map_append]
            exact List.nodup_append.mpr ⟨pok.nd, by simp, fun a ha b hb => by
              have : b = s := by simpa using hb
              rw [this]
              rintro rfl
              exact no ha⟩
        · walk_at "gs"
      · walk_at "s"
        exact skip _ sm3
    · walk_at "s"
      exact skip _ (.refl _)
  · rintro σ' H1 ⟨y3, ps, vs, rfl, ⟨x1, hx1⟩, hp1, hat, pok, lp, gs⟩
    rw [List.length_map] at lp
    walk_at "s"
    exact q p0 H1 vs ps gs hp0 hp1 hat pok (by omega)
abbrev s__law_taken : Stmt := topS 68
theorem sc__law_taken : FnScope ["_law_state", "_law_many", "_law_k"] ["_law_state", "_law_many"] (defScope s__law_taken) := ⟨rfl, rfl, rfl, by decide +kernel, rfl, by decide +kernel, by decide +kernel⟩
def sp_law_taken : Sp2 := fun a b H Q _ => ∃ (st : Addr) (x0 : Int) (n : Nat), a = .ref st ∧ H st = some (.lst [.int x0]) ∧ b = .int n ∧ n ≤ 8 ∧
  ∀ p H' (bs : List Bool), Gs st H H' → H p = none → H' p = some (.lst (bs.map V.bl)) → bs.length = n → Q (.ref p) H'
theorem ok_law_taken (M : Mg mg) (G__law_next : Has P w K mg base "_law_next" ["_law_state", "_law_size"] 1 (sp2 sp_next)) (D : DefAt K mg "_law_taken" s__law_taken ["_law_state", "_law_many"]) :
    Has P w K mg base "_law_taken" ["_law_state", "_law_many"] 2 (sp2 sp_law_taken) := by
  refine .mk2 D sc__law_taken fun fa cdv A outer s0 H a b Q E hr h => ⟨_, (pss_one (ps_ret (pe_lc (own := [("_law_k", 2)]) (g := gName 2) (by rfl) sc__law_taken.nd (pi_range1 (by rfl) M.range (pa_cons (pv 1) pa_nil)) (blkOk_by (N := ["_law_state", "_law_many", "_law_k"]) (sc := (defScope s__law_taken)) (own := [("_law_k", 2)]) (by decide +kernel)) (fun _ _ _ _ _ => (pg_name (i := 2) sc__law_taken.nd rfl (by first | exact Or.inl rfl | exact Or.inr rfl))) (fun _ _ _ _ _ => pts_nil) (fun _ _ _ _ _ => (pe_cmpR (k_eq K rfl hr) (pe_own G__law_next (hr.mono (by first | decide | omega)) (by rfl) passL (pa_cons (pv 0) (pa_cons pe_int pa_nil))) pe_int (nomark _)))))), ?_⟩
  obtain ⟨st, x0, n, rfl, hst, rfl, n8, q⟩ := h
  refine Fl.go_start (σ0 := [some _, some _, none]) rfl ?_
  walk_at "s"
  rw [Int.toNat_natCast]
  refine lc_rng (fun D i H' => ∃ bs : List Bool, bs.length = i ∧ H' D = some (.lst (bs.map V.bl)) ∧ Gs st H H' ∧ ∃ x, H' st = some (.lst [.int x])) (fun D hD => ⟨[], rfl, upd_same, by walk_at "gs", x0, by walk_at "hp"⟩) (fun D i H' hD hi ⟨bs, lb, hb, gs, x, hx⟩ => ?_) fun D H' hD ⟨bs, lb, hb, gs, x, hx⟩ => ?_
  · have nD : D ≠ st := fun e => by rw [e, hst] at hD; cases hD
    refine ⟨rfl, ?_⟩
    refine Step.h (n := if true = true then _ else _) ?_
    rw [if_pos rfl]
    walk_at "s"
    rename_i yy rr h0 h1
    refine ⟨bs ++ [decide (rr = 1)], by rw [List.length_append, lb]; rfl, by rw [upd_same]; simp, by walk_at "gs", yy, by walk_at "hp"⟩
  · walk_at "s"
    exact q D H' bs gs hD hb lb
end
end Fl

-- after: k09f.tpl pt.tpl
namespace Fl
open PySem PySem.Spec PyProof.Rows L2 RZ
def rich : Rule := .choo 0 (.choo 1 (.num 5) (.num 3)) (.num 3)
def Frm.rich (F : Frm) : Frm := { F with rs := F.rs.set F.owed Fl.rich }
theorem Frm.rich_ok {F : Frm} {m : Nat} (ok : F.Ok m) (c : 1 < F.C) : F.rich.Ok m := by
  have eg : F.rich.g = F.g := by
    unfold Frm.rich Frm.g
    simp
  refine ⟨fun r hr => ?_, ?_, by show 1 ≤ (F.rs.set _ _).length; rw [List.length_set]; exact ok.n1, by show (F.rs.set _ _).length ≤ m; rw [List.length_set]; exact ok.n2, ok.t5, ok.c8, by show F.owed < (F.rs.set _ _).length; rw [List.length_set]; exact ok.ow, ok.tb, ok.w1, ok.w8, ok.wd⟩
  · rw [eg]
    rcases List.mem_or_eq_of_mem_set (show r ∈ F.rs.set F.owed Fl.rich from hr) with h | rfl
    · exact ok.good r h
    · have h0 : (0 : Int) < F.C := by omega
      have h1 : (1 : Int) < F.C := by omega
      exact ⟨⟨Int.le_refl _, h0⟩, ⟨⟨by decide, h1⟩, ⟨by decide, by decide⟩, ⟨by decide, by decide⟩⟩, ⟨by decide, by decide⟩⟩
  · obtain ⟨rk, hk⟩ := ok.acy
    refine ⟨rk, fun i r k e hkk => ?_⟩
    have e' : (F.rs.set F.owed Fl.rich)[i]? = some r := e
    rcases get_set e' with ⟨_, rfl⟩ | ⟨_, h⟩
    · simp [Fl.rich, Rule.lines] at hkk
    · exact hk i r k h hkk
theorem entD_depth (e : Ent) : (entD e).depth ≤ 4 := by
  have h1 : ∀ d ∈ e.1.map blD, d.depth ≤ 1 := fun d hd => by
    obtain ⟨r, _, rfl⟩ := List.mem_map.mp hd
    have : PyData.depthAll (r.map PyData.bool) = 0 := depth_flat _ fun d hd => by
      obtain ⟨b, _, rfl⟩ := List.mem_map.mp hd
      rfl
    unfold blD
    rw [PyData.depth, this]
    exact Nat.le_refl _
  have h2 := depthAll_max h1
  unfold entD
  simp only [PyData.depth, PyData.depthAll]
  omega
theorem entD_lay (e : Ent) : (entD e).canLay0 = true := by
  have h1 : PyData.canLayAll0 (e.1.map blD) = true := lay_all _ fun d hd => by
    obtain ⟨r, _, rfl⟩ := List.mem_map.mp hd
    unfold blD
    rw [PyData.canLay0]
    exact lay_all _ fun d hd => by
      obtain ⟨b, _, rfl⟩ := List.mem_map.mp hd
      rfl
  unfold entD
  simp [PyData.canLay0, PyData.canLayAll0, h1]
theorem shaped_ents (es : List Ent) : SeqAt.shaped (.list (es.map entD)) = true := shaped_lst (n := 4) (fun d hd => by
  obtain ⟨e, _, rfl⟩ := List.mem_map.mp hd
  exact entD_depth e) (fun d hd => by
  obtain ⟨e, _, rfl⟩ := List.mem_map.mp hd
  exact entD_lay e) (by decide)
theorem shaped_ent (e : Ent) : SeqAt.shaped (entD e) = true := by
  have h := entD_depth e
  simp only [SeqAt.shaped, entD_lay e, Bool.true_and, decide_eq_true_eq]
  omega
theorem bst_mem (e0 : Ent) : ∀ es : List Ent, bst e0 es = e0 ∨ bst e0 es ∈ es := by
  intro es
  unfold bst
  induction es generalizing e0 with
  | nil => exact .inl rfl
  | cons e r ih =>
    rw [List.foldl_cons]
    rcases ih (if e.2 < e0.2 then e else e0) with h | h
    · rw [h]
      split
      · exact .inr (List.mem_cons_self ..)
      · exact .inl rfl
    · exact .inr (List.mem_cons_of_mem _ h)
theorem ents_lens {F : Frm} {pss : List (List (Str × Int))} {n : Nat} (c8 : F.C ≤ 8) (n20 : n ≤ 20) : ∀ e ∈ F.ents pss n, e.1.length ≤ 20 ∧ ∀ r ∈ e.1, r.length ≤ 8 := fun e he => by
  unfold Frm.ents at he
  obtain ⟨r, hr, rfl⟩ := List.mem_map.mp he
  refine ⟨by show (byY F.C n r).length ≤ 20; rw [byY_len]; exact n20, fun x hx => ?_⟩
  have := byY_row (binR_row hr) hx
  omega
theorem ents_len {F : Frm} {pss : List (List (Str × Int))} {n : Nat} (l8 : F.C * n ≤ 8) : (F.ents pss n).length ≤ 256 := by
  unfold Frm.ents
  rw [List.length_map, binR_len]
  exact Nat.le_trans (Nat.pow_le_pow_right (by decide) l8) (by decide)
section
variable {P : Program} {w : World} {K : PySem.W.Frag} {mg : Str → Option Value} {base : Heap}
abbrev s_law : Stmt := topS 79
theorem sc_law : FnScope ["_law_script", "_law_parts", "_law_state", "_law_count", "_law_choices_here", "_law_lines", "_law_form_here", "_law_years", "_law_due", "_law_found", "_law_best", "_law_pair", "_law_told", "_law_year"] ["_law_script"] (defScope s_law) := ⟨rfl, rfl, rfl, by decide +kernel, rfl, by decide +kernel, by decide +kernel⟩
def sp_law (K : PySem.W.Frag) : Sp1 := fun a H Q _ => ∃ (sc : Addr) (ns : List Int), a = .ref sc ∧ Scr K H sc ns ∧ ∀ H', Q (.bl true) H'
theorem ok_law {CT CP : Addr} (M : Mg mg) (G__law_cell_at : Has P w K mg base "_law_cell_at" ["_law_script", "_law_k"] 1 (sp2 (sp_cell_at K))) (G__law_mixed : Has P w K mg base "_law_mixed" ["_law_cell", "_law_k"] 1 (sp2 sp_mixed)) (G__law_next : Has P w K mg base "_law_next" ["_law_state", "_law_size"] 1 (sp2 sp_next))
    (G__law_form : Has P w K mg base "_law_form" ["_law_script", "_law_most"] 12 (sp2 (sp_form K))) (G__law_papers : Has P w K mg base "_law_papers" ["_law_state", "_law_words_here"] 3 (sp2 sp_law_papers)) (G__law_refused : Has P w K mg base "_law_refused" ["_law_form_here", "_law_years", "_law_word"] 16 (sp3 sp_refu)) (G__law_all : Has P w K mg base "_law_all" ["_law_form_here", "_law_years"] 12 (sp2 sp_lall))
    (G__law_kinds : Has P w K mg base "_law_kinds" ["_law_found"] 2 (sp1 sp_kinds)) (G_form_of : Has P w K mg base "form_of" ["lines", "tables", "choices", "owed"] 5 (sp4 sp_form_of)) (G_sums : Has P w K mg base "sums" ["form", "years"] 13 (sp2 (sp_sumsX CT CP))) (G_least : Has P w K mg base "least" ["form", "years"] 14 (sp2 (sp_leastX CT CP)))
    (f : Addr) (cdv : Value) (A : Around) (outer : List Env) (s : Shared) (H : Hp) (a : V) (Q : VK) (E : XK) (hr : RoomOf 16 "law" s_law f cdv A s) (h : sp_law K a H Q E) : Body P w K mg base ["_law_script", "_law_parts", "_law_state", "_law_count", "_law_choices_here", "_law_lines", "_law_form_here", "_law_years", "_law_due", "_law_found", "_law_best", "_law_pair", "_law_told", "_law_year"] "law" s_law f cdv A outer s H [a] Q E := by
  refine ⟨_, (pss_cons (ps_set (i := 1) sc_law.nd rfl (by first | exact Or.inl rfl | exact Or.inr rfl) (pe_own G__law_form (hr.mono (by first | decide | omega)) (by rfl) p_body (pa_cons (pv 0) (pa_cons pe_int pa_nil))))
    (pss_cons (ps_set (i := 2) sc_law.nd rfl (by first | exact Or.inl rfl | exact Or.inr rfl) (pe_lst (pa_cons (pe_own G__law_mixed (hr.mono (by first | decide | omega)) (by rfl) p_body (pa_cons (pe_own G__law_cell_at (hr.mono (by first | decide | omega)) (by rfl) p_body (pa_cons (pv 0) (pa_cons pe_int pa_nil))) (pa_cons pe_int pa_nil))) pa_nil)))
    (pss_cons (ps_set (i := 3) sc_law.nd rfl (by first | exact Or.inl rfl | exact Or.inr rfl) (pe_own G__law_next (hr.mono (by first | decide | omega)) (by rfl) p_body (pa_cons (pv 2) (pa_cons pe_int pa_nil))))
    (pss_cons (ps_set (i := 4) sc_law.nd rfl (by first | exact Or.inl rfl | exact Or.inr rfl) (pe_ix (k_ix K rfl) (pv 1) pe_int (fun _ _ => rfl)))
    (pss_meet (ps_if (pt_cmpR (k_eq K rfl hr) (pe_own G__law_next (hr.mono (by first | decide | omega)) (by rfl) p_body (pa_cons (pv 2) (pa_cons pe_int pa_nil))) pe_int (nomark _)) (pss_one (ps_set (i := 3) sc_law.nd rfl (by first | exact Or.inl rfl | exact Or.inr rfl) (pe_op (k_add K rfl) pe_int (pe_op o_div pe_int (pe_callB (c_max2 rfl) (by rfl) M.max (by decide +kernel) (pa_cons pe_int (pa_cons (pv 4) pa_nil))))))) (pss_one (ps_if (pt_cmpR o_gt (pe_op o_mul (pv 4) (pv 3)) (pe_op (k_add K rfl) pe_int (pe_op o_mul pe_int (pe_callTy c_int (by rfl) M.int (by decide +kernel) (pa_cons (pe_cmpR (k_eq K rfl hr) (pe_own G__law_next (hr.mono (by first | decide | omega)) (by rfl) p_body (pa_cons (pv 2) (pa_cons pe_int pa_nil))) pe_int (nomark _)) pa_nil)))) (nomark _)) (pss_one (ps_set (i := 3) sc_law.nd rfl (by first | exact Or.inl rfl | exact Or.inr rfl) (pe_op o_div pe_int (pv 4)))) pss_nil)))
    (pss_cons (ps_set (i := 5) sc_law.nd rfl (by first | exact Or.inl rfl | exact Or.inr rfl) (pe_ix (k_ix K rfl) (pv 1) pe_int (fun _ _ => rfl)))
    (pss_meet (ps_if (PW.pt (pw_and (pt_cmpR o_gt (pv 4) pe_int (nomark _)) (pw_and1 (pt_cmpR (k_eq K rfl hr) (pe_own G__law_next (hr.mono (by first | decide | omega)) (by rfl) p_body (pa_cons (pv 2) (pa_cons pe_int pa_nil))) pe_int (nomark _))))) (pss_one (ps_asg (pe_tup (pa_cons pe_str (pa_cons pe_int (pa_cons (pe_tup (pa_cons pe_str (pa_cons pe_int (pa_cons (pe_tup (pa_cons pe_str (pa_cons pe_int pa_nil))) (pa_cons (pe_tup (pa_cons pe_str (pa_cons pe_int pa_nil))) pa_nil))))) (pa_cons (pe_tup (pa_cons pe_str (pa_cons pe_int pa_nil))) pa_nil))))) (pg_sub (pv 5) (pe_ix (k_ix K rfl) (pv 1) pe_int (fun _ _ => rfl)) set_list))) pss_nil)
    (pss_cons (ps_set (i := 6) sc_law.nd rfl (by first | exact Or.inl rfl | exact Or.inr rfl) (pe_own G_form_of (hr.mono (by first | decide | omega)) (by rfl) p_body (pa_cons (pv 5) (pa_cons (pe_ix (k_ix K rfl) (pv 1) pe_int (fun _ _ => rfl)) (pa_cons (pv 4) (pa_cons (pe_ix (k_ix K rfl) (pv 1) pe_int (fun _ _ => rfl)) pa_nil))))))
    (pss_cons (ps_setLc (i := 7) (own := [("_law_year", 13)]) (g := gName 13) (by rfl) sc_law.nd rfl rfl (sw_true rfl rfl rfl (by decide +kernel)) (pi_range1 (by rfl) M.range (pa_cons (pv 3) pa_nil)) (blkOk_by (N := ["_law_script", "_law_parts", "_law_state", "_law_count", "_law_choices_here", "_law_lines", "_law_form_here", "_law_years", "_law_due", "_law_found", "_law_best", "_law_pair", "_law_told", "_law_year"]) (sc := (defScope s_law)) (own := [("_law_year", 13)]) (by decide +kernel)) (fun _ _ _ _ _ => (pg_name (i := 13) sc_law.nd rfl (by first | exact Or.inl rfl | exact Or.inr rfl))) (fun _ _ _ _ _ => pts_nil) (fun _ _ _ _ _ => (pe_own G__law_papers (hr.mono (by first | decide | omega)) (by rfl) passL (pa_cons (pv 2) (pa_cons (pe_ix (k_ix K rfl) (pv 1) pe_int (fun _ _ => rfl)) pa_nil)))))
    (pss_meet (ps_if (PW.pt (pw_and (pt_cmpR (k_eq K rfl hr) (pe_own G__law_next (hr.mono (by first | decide | omega)) (by rfl) p_body (pa_cons (pv 2) (pa_cons pe_int pa_nil))) pe_int (nomark _)) (pw_and1 (pt_cmpR o_gt (pv 3) pe_int (nomark _))))) (pss_cons (ps_asg (pe_lst (pa_cons (pe_tup (pa_cons pe_str (pa_cons pe_int pa_nil))) pa_nil)) (pg_sub (pv 7) (pe_op o_sub (pv 3) pe_int) set_list))
    (pss_one (ps_ret (pe_own G__law_refused (hr.mono (by first | decide | omega)) (by rfl) p_body (pa_cons (pv 6) (pa_cons (pv 7) (pa_cons (pe_ix (k_ix K rfl) (pe_lst (pa_cons pe_str (pa_cons pe_str pa_nil))) (pe_callTy c_int (by rfl) M.int (by decide +kernel) (pa_cons (pe_cmpR o_gt (pe_op o_mul (pv 4) (pv 3)) pe_int (nomark _)) pa_nil)) (fun _ _ => rfl)) pa_nil))))))) pss_nil)
    (pss_cons (ps_if (pt_cmpR o_gt (pe_op o_mul (pv 4) (pv 3)) pe_int (nomark _)) (pss_one (ps_ret (pe_own G__law_refused (hr.mono (by first | decide | omega)) (by rfl) p_body (pa_cons (pv 6) (pa_cons (pv 7) (pa_cons pe_str pa_nil)))))) pss_nil)
    (pss_cons (ps_set (i := 8) sc_law.nd rfl (by first | exact Or.inl rfl | exact Or.inr rfl) (pe_own G__law_all (hr.mono (by first | decide | omega)) (by rfl) p_body (pa_cons (pv 6) (pa_cons (pv 7) pa_nil))))
    (pss_cons (ps_set (i := 9) sc_law.nd rfl (by first | exact Or.inl rfl | exact Or.inr rfl) (pe_own G_sums (hr.mono (by first | decide | omega)) (by rfl) p_body (pa_cons (pv 6) (pa_cons (pv 7) pa_nil))))
    (pss_cons (ps_if (PW.pt (pw_or (pt_not (pt_val (pe_callB (k_isi K rfl) (by rfl) M.isinstance (by decide +kernel) (pa_cons (pv 9) (pa_cons (pe_bltn (v := .ty "list") (by rfl) M.list (by decide +kernel) rfl) pa_nil))))) (pw_or (pt_cmpR (k_ne K rfl hr) (pv 9) (pv 8) (nomark _)) (pw_or1 (pt_not (pt_val (pe_own G__law_kinds (hr.mono (by first | decide | omega)) (by rfl) p_body (pa_cons (pv 9) pa_nil)))))))) (pss_one (ps_ret pe_bl)) pss_nil)
    (pss_cons (ps_set (i := 10) sc_law.nd rfl (by first | exact Or.inl rfl | exact Or.inr rfl) (pe_ix (k_ix K rfl) (pv 8) pe_int (fun _ _ => rfl)))
    (pss_cons (ps_for own_p (by rfl) (k_pi K rfl (pv 8)) (pg_name (i := 11) sc_law.nd rfl (by first | exact Or.inl rfl | exact Or.inr rfl)) (pss_one (ps_if (pt_cmpR o_lt (pe_ix (k_ix K rfl) (pv 11) pe_int (fun _ _ => rfl)) (pe_ix (k_ix K rfl) (pv 10) pe_int (fun _ _ => rfl)) (nomark _)) (pss_one (ps_set (i := 10) sc_law.nd rfl (by first | exact Or.inl rfl | exact Or.inr rfl) (pv 11))) pss_nil)))
    (pss_cons (ps_set (i := 12) sc_law.nd rfl (by first | exact Or.inl rfl | exact Or.inr rfl) (pe_own G_least (hr.mono (by first | decide | omega)) (by rfl) p_body (pa_cons (pv 6) (pa_cons (pv 7) pa_nil))))
    (pss_cons (ps_if (PW.pt (pw_or (pt_not (pt_val (pe_own G__law_kinds (hr.mono (by first | decide | omega)) (by rfl) p_body (pa_cons (pe_lst (pa_cons (pv 12) pa_nil)) pa_nil)))) (pw_or1 (pt_cmpR (k_ne K rfl hr) (pv 12) (pv 10) (nomark _))))) (pss_one (ps_ret pe_bl)) pss_nil)
    (pss_cons (ps_expr (k_bm K rfl PySem.F.plainAttrs_list PySem.F.slot_list_append PySem.F.type_list_append mt_append (pe_own G_sums (hr.mono (by first | decide | omega)) (by rfl) p_body (pa_cons (pv 6) (pa_cons (pe_lst pa_nil) pa_nil))) (pa_cons pe_int pa_nil)))
    (pss_one (ps_ret (pe_and (pe_cmpR (k_eq K rfl hr) (pv 9) (pv 8) (nomark _)) (pe_one (pe_cmpR (k_eq K rfl hr) (pe_own G_sums (hr.mono (by first | decide | omega)) (by rfl) p_body (pa_cons (pv 6) (pa_cons (pv 7) pa_nil))) (pv 8) (nomark _))))))))))))))))))))))))), ?_⟩
  obtain ⟨sc, ns, rfl, hS, q⟩ := h
  refine Fl.go_start (σ0 := [some _, none, none, none, none, none, none, none, none, none, none, none, none, none]) rfl ?_
  walk_at "s"
  refine ⟨sc, ns, 7, rfl, hS, rfl, ⟨by decide, by decide⟩, fun F p H1 ok7 sm1 hP => ?_⟩
  obtain ⟨L, Tb, W, vs, ts, hp, hL, hvs, hT, hts, hW, ⟨dLT, dLW, dLp⟩, fL, fp⟩ := hP
  have hS1 : Scr K H1 sc ns := by walk_at "scr"
  have c8 := ok7.c8
  have lvs := hvs.length
  rw [List.length_map] at lvs
  have ow := ok7.ow
  walk_at "s"
  rename_i zc zx zb0 zb1 st hst yc c0 c0l c0h
  have k2 : ∀ b u, b ≠ st → H1 b = some u → (upd (upd H1 st (.lst [.int zx])) st (.lst [.int yc])) b = some u := fun b u nb h => by rw [upd_ne nb, upd_ne nb]; exact h
  have st2 : (upd (upd H1 st (.lst [.int zx])) st (.lst [.int yc])) st = some (.lst [.int yc]) := upd_same
  have nL : L ≠ st := fun e => by rw [e, hst] at hL; cases hL
  have nT : Tb ≠ st := fun e => by rw [e, hst] at hT; cases hT
  have nW : W ≠ st := fun e => by rw [e, hst] at hW; cases hW
  have np : p ≠ st := fun e => by rw [e, hst] at hp; cases hp
  have sm2 : Same H1 (upd (upd H1 st (.lst [.int zx])) st (.lst [.int yc])) := fun b u h => k2 b u (fun e => by rw [e, hst] at h; cases h) h
  generalize upd (upd H1 st (.lst [.int zx])) st (.lst [.int yc]) = H2 at *
  have hp2 := sm2 _ _ hp
  have hL2 := sm2 _ _ hL
  have hT2 := sm2 _ _ hT
  have hW2 := sm2 _ _ hW
  have hv2 := hvs.le (Same.le sm2)
  have ht2 := hts.le (Same.le sm2)
  clear hp hL hT hW hvs hts hS hS1 fL fp sm1
  refine meet (fun σ' H' => ∃ (cnt : Nat) (x : Int), σ' = [some (.ref sc), some (.ref p), some (.ref st), some (.int cnt), some (.int F.C), none, none, none, none, none, none, none, none, none] ∧ cnt ≤ 9 ∧ H' st = some (.lst [.int x]) ∧ (∀ b u, b ≠ st → H2 b = some u → H' b = some u)) ?_ ?_
  · walk_at "s"
    rename_i y6 r6 r60 r61
    have k3 : ∀ b u, b ≠ st → H2 b = some u → (upd H2 st (.lst [.int y6])) b = some u := fun b u nb h => by rw [upd_ne nb]; exact h
    have st3 : (upd H2 st (.lst [.int y6])) st = some (.lst [.int y6]) := upd_same
    generalize upd H2 st (.lst [.int y6]) = H3 at *
    refine if_d (fun c => ?_) (fun c => ?_)
    · walk_at "s"
      have hd : ∀ d : Int, 1 ≤ d → 0 ≤ 8 / d ∧ 8 / d ≤ 8 := fun d h => ⟨Int.ediv_nonneg (by decide) (by omega), Int.ediv_le_self _ (by decide)⟩
      obtain ⟨q0, q1⟩ := hd (if (F.C : Int) > 1 then (F.C : Int) else 1) (by split <;> omega)
      exact ⟨(1 + 8 / (if (F.C : Int) > 1 then (F.C : Int) else 1)).toNat, y6, by rw [Int.toNat_of_nonneg (by omega)]; rfl, by omega, st3, k3⟩
    · walk_at "s"
      rename_i y8 r8 r80 r81
      have k4 : ∀ b u, b ≠ st → H2 b = some u → (upd H3 st (.lst [.int y8])) b = some u := fun b u nb h => by rw [upd_ne nb]; exact k3 _ _ nb h
      have st4 : (upd H3 st (.lst [.int y8])) st = some (.lst [.int y8]) := upd_same
      generalize upd H3 st (.lst [.int y8]) = H4 at *
      refine if_d (fun c1 => ?_) (fun c1 => ?_)
      · have hC : 1 ≤ F.C := by
          rcases Nat.eq_zero_or_pos F.C with e | e
          · rw [e] at c1
            have : ∀ z : Int, (0 : Nat) * z = 0 := fun z => by simp
            rw [this] at c1
            split at c1 <;> omega
          · exact e
        have hd : ∀ d : Int, 1 ≤ d → 0 ≤ 6 / d ∧ 6 / d ≤ 6 := fun d h => ⟨Int.ediv_nonneg (by decide) (by omega), Int.ediv_le_self _ (by decide)⟩
        obtain ⟨q0, q1⟩ := hd F.C (by omega)
        walk_at "s"
        exact ⟨(6 / (F.C : Int)).toNat, y8, by rw [Int.toNat_of_nonneg q0]; rfl, by omega, st4, k4⟩
      · walk_at "s"
        exact ⟨c0.toNat, y8, by rw [Int.toNat_of_nonneg c0l]; rfl, by omega, st4, k4⟩
  rintro σ' H4 ⟨cnt, x4, rfl, cnt9, hx4, k4⟩
  have hp4 := k4 _ _ np hp2
  have hL4 := k4 _ _ nL hL2
  have hT4 := k4 _ _ nT hT2
  have hW4 := k4 _ _ nW hW2
  have lt4 : LeT H2 H4 := leT_keep k4 st2
  have hv4 := hv2.leT lt4 (tupsOnly_all fun d hd => by obtain ⟨r, _, rfl⟩ := List.mem_map.mp hd; exact Rule.tupO r)
  have ht4 := ht2.leT lt4 (tbs_tupO _)
  walk_at "s"
  refine meet (fun σ' H' => ∃ (G : Frm) (vs' : List V) (x : Int), σ' = [some (.ref sc), some (.ref p), some (.ref st), some (.int cnt), some (.int F.C), some (.ref L), none, none, none, none, none, none, none, none] ∧ G.Ok 7 ∧ G.C = F.C ∧ G.owed = F.owed ∧ G.tbs = F.tbs ∧ G.ws = F.ws ∧ H' L = some (.lst vs') ∧ AtAll H' (G.rs.map Rule.d) vs' ∧ H' st = some (.lst [.int x]) ∧ (∀ b u, b ≠ st → b ≠ L → H4 b = some u → H' b = some u)) ?_ ?_
  · walk_at "s"
    refine if_d (fun c => ?_) (fun c => ?_)
    · walk_at "s"
      rename_i y3 r3 r30 r31
      have k5 : ∀ b u, b ≠ st → H4 b = some u → (upd H4 st (.lst [.int y3])) b = some u := fun b u nb h => by rw [upd_ne nb]; exact h
      have st5 : (upd H4 st (.lst [.int y3])) st = some (.lst [.int y3]) := upd_same
      have lt5 : LeT H4 (upd H4 st (.lst [.int y3])) := leT_keep k5 hx4
      generalize upd H4 st (.lst [.int y3]) = H5 at *
      have hp5 := k5 _ _ np hp4
      have hL5 := k5 _ _ nL hL4
      have hv5 := hv4.leT lt5 (tupsOnly_all fun d hd => by obtain ⟨r, _, rfl⟩ := List.mem_map.mp hd; exact Rule.tupO r)
      refine if_d (fun c3 => ?_) (fun c3 => ?_)
      · walk_at "s"
        rename_i m5 hm5 m3 hm3 mc hmc m4 hm4 mb hmb
        have smX : Same H5 (upd (upd (upd (upd (upd H5 m5 (.tup [.str "number", .int 5])) m3 (.tup [.str "number", .int 3])) mc (.tup [.str "choose", .int 1, .ref m5, .ref m3])) m4 (.tup [.str "number", .int 3])) mb (.tup [.str "choose", .int 0, .ref mc, .ref m4])) := by walk_at "sm"
        have aX : At (upd (upd (upd (upd (upd H5 m5 (.tup [.str "number", .int 5])) m3 (.tup [.str "number", .int 3])) mc (.tup [.str "choose", .int 1, .ref m5, .ref m3])) m4 (.tup [.str "number", .int 3])) mb (.tup [.str "choose", .int 0, .ref mc, .ref m4])) Fl.rich.d (.ref mb) := at_tup (by walk_at "hp") (AtAll.cons rfl (AtAll.cons rfl (AtAll.cons (at_tup (by walk_at "hp") (AtAll.cons rfl (AtAll.cons rfl (AtAll.cons (at_tup (by walk_at "hp") (AtAll.cons rfl (AtAll.cons rfl AtAll.nil))) (AtAll.cons (at_tup (by walk_at "hp") (AtAll.cons rfl (AtAll.cons rfl AtAll.nil))) AtAll.nil))))) (AtAll.cons (at_tup (by walk_at "hp") (AtAll.cons rfl (AtAll.cons rfl AtAll.nil))) AtAll.nil))))
        generalize (upd (upd (upd (upd (upd H5 m5 (.tup [.str "number", .int 5])) m3 (.tup [.str "number", .int 3])) mc (.tup [.str "choose", .int 1, .ref m5, .ref m3])) m4 (.tup [.str "number", .int 3])) mb (.tup [.str "choose", .int 0, .ref mc, .ref m4])) = H6 at *
        clear hm5 hm3 hmc hm4 hmb
        refine ex_j (ixN_nat (by omega)) ?_
        have hL6 := smX _ _ hL5
        have k7 : ∀ b u, b ≠ L → H6 b = some u → (upd H6 L (.lst (vs.set F.owed (.ref mb)))) b = some u := fun b u nb h => by rw [upd_ne nb]; exact h
        have lt7 : LeT H6 (upd H6 L (.lst (vs.set F.owed (.ref mb)))) := leT_keep k7 hL6
        have hv6 := (hv5.le (Same.le smX)).leT lt7 (tupsOnly_all fun d hd => by obtain ⟨r, _, rfl⟩ := List.mem_map.mp hd; exact Rule.tupO r)
        refine ⟨F.rich, vs.set F.owed (.ref mb), y3, rfl, Frm.rich_ok ok7 (by omega), rfl, rfl, rfl, rfl, upd_same, ?_, k7 _ _ nL.symm (smX _ _ st5), fun b u n1 n2 h => k7 _ _ n2 (smX _ _ (k5 _ _ n1 h))⟩
        show AtAll _ ((F.rs.set F.owed Fl.rich).map Rule.d) _
        rw [List.map_set]
        exact hv6.set (aX.leT lt7 (Rule.tupO _))
      · walk_at "s"
        exact ⟨F, vs, y3, rfl, ok7, rfl, rfl, rfl, rfl, hL5, hv5, st5, fun b u n1 _ h => k5 _ _ n1 h⟩
    · walk_at "s"
      exact ⟨F, vs, x4, rfl, ok7, rfl, rfl, rfl, rfl, hL4, hv4, hx4, fun b u _ _ h => h⟩
  rintro σ' H6 ⟨G, vs6, x6, rfl, okG, eC, eo, etb, ews, hL6, hv6, hx6, k6⟩
  have nTL : Tb ≠ L := dLT.symm
  have hp6 := k6 _ _ np dLp.symm hp4
  have hT6 := k6 _ _ nT nTL hT4
  have hW6 := k6 _ _ nW dLW.symm hW4
  have lt6 : LeT H4 H6 := fun b ys h => k6 _ _ (fun e => by rw [e, hx4] at h; cases h) (fun e => by rw [e, hL4] at h; cases h) h
  have ht6 := ht4.leT lt6 (tbs_tupO _)
  have ok := okG.mono (n := 40) (by decide)
  rw [← eC, ← eo] at *
  rw [← etb] at ht6
  rw [← ews] at hW6
  walk_at "s"
  refine ⟨G, L, Tb, vs6, ts, ok, rfl, hL6, hv6, rfl, hT6, ht6, rfl, rfl, fun v H7 sm7 hat => ?_⟩
  have hp7 := sm7 _ _ hp6
  have hW7 := sm7 _ _ hW6
  have hx7 := sm7 _ _ hx6
  have c8 := okG.c8
  walk_at "s"
  rw [Int.toNat_natCast]
  refine lc_rng (fun D i H' => ∃ (yv : List V) (pss : List (List (Str × Int))) (x : Int), H' D = some (.lst yv) ∧ yv.length = i ∧ PapsAt H' yv pss ∧ (∀ l, V.ref l ∈ yv → l ≠ D ∧ l ≠ st) ∧ H' st = some (.lst [.int x]) ∧ (∀ b u, b ≠ st → H7 b = some u → H' b = some u))
    (fun D hD => ⟨[], [], x6, upd_same, rfl, ⟨rfl, by simp⟩, by simp, by walk_at "hp", fun b u _ h => by rw [upd_ne (ne_of_none h hD)]; exact h⟩) (fun D i H' hD hi ⟨yv, pss, xs, hyv, lyv, hps, nes, hx, kp⟩ => ?_) (fun DY H8 hDY ⟨yv, pss, x8, hyv, lyv, hps, nes, hx8, k8⟩ => ?_)
  · have nD : D ≠ st := fun e => by rw [e, hx7] at hD; cases hD
    have hW' := kp _ _ nW hW7
    have hp' := kp _ _ np hp7
    refine ⟨rfl, ?_⟩
    refine Step.h (n := if true = true then _ else _) ?_
    rw [if_pos rfl]
    walk_at "s"
    refine ⟨st, W, xs, G.ws, rfl, hx, rfl, nW, hW', ok.wd, Nat.le_trans ok.w8 (by decide), fun pl H5 vs5 ps gs hpl h5 hat5 pok _ => ?_⟩
    obtain ⟨x5, hx5⟩ := gs.st
    have hD5 := gs.keep _ _ nD hyv
    have nl : pl ≠ D := fun e => by rw [e, hyv] at hpl; cases hpl
    have nls : pl ≠ st := fun e => by rw [e, hx] at hpl; cases hpl
    have kD : ∀ b u, b ≠ D → H5 b = some u → (upd H5 D (.lst (yv ++ [.ref pl]))) b = some u := fun b u nb h => by rw [upd_ne nb]; exact h
    have lt : LeT H5 (upd H5 D (.lst (yv ++ [.ref pl]))) := LeT.put1 hD5 (.refl _)
    refine ⟨yv, hD5, small_of (by omega), yv ++ [.ref pl], pss ++ [ps], x5, upd_same, by rw [List.length_append, lyv]; rfl, ?_, fun l h => ?_, by rw [upd_ne nD.symm]; exact hx5, ?_⟩
    · exact (((hps.kp (fun b u nb h => gs.keep _ _ nb h) (gs.le hx).let (fun l h => (nes l h).2)).kp kD lt (fun l h => (nes l h).1))).snoc (kD _ _ nl h5) (hat5.leT lt (prs_tupO ps)) pok
    · rcases List.mem_append.mp h with h | h
      · exact nes l h
      · cases List.mem_singleton.mp h
        exact ⟨nl, nls⟩
    · exact fun b u nb h => kD _ _ (fun e => by rw [e, hD] at h; cases h) (gs.keep _ _ nb (kp _ _ nb h))
  have nDY : DY ≠ st := fun e => by rw [e, hx7] at hDY; cases hDY
  have lps := hps.len
  have lt8 : LeT H7 H8 := leT_keep k8 hx7
  have hat8 := hat.leT lt8 G.tupO
  walk_at "s"
  refine meet (fun σ' H' => σ' = [some (.ref sc), some (.ref p), some (.ref st), some (.int cnt), some (.int G.C), some (.ref L), some v, some (.ref DY), none, none, none, none, none, none] ∧ (∀ b u, b ≠ st → H8 b = some u → H' b = some u)) ?_ ?_
  · walk_at "s"
    rename_i y9 r9 r90 r91
    have k9 : ∀ b u, b ≠ st → H8 b = some u → (upd H8 st (.lst [.int y9])) b = some u := fun b u nb h => by rw [upd_ne nb]; exact h
    have lt9 : LeT H8 (upd H8 st (.lst [.int y9])) := leT_keep k9 hx8
    generalize upd H8 st (.lst [.int y9]) = H9 at *
    refine if_d (fun c => ?_) (fun c => ?_)
    · walk_at "s"
      refine if_d (fun c3 => ?_) (fun c3 => ?_)
      · have hyv9 := k9 _ _ nDY hyv
        have hps9 := hps.kp k9 lt9 (fun l h => (nes l h).2)
        have hat9 := hat8.leT lt9 G.tupO
        walk_at "s"
        rename_i t9 ht9 l9 hl9
        have smB : Same H9 (upd (upd H9 t9 (.tup [.str "A", .int 1])) l9 (.lst [.ref t9])) := by walk_at "sm"
        have t9B : (upd (upd H9 t9 (.tup [.str "A", .int 1])) l9 (.lst [.ref t9])) t9 = some (.tup [.str "A", .int 1]) := by walk_at "hp"
        have l9B : (upd (upd H9 t9 (.tup [.str "A", .int 1])) l9 (.lst [.ref t9])) l9 = some (.lst [.ref t9]) := upd_same
        have fl9 : H9 l9 = none := by walk_at "fr"
        generalize upd (upd H9 t9 (.tup [.str "A", .int 1])) l9 (.lst [.ref t9]) = HB at *
        have nlD : l9 ≠ DY := fun e => by rw [e, hyv9] at fl9; cases fl9
        rw [show (cnt : Int) - 1 = ((cnt - 1 : Nat) : Int) by omega]
        refine ex_j (ixN_nat (by omega)) ?_
        have hyvB := smB _ _ hyv9
        have kC : ∀ b u, b ≠ DY → HB b = some u → (upd HB DY (.lst (yv.set (cnt - 1) (.ref l9)))) b = some u := fun b u nb h => by rw [upd_ne nb]; exact h
        have ltC : LeT HB (upd HB DY (.lst (yv.set (cnt - 1) (.ref l9)))) := leT_keep kC hyvB
        have hyvC : (upd HB DY (.lst (yv.set (cnt - 1) (.ref l9)))) DY = some (.lst (yv.set (cnt - 1) (.ref l9))) := upd_same
        generalize upd HB DY (.lst (yv.set (cnt - 1) (.ref l9))) = HC at *
        have hpsC := (hps9.same smB).kp kC ltC (fun l h => (nes l h).1)
        have hatC := (hat9.le (Same.le smB)).leT ltC G.tupO
        have badC : PapBad HC (.ref l9) := ⟨l9, [.ref t9], [], .str "A", .int 1, [], rfl, kC _ _ nlD l9B, AtAll.cons (at_tup (ltC _ _ t9B) (AtAll.cons rfl (AtAll.cons rfl AtAll.nil))) AtAll.nil, ⟨by simp, by simp, by simp, by simp⟩, by decide +kernel, .inl (by decide +kernel)⟩
        have pab : PaB HC (yv.set (cnt - 1) (.ref l9)) := ⟨cnt - 1, pss.take (cnt - 1), .ref l9, by rw [List.take_set_of_le (Nat.le_refl _)]; exact hpsC.take _, List.getElem?_set_self (by omega), badC⟩
        walk_at "s"
        rw [show (G.C : Int) * cnt = ((G.C * cnt : Nat) : Int) by rw [Int.natCast_mul]]
        have ly2 : (yv.set (cnt - 1) (.ref l9)).length = cnt := by rw [List.length_set]; exact lyv
        by_cases c4 : 8 < G.C * cnt
        · rw [decide_eq_true (show (8 : Int) < ((G.C * cnt : Nat) : Int) by omega)]
          refine ⟨_, rfl, ?_⟩
          walk_at "s"
          exact ⟨G, DY, _, "many", ok, hatC.le (by walk_at "le"), rfl, by walk_at "hp", by omega, .inl ⟨rfl, by rw [ly2]; exact c4⟩, rfl, q⟩
        · rw [decide_eq_false (show ¬ (8 : Int) < ((G.C * cnt : Nat) : Int) by omega)]
          refine ⟨_, rfl, ?_⟩
          walk_at "s"
          exact ⟨G, DY, _, "paper", ok, hatC.le (by walk_at "le"), rfl, by walk_at "hp", by omega, .inr ⟨rfl, by rw [ly2]; omega, pab.same (by walk_at "sm")⟩, rfl, q⟩
      · walk_at "s"
        exact ⟨rfl, k9⟩
    · walk_at "s"
      exact ⟨rfl, k9⟩
  rintro σ' HA ⟨rfl, kA⟩
  have ltA : LeT H8 HA := leT_keep kA hx8
  have hyvA := kA _ _ nDY hyv
  have hpsA := hps.kp kA ltA (fun l h => (nes l h).2)
  have hatA := hat8.leT ltA G.tupO
  walk_at "s"
  rw [show (G.C : Int) * cnt = ((G.C * cnt : Nat) : Int) by rw [Int.natCast_mul]]
  refine if_d (fun c => ?_) (fun c => ?_)
  · walk_at "s"
    exact ⟨G, DY, yv, "many", ok, hatA, rfl, hyvA, by omega, .inl ⟨rfl, by rw [lyv]; omega⟩, rfl, q⟩
  have l8 : G.C * yv.length ≤ 8 := by rw [lyv]; omega
  have l20 : yv.length ≤ 20 := by omega
  walk_at "s"
  refine ⟨G, DY, yv, pss, ok, hatA, rfl, hyvA, hpsA, l20, l8, fun pd HB dv smB _ hpd hdv => ?_⟩
  have hyvB := smB _ _ hyvA
  have hpsB := hpsA.same smB
  have hatB := hatA.le (Same.le smB)
  have les := ents_len (F := G) (pss := pss) l8
  have lens := ents_lens (F := G) (pss := pss) (n := yv.length) c8 l20
  walk_at "s"
  refine ⟨G, DY, yv, ok, hatB, rfl, hyvB, l20, .inr ⟨l8, .inl ⟨pss, hpsB, fun pf HC fv smC _ hpf hfv => ?_⟩⟩⟩
  have smAC := L2.Same.trans smB smC
  have hpdC := smC _ _ hpd
  have hdvC := hdv.le (Same.le smC)
  walk_at "s"
  refine ne_same (.lst (.of hpf) hfv.dp) (.lst (.of hpdC) hdvC.dp) (shaped_ents _) ?_
  walk_at "s"
  refine ⟨pf, fv, _, rfl, hpf, hfv, les, lens, fun HD smD => ?_⟩
  have smAD := L2.Same.trans smAC smD
  have hpdD := smD _ _ hpdC
  have hdvD := hdvC.le (Same.le smD)
  have hpfD := smD _ _ hpf
  have hfvD := hfv.le (Same.le smD)
  have hyvD := smAD _ _ hyvA
  have hpsD := hpsA.same smAD
  have hatD := hatA.le (Same.le smAD)
  obtain ⟨e0, es, ee⟩ : ∃ e0 es, G.ents pss yv.length = e0 :: es := by
    cases e : G.ents pss yv.length with
    | nil =>
      have := congrArg List.length e
      unfold Frm.ents at this
      rw [List.length_map, binR_len] at this
      have h1 : 1 ≤ 2 ^ (G.C * yv.length) := Nat.one_le_two_pow
      simp at this
    | cons a b => exact ⟨a, b, rfl⟩
  rw [ee] at hdvD hfvD les lens
  have ldv := hdvD.length
  rw [List.length_map] at ldv
  obtain ⟨v0, ev0, hv0⟩ := hdvD.get (i := 0) (d := entD e0) rfl
  walk_at "s"
  refine ex_v (atI_nat (j := 0) ev0) ?_
  walk_at "s"
  have base0 : At HD (entD (bst e0 ((e0 :: es).take 0))) v0 := hv0
  refine for_lst (fun j σ' H' => H' = HD ∧ ∃ (b : V) (y11 : Option V), σ' = [some (.ref sc), some (.ref p), some (.ref st), some (.int cnt), some (.int G.C), some (.ref L), some v, some (.ref DY), some (.ref pd), some (.ref pf), some b, y11, none, none] ∧ At HD (entD (bst e0 ((e0 :: es).take j))) b)
    hpdD ⟨rfl, v0, none, rfl, base0⟩ (fun j σ' H' _ ⟨e, _⟩ => by rw [e]; exact hpdD) ?_ ?_
  · rintro j x σ' H' ex ⟨rfl, b, y11, rfl, hb⟩
    obtain ⟨d, ed, hd⟩ := hdvD.ix ex
    obtain ⟨e, ee2, rfl⟩ : ∃ e, (e0 :: es)[j]? = some e ∧ d = entD e := by
      rw [List.getElem?_map] at ed
      cases e : (e0 :: es)[j]? with
      | none => rw [e] at ed; cases ed
      | some t => rw [e] at ed; exact ⟨t, rfl, (Option.some.inj ed).symm⟩
    have stp : bst e0 ((e0 :: es).take (j + 1)) = if e.2 < (bst e0 ((e0 :: es).take j)).2 then e else bst e0 ((e0 :: es).take j) := by
      unfold bst
      rw [List.take_add_one, ee2, List.foldl_append]
      rfl
    obtain ⟨te, ue, rfl, hte, u0, r0, rfl, h0, u1, r1, rfl, h1, h2⟩ := hd
    cases (show u1 = .int e.2 from h1)
    cases (show r1 = [] from h2)
    have hde : At H' (entD e) (.ref te) := ⟨te, _, rfl, hte, u0, _, rfl, h0, _, _, rfl, rfl, rfl⟩
    obtain ⟨tb, ub, rfl, htb, w0, s0', rfl, g0, w1, s1, rfl, g1, g2⟩ := hb
    cases (show w1 = .int _ from g1)
    cases (show s1 = [] from g2)
    have hdb : At H' (entD (bst e0 ((e0 :: es).take j))) (.ref tb) := ⟨tb, _, rfl, htb, w0, _, rfl, g0, _, _, rfl, rfl, rfl⟩
    walk_at "s"
    refine if_d (fun c => ?_) (fun c => ?_)
    · walk_at "s"
      refine ⟨rfl, _, _, rfl, ?_⟩
      rw [stp, if_pos c]
      exact hde
    · walk_at "s"
      refine ⟨rfl, _, _, rfl, ?_⟩
      rw [stp, if_neg c]
      exact hdb
  rintro σ' H' ⟨rfl, b, y11, rfl, hb⟩
  rw [List.take_of_length_le (by omega)] at hb
  walk_at "s"
  refine ⟨G, DY, yv, ok, hatD, rfl, hyvD, l20, .inr ⟨l8, .inl ⟨pss, hpsD, fun tv HE smE htv => ?_⟩⟩⟩
  have htv := htv e0 es ee
  have hbE := hb.le (Same.le smE)
  have bl : (bst e0 (e0 :: es)).1.length ≤ 20 ∧ ∀ r ∈ (bst e0 (e0 :: es)).1, r.length ≤ 8 := by
    rcases bst_mem e0 (e0 :: es) with h | h
    · rw [h]; exact lens e0 (List.mem_cons_self ..)
    · exact lens _ h
  walk_at "s"
  rename_i lk hlk
  have smF : Same HE (upd HE lk (.lst [tv])) := Same.new (.refl _) hlk
  have lkF : (upd HE lk (.lst [tv])) lk = some (.lst [tv]) := upd_same
  generalize upd HE lk (.lst [tv]) = HF at *
  have htvF := htv.le (Same.le smF)
  refine ⟨lk, [tv], [bst e0 (e0 :: es)], rfl, lkF, AtAll.one htvF, by show 1 ≤ 256; decide, fun e he => by rw [List.mem_singleton.mp he]; exact bl, fun HG smG => ?_⟩
  have smEG := L2.Same.trans smF smG
  have smDG := L2.Same.trans smE smEG
  have htvG := htv.le (Same.le smEG)
  have hbG := hbE.le (Same.le smEG)
  walk_at "s"
  refine ne_same htvG.dp hbG.dp (shaped_ent _) ?_
  walk_at "s"
  rename_i q0 hq0
  have smH : Same HG (upd HG q0 (.lst [])) := Same.new (.refl _) hq0
  have q0H : (upd HG q0 (.lst [])) q0 = some (.lst []) := upd_same
  generalize upd HG q0 (.lst []) = HH at *
  have smDH := L2.Same.trans smDG smH
  refine ⟨G, q0, [], ok, hatD.le (Same.le smDH), rfl, q0H, by decide, .inr ⟨by simp, .inl ⟨[], ⟨rfl, by simp⟩, fun p3 HI v3 smI f3 h3 a3 => ?_⟩⟩⟩
  have l3 := a3.length
  have l31 : (G.ents [] 0).length ≤ 256 := ents_len (F := G) (pss := []) (by simp)
  rw [List.length_map] at l3
  have l3' : v3.length ≤ 256 := by rw [l3]; exact l31
  walk_at "s"
  have smDI := L2.Same.trans smDH smI
  have hpfH := smDH _ _ hpfD
  have hpdH := smDH _ _ hpdD
  have hyvH := smDH _ _ hyvD
  have n1 : pf ≠ p3 := fun e => by rw [e, f3] at hpfH; cases hpfH
  have n2 : pd ≠ p3 := fun e => by rw [e, f3] at hpdH; cases hpdH
  have n3 : DY ≠ p3 := fun e => by rw [e, f3] at hyvH; cases hyvH
  have hpsH := hpsD.same smDH
  have nel : ∀ l, V.ref l ∈ yv → l ≠ p3 := fun l h e => by
    obtain ⟨j, hj, ej⟩ := List.getElem_of_mem h
    obtain ⟨ps', eps'⟩ : ∃ ps', pss[j]? = some ps' := ⟨_, List.getElem?_eq_getElem (by omega)⟩
    obtain ⟨l', vs', q', hb, _⟩ := hpsH.at_ j _ ps' (List.getElem?_eq_getElem hj) eps'
    rw [ej] at q'
    cases q'
    rw [e, f3] at hb
    cases hb
  have kJ : ∀ b u, b ≠ p3 → HI b = some u → (upd HI p3 (.lst (v3 ++ [.int 7]))) b = some u := fun b u nb h => by rw [upd_ne nb]; exact h
  have ltJ : LeT HI (upd HI p3 (.lst (v3 ++ [.int 7]))) := leT_keep kJ h3
  generalize upd HI p3 (.lst (v3 ++ [.int 7])) = HJ at *
  have hpfJ := kJ _ _ n1 (smI _ _ hpfH)
  have hpdJ := kJ _ _ n2 (smI _ _ hpdH)
  have hyvJ := kJ _ _ n3 (smI _ _ hyvH)
  have hfvJ := (hfvD.le (Same.le smDI)).leT ltJ (ents_tup _)
  have hdvJ := (hdvD.le (Same.le smDI)).leT ltJ (ents_tup _)
  have hpsJ := (hpsD.same smDI).kp kJ ltJ nel
  have hatJ := (hatD.le (Same.le smDI)).leT ltJ G.tupO
  refine eq_same (.lst (.of hpfJ) hfvJ.dp) (.lst (.of hpdJ) hdvJ.dp) (shaped_ents _) ?_
  walk_at "s"
  refine ⟨G, DY, yv, ok, hatJ, rfl, hyvJ, l20, .inr ⟨l8, .inl ⟨pss, hpsJ, fun p4 HK v4 smK _ h4 a4 => ?_⟩⟩⟩
  rw [ee] at a4
  walk_at "s"
  refine eq_same (.lst (.of h4) a4.dp) (.lst (.of (smK _ _ hpdJ)) (hdvJ.le (Same.le smK)).dp) (shaped_ents _) ?_
  exact q _
end
end Fl

-- after: r7.tpl
namespace Fl
open PySem PySem.Spec PyProof.Rows L2 RZ
theorem AtAll.last {H : Hp} : ∀ {ds : List PyData} {vs : List V}, AtAll H ds vs → vs ≠ [] → ∃ es d ws v, ds = es ++ [d] ∧ vs = ws ++ [v] ∧ AtAll H es ws ∧ At H d v
  | [], _, h, n => absurd h n
  | [x], _, ⟨v, t, q, h, r⟩, _ => ⟨[], x, [], v, rfl, by rw [q, show t = [] from r]; rfl, rfl, h⟩
  | x :: y :: l, _, ⟨v, t, q, h, r⟩, _ => by
    obtain ⟨qs, z, ws, w, e1, e2, r1, r2⟩ := AtAll.last r (by obtain ⟨_, _, z, _⟩ := r; rw [z]; simp)
    exact ⟨x :: qs, z, v :: ws, w, by rw [e1]; rfl, by rw [q, e2]; rfl, ⟨v, ws, rfl, h, r1⟩, r2⟩
section
variable {P : Program} {w : World} {K : PySem.W.Frag} {mg : Str → Option Value} {base : Heap}
abbrev s_named : Stmt := topS 28
theorem sc_named : FnScope ["rule", "word", "found", "rest", "one"] ["rule", "word"] (defScope s_named) := ⟨rfl, rfl, rfl, by decide +kernel, rfl, by decide +kernel, by decide +kernel⟩
theorem ok_named (M : Mg mg) (G_inner_rules : Has P w K mg base "inner_rules" ["rule"] 1 (sp1 sp_inner_rules)) (D : DefAt K mg "named" s_named ["rule", "word"]) : Has P w K mg base "named" ["rule", "word"] 2 (sp2 (sp_law_named 8)) := by
  refine .mk2 D sc_named fun f cdv A outer s H a c Q E hr h => ⟨_, (pss_cons (ps_set (i := 2) sc_named.nd rfl (by first | exact Or.inl rfl | exact Or.inr rfl) (pe_lst pa_nil))
    (pss_cons (ps_set (i := 3) sc_named.nd rfl (by first | exact Or.inl rfl | exact Or.inr rfl) (pe_lst (pa_cons (pv 0) pa_nil)))
    (pss_cons (ps_while own_p (pt_cmpR (k_neE K rfl hr) (pv 3) (pe_lst pa_nil) (nomark _)) (pss_cons (ps_set (i := 4) sc_named.nd rfl (by first | exact Or.inl rfl | exact Or.inr rfl) (k_bm0 K rfl PySem.F.plainAttrs_list PySem.F.slot_list_pop PySem.F.type_list_pop mt_pop (pv 3)))
    (pss_meet (ps_if (PW.pt (pw_and (pt_cmpR (k_eq K rfl hr) (pe_ix (k_ix K rfl) (pv 4) pe_int (fun _ _ => rfl)) (pv 1) (nomark _)) (pw_and1 (pt_cmpR (k_notin K rfl hr) (pe_ix (k_ix K rfl) (pv 4) pe_int (fun _ _ => rfl)) (pv 2) (by rfl))))) (pss_one (ps_expr (k_bm K rfl PySem.F.plainAttrs_list PySem.F.slot_list_append PySem.F.type_list_append mt_append (pv 2) (pa_cons (pe_ix (k_ix K rfl) (pv 4) pe_int (fun _ _ => rfl)) pa_nil)))) pss_nil)
    (pss_one (ps_set (i := 3) sc_named.nd rfl (by first | exact Or.inl rfl | exact Or.inr rfl) (pe_op (k_add K rfl) (pv 3) (pe_own G_inner_rules (hr.mono (by first | decide | omega)) (by rfl) p_body (pa_cons (pv 4) pa_nil))))))))
    (pss_one (ps_ret (pe_callB (k_sortU K rfl) (by rfl) M.sorted (by decide +kernel) (pa_cons (pv 2) pa_nil))))))), ?_⟩
  obtain ⟨d, L, T, C, x, b, hd, ok, hsz, hg, rfl, hf, hpool, q⟩ := h
  have vok := vals_ok hf hg
  have vlen := vals_len (w := x) 8 d
  refine Fl.go_start (σ0 := [some _, some _, none, none, none]) rfl ?_
  walk_at "s"
  rename_i fa hfa r0 hr0
  have hne0 : fa ≠ r0 := fun z => by rw [z, upd_same] at hr0; cases hr0
  have hr0' : H r0 = none := L2.Same.free (Same.new (.refl _) hfa) hr0
  refine while_go (fun m σ' H' => ∃ (r : Addr) (ps : List (PyData × Nat)) (vs gs : List V) (x4 : Option V), σ' = [some a, some (.str x), some (.ref fa), some (.ref r), x4] ∧
    m = szAll (ps.map (·.1)) ∧ H' r = some (.lst vs) ∧ H' fa = some (.lst gs) ∧ fa ≠ r ∧ H r = none ∧ Same H H' ∧ AtAll H (ps.map (·.1)) vs ∧ (∀ e ∈ ps, okD e.1 = true ∧ isR L T C e.2 e.1 = true) ∧ szAll (ps.map (·.1)) ≤ 50000 ∧ gs.Nodup ∧
      ∀ v, v ∈ vals x 8 d ↔ v ∈ gs ∨ ∃ e ∈ ps, v ∈ vals x e.2 e.1) (sz d)
    ⟨r0, [(d, 8)], [a], [], none, rfl, by simp [szAll], by walk_at "hp", ?_, hne0, hr0', by walk_at "sm", AtAll.one hd, by simp [ok, hg], by simp [szAll]; omega, List.nodup_nil, by simp⟩ ?_
  · rw [upd_ne hne0]
    exact upd_same
  rintro m σ' H' ⟨r, ps, vs, gs, x4, rfl, rfl, hrv, hfg, hne, hrf, sm, hps, hok, hle, gnd, gmem⟩
  have gok : ∀ v ∈ gs, okK b v := fun v hv => vok v ((gmem v).mpr (.inl hv))
  walk_at "s"
  rename_i pe hpe
  refine ne_e (by walk_at "hp") (by walk_at "hp") ((hps.le (Same.le (Same.new sm hpe))).dp) (okAll_lay _ (okAll_of fun e m => by
    obtain ⟨z, hz, rfl⟩ := List.mem_map.mp m
    exact (hok z hz).1)) ?_
  walk_at "s"
  by_cases hv : vs = []
  · subst hv
    have e : ps = [] := List.eq_nil_of_length_eq_zero (by have := hps.length; simpa using this.symm)
    subst e
    have gmem' : ∀ v, v ∈ gs ↔ v ∈ vals x 8 d := fun v => by rw [gmem v]; simp
    have hpf : pe ≠ fa := fun z => by rw [z, hfg] at hpe; cases hpe
    walk_at "s"
    refine sort_k (by rw [upd_ne hpf.symm]; exact hfg) gok gnd (fun hb => ?_) gmem' (fun ys p cn hp => ?_)
    · obtain ⟨pool, pl, pm⟩ := hpool hb
      have := nodup_le gnd fun v hv => pm v ((gmem' v).mp hv)
      omega
    · exact q p _ ys (Same.new (Same.new sm hpe) hp) (L2.Same.free (Same.new sm hpe) hp) upd_same cn
  have hv' : vs.isEmpty = false := by simpa using hv
  rw [hv']
  walk_at "s"
  refine while_turn ?_
  obtain ⟨es, d1, ws, v, e1, rfl, hq, hu⟩ := hps.last hv
  have hpn : ps ≠ [] := fun z => by rw [z] at e1; simp at e1
  obtain ⟨qs, x0, rfl⟩ : ∃ qs x0, ps = qs ++ [x0] := ⟨ps.dropLast, ps.getLast hpn, (List.dropLast_concat_getLast hpn).symm⟩
  obtain ⟨d0, k⟩ := x0
  rw [List.map_append] at e1
  obtain ⟨rfl, e3⟩ := List.append_inj' e1 rfl
  obtain rfl : d0 = d1 := by simpa using e3
  obtain ⟨okd, hgd⟩ := hok (d0, k) (by simp)
  dsimp only at okd hgd
  obtain ⟨m1, w', ds, rfl, rfl, hl, _⟩ := good_shape hgd
  obtain ⟨t, us0, rfl, ht, u0, us, rfl, h0, hus⟩ := id hu
  cases (show _ = _ from h0)
  have lu := hus.length
  have glen : gs.length ≤ 50000 := Nat.le_trans (nodup_le gnd fun v hv => (gmem v).mpr (.inl hv)) (Nat.le_trans vlen hsz)
  walk_at "s"
  refine ex_v (v := .ref t) (by simp) ?_
  rw [List.dropLast_concat]
  have hpf : pe ≠ fa := fun z => by rw [z, hfg] at hpe; cases hpe
  have h2r : (upd (upd H' pe (.lst [])) r (.lst ws)) r = some (.lst ws) := upd_same
  have h2f : (upd (upd H' pe (.lst [])) r (.lst ws)) fa = some (.lst gs) := by rw [upd_ne hne, upd_ne hpf.symm]; exact hfg
  have sm2 : Same H (upd (upd H' pe (.lst [])) r (.lst ws)) := by walk_at "sm"
  generalize upd (upd H' pe (.lst [])) r (.lst ws) = H2 at *
  have hfaH : H fa = none := by assumption
  have ht2 := sm2 _ _ ht
  refine meet (fun σ' H3 => ∃ gs', σ' = [some a, some (.str x), some (.ref fa), some (.ref r), some (.ref t)] ∧ H3 r = some (.lst ws) ∧ H3 fa = some (.lst gs') ∧ Same H H3 ∧ gs'.Nodup ∧ ∀ v, v ∈ gs' ↔ v ∈ gs ∨ v ∈ (if w' = x then [vOf (ds.getD 0 .none)] else [])) ?_ ?_
  · walk_at "s"
    refine if_d (fun c1 => ?_) (fun c1 => ?_)
    · walk_at "s"
      have ov := good_val hgd (by rw [c1]; exact hf)
      cases ds with
      | nil => simp at hl
      | cons e0 er =>
      obtain ⟨u1, ur, rfl, h1, hur⟩ := hus
      rw [List.getD_cons_zero] at ov
      obtain rfl : u1 = vOf e0 := at_vOf ov h1
      walk_at "s"
      refine notin_k ov gok h2f ?_
      by_cases cg : vOf e0 ∈ gs
      · rw [decide_eq_true cg]
        walk_at "s"
        refine ⟨gs, rfl, h2r, h2f, sm2, gnd, fun v => ?_⟩
        rw [if_pos c1, List.getD_cons_zero, List.mem_singleton]
        exact ⟨.inl, fun z => z.elim id fun z => z ▸ cg⟩
      · rw [decide_eq_false cg]
        walk_at "s"
        refine ⟨gs ++ [vOf e0], rfl, by rw [upd_ne hne.symm]; exact h2r, upd_same, Same.mut sm2 hfaH, List.nodup_append.mpr ⟨gnd, by simp, fun a ha b hb e => ?_⟩, fun v => ?_⟩
        · rw [List.mem_singleton.mp hb] at e
          exact cg (e ▸ ha)
        · rw [if_pos c1, List.getD_cons_zero, List.mem_append]
    · walk_at "s"
      exact ⟨gs, rfl, h2r, h2f, sm2, gnd, fun v => by rw [if_neg c1]; simp⟩
  rintro σ' H3 ⟨gs', rfl, h3r, h3f, sm3, gnd', gmem'⟩
  have ht3 := sm3 _ _ ht
  walk_at "s"
  have lds := szAll_len (a := ds)
  have szq : szAll (qs.map (·.1)) + sz (.tuple (.str w' :: ds)) = szAll ((qs ++ [(PyData.tuple (PyData.str w' :: ds), m1 + 1)]).map (·.1)) := by
    rw [List.map_append, szAll_append]
    simp [szAll]
  have szd : sz (.tuple (.str w' :: ds)) = 1 + (1 + szAll ds) := by simp only [sz, szAll]
  refine ⟨H, t, _, us, ds, sm3, rfl, ht3, hus, by omega, fun p5 H4 ws5 sm4 e5 at5 => ?_⟩
  have h4r := sm4 _ _ h3r
  have h4f := sm4 _ _ h3f
  have l5 := at5.length
  have lf := szAll_filter (ds := ds) (p := isTupD)
  have lf2 := szAll_len (a := ds.filter isTupD)
  have lq := hq.length
  have lq2 := szAll_len (a := qs.map (·.1))
  have ltot : ws.length + ws5.length ≤ 50000 := by omega
  walk_at "s"
  rename_i rn hrn
  have em : (qs ++ (ds.filter isTupD).map fun e => (e, m1)).map (·.1) = qs.map (·.1) ++ ds.filter isTupD := by
    rw [List.map_append, List.map_map]
    simp [Function.comp_def]
  have es : szAll ((qs ++ (ds.filter isTupD).map fun e => (e, m1)).map (·.1)) = szAll (qs.map (·.1)) + szAll (ds.filter isTupD) := by
    rw [em, szAll_append]
  have hfr : fa ≠ rn := fun z => by rw [← z, h4f] at hrn; cases hrn
  refine ⟨_, ?_, rn, qs ++ (ds.filter isTupD).map fun e => (e, m1), ws ++ ws5, gs', _, rfl, rfl, upd_same, by rw [upd_ne hfr]; exact h4f, hfr, L2.Same.free (L2.Same.trans sm3 sm4) hrn, Same.new (L2.Same.trans sm3 sm4) hrn, by rw [em]; exact hq.append at5, ?_, ?_, gnd', fun v => ?_⟩
  · rw [es]
    omega
  · intro e he
    rcases List.mem_append.mp he with z | z
    · exact hok e (List.mem_append_left _ z)
    · obtain ⟨y, hy, rfl⟩ := List.mem_map.mp z
      obtain ⟨hy1, hy2⟩ := List.mem_filter.mp hy
      simp only [okD, okAll, Bool.and_eq_true] at okd
      exact ⟨okAll_mem okd.2 hy1, good_tups hgd hy1 hy2⟩
  · rw [es]
    omega
  · rw [gmem v, gmem' v]
    have key : v ∈ vals x (m1 + 1) (.tuple (.str w' :: ds)) ↔ v ∈ (if w' = x then [vOf (ds.getD 0 .none)] else []) ∨ ∃ e ∈ ds.filter isTupD, v ∈ vals x m1 e := by
      show v ∈ _ ++ _ ↔ _
      rw [List.mem_append, List.mem_flatMap]
    constructor
    · rintro (z | ⟨e, he, z⟩)
      · exact .inl (.inl z)
      · rcases List.mem_append.mp he with he | he
        · exact .inr ⟨e, List.mem_append_left _ he, z⟩
        · rw [List.mem_singleton.mp he] at z
          rcases key.mp z with z | ⟨y, hy, z⟩
          · exact .inl (.inr z)
          · exact .inr ⟨(y, m1), List.mem_append_right _ (List.mem_map.mpr ⟨y, hy, rfl⟩), z⟩
    · rintro ((z | z) | ⟨e, he, z⟩)
      · exact .inl z
      · exact .inr ⟨_, List.mem_append_right _ (List.mem_singleton.mpr rfl), key.mpr (.inl z)⟩
      · rcases List.mem_append.mp he with he | he
        · exact .inr ⟨e, List.mem_append_left _ he, z⟩
        · obtain ⟨y, hy, rfl⟩ := List.mem_map.mp he
          exact .inr ⟨_, List.mem_append_right _ (List.mem_singleton.mpr rfl), key.mpr (.inr ⟨y, hy, z⟩)⟩
end
end Fl

-- after: k09.tpl r8.tpl
namespace Fl
open PySem PySem.Spec PyProof.Rows L2 RZ
/-! ### the end -/
theorem defAt_mk {K : PySem.W.Frag} {h : Heap} {mg : Str → Option Value} {x : Str} {st : Stmt} {ps : List Str} {f : Addr} {oc : Value} {od an : Option Addr} {osl : Array (Option Value)} {kV doc pm cdv ct : Value} (X : K.In h) (G : h.Ns mainGlobals mg)
    (a : PySem.W.nsIn K mainGlobals x = some (some (.ref f))) (l : K.lookup f = some ⟨oc, od, .func (PySem.W.fnOf x x (defArgs st) (defBody st) (defScope st) .none kV doc pm an cdv ct), osl⟩) (c : PySem.W.codeIn K cdv x = true) (k : PySem.W.keepIn K (.ref f) = true)
    (b : ∀ (kV doc pm : Value) (an : Option Addr) (cdv ct : Value) (us : List Value), us.length = ps.length → bindArgs (PySem.W.fnOf x x (defArgs st) (defBody st) (defScope st) .none kV doc pm an cdv ct) ⟨us, []⟩ = pure (ps.zip us)) : DefAt K mg x st ps :=
  ⟨f, _, fun_mk l c k, PySem.W.mg_of X G a, (fun_mk l c k).binds b⟩
theorem law_fn {P : Program} {w : World} {K : PySem.W.Frag} {mg : Str → Option Value} {base : Heap} {x p1 : Str} {st : Stmt} {N : List Str} {fa : Addr} {fd : FuncData} {k : Nat} {g : Sp1} (F : Fun K x x st fa fd) (S : FnScope N [p1] (defScope st))
    (hb : ∀ f cdv A outer s H a Q E, RoomOf k x st f cdv A s → g a H Q E → Body P w K mg base N x st f cdv A outer s H [a] Q E) : FnOk P w K mg base (L2.CX P w) (k + 1) fa fd [p1] (sp1 g) :=
  F.okX S (fun vs H Q E ⟨a, e, _⟩ => by rw [e]; rfl) fun cdv A outer s H vs Q E hr ⟨a, e, h⟩ => by subst e; exact hb _ cdv A outer s H a Q E hr h
theorem all_mk {P : Program} {w : World} {K : PySem.W.Frag} {h : Heap} {mg : Str → Option Value} {fa : Addr} (X : K.In h) (G : h.Ns mainGlobals mg) (hfa : mg "law" = some (.ref fa))
    {t_MOST_ROWS : Tok} (k_MOST_ROWS : PySem.W.nsIn K mainGlobals "MOST_ROWS" = some (some (.int 20 t_MOST_ROWS)))
    {t_GREATEST : Tok} (k_GREATEST : PySem.W.nsIn K mainGlobals "GREATEST" = some (some (.int 1000000000 t_GREATEST)))
    {t_DEEPEST : Tok} (k_DEEPEST : PySem.W.nsIn K mainGlobals "DEEPEST" = some (some (.int 8 t_DEEPEST)))
    {t_LONGEST : Tok} (k_LONGEST : PySem.W.nsIn K mainGlobals "LONGEST" = some (some (.int 8 t_LONGEST)))
    {t_LETTERS : Tok} (k_LETTERS : PySem.W.nsIn K mainGlobals "LETTERS" = some (some (.str "abcdefghijklmnopqrstuvwxyz" t_LETTERS)))
    {t_MOST_LINES : Tok} (k_MOST_LINES : PySem.W.nsIn K mainGlobals "MOST_LINES" = some (some (.int 40 t_MOST_LINES)))
    {t_MOST_TABLES : Tok} (k_MOST_TABLES : PySem.W.nsIn K mainGlobals "MOST_TABLES" = some (some (.int 5 t_MOST_TABLES)))
    {t_MOST_CHOICES : Tok} (k_MOST_CHOICES : PySem.W.nsIn K mainGlobals "MOST_CHOICES" = some (some (.int 8 t_MOST_CHOICES)))
    {t_MOST : Tok} (k_MOST : PySem.W.nsIn K mainGlobals "MOST" = some (some (.int 8 t_MOST)))
    (z_all : PySem.W.nsIn K mainGlobals "all" = some none)
    (z_any : PySem.W.nsIn K mainGlobals "any" = some none)
    (z_bool : PySem.W.nsIn K mainGlobals "bool" = some none)
    (z_dict : PySem.W.nsIn K mainGlobals "dict" = some none)
    (z_int : PySem.W.nsIn K mainGlobals "int" = some none)
    (z_isinstance : PySem.W.nsIn K mainGlobals "isinstance" = some none)
    (z_len : PySem.W.nsIn K mainGlobals "len" = some none)
    (z_list : PySem.W.nsIn K mainGlobals "list" = some none)
    (z_max : PySem.W.nsIn K mainGlobals "max" = some none)
    (z_min : PySem.W.nsIn K mainGlobals "min" = some none)
    (z_range : PySem.W.nsIn K mainGlobals "range" = some none)
    (z_reversed : PySem.W.nsIn K mainGlobals "reversed" = some none)
    (z_sorted : PySem.W.nsIn K mainGlobals "sorted" = some none)
    (z_str : PySem.W.nsIn K mainGlobals "str" = some none)
    (z_sum : PySem.W.nsIn K mainGlobals "sum" = some none)
    (z_tuple : PySem.W.nsIn K mainGlobals "tuple" = some none)
    (z_zip : PySem.W.nsIn K mainGlobals "zip" = some none)
    (z_ValueError : PySem.W.nsIn K mainGlobals "ValueError" = some none)
    {C_NoTable : Addr} (n_NoTable : PySem.W.nsIn K mainGlobals "NoTable" = some (some (.ref C_NoTable))) (x_NoTable : PySem.W.excIn K C_NoTable [.type "ValueError", .type "Exception", .type "BaseException", .type "object"] "ValueError.__new__" = true) (q_NoTable : PySem.W.keepIn K (.ref C_NoTable) = true) (b_NoTable : PySem.W.subIn K (.ref C_NoTable) (.type "BaseException") = some true) (t_NoTable : PySem.W.typeIn K (.ref C_NoTable) = some (.type "type")) (d_NoTable : PySem.W.hasDictIn K C_NoTable = true)
    {C_NoForm : Addr} (n_NoForm : PySem.W.nsIn K mainGlobals "NoForm" = some (some (.ref C_NoForm))) (x_NoForm : PySem.W.excIn K C_NoForm [.type "ValueError", .type "Exception", .type "BaseException", .type "object"] "ValueError.__new__" = true) (q_NoForm : PySem.W.keepIn K (.ref C_NoForm) = true) (b_NoForm : PySem.W.subIn K (.ref C_NoForm) (.type "BaseException") = some true) (t_NoForm : PySem.W.typeIn K (.ref C_NoForm) = some (.type "type")) (d_NoForm : PySem.W.hasDictIn K C_NoForm = true)
    {C_NoRule : Addr} (n_NoRule : PySem.W.nsIn K mainGlobals "NoRule" = some (some (.ref C_NoRule))) (x_NoRule : PySem.W.excIn K C_NoRule [.type "ValueError", .type "Exception", .type "BaseException", .type "object"] "ValueError.__new__" = true) (q_NoRule : PySem.W.keepIn K (.ref C_NoRule) = true) (b_NoRule : PySem.W.subIn K (.ref C_NoRule) (.type "BaseException") = some true) (t_NoRule : PySem.W.typeIn K (.ref C_NoRule) = some (.type "type")) (d_NoRule : PySem.W.hasDictIn K C_NoRule = true)
    {C_Ring : Addr} (n_Ring : PySem.W.nsIn K mainGlobals "Ring" = some (some (.ref C_Ring))) (x_Ring : PySem.W.excIn K C_Ring [.type "ValueError", .type "Exception", .type "BaseException", .type "object"] "ValueError.__new__" = true) (q_Ring : PySem.W.keepIn K (.ref C_Ring) = true) (b_Ring : PySem.W.subIn K (.ref C_Ring) (.type "BaseException") = some true) (t_Ring : PySem.W.typeIn K (.ref C_Ring) = some (.type "type")) (d_Ring : PySem.W.hasDictIn K C_Ring = true)
    {C_NoPaper : Addr} (n_NoPaper : PySem.W.nsIn K mainGlobals "NoPaper" = some (some (.ref C_NoPaper))) (x_NoPaper : PySem.W.excIn K C_NoPaper [.type "ValueError", .type "Exception", .type "BaseException", .type "object"] "ValueError.__new__" = true) (q_NoPaper : PySem.W.keepIn K (.ref C_NoPaper) = true) (b_NoPaper : PySem.W.subIn K (.ref C_NoPaper) (.type "BaseException") = some true) (t_NoPaper : PySem.W.typeIn K (.ref C_NoPaper) = some (.type "type")) (d_NoPaper : PySem.W.hasDictIn K C_NoPaper = true)
    {C_NoYear : Addr} (n_NoYear : PySem.W.nsIn K mainGlobals "NoYear" = some (some (.ref C_NoYear))) (x_NoYear : PySem.W.excIn K C_NoYear [.type "ValueError", .type "Exception", .type "BaseException", .type "object"] "ValueError.__new__" = true) (q_NoYear : PySem.W.keepIn K (.ref C_NoYear) = true) (b_NoYear : PySem.W.subIn K (.ref C_NoYear) (.type "BaseException") = some true) (t_NoYear : PySem.W.typeIn K (.ref C_NoYear) = some (.type "type")) (d_NoYear : PySem.W.hasDictIn K C_NoYear = true)
    {C_NoLine : Addr} (n_NoLine : PySem.W.nsIn K mainGlobals "NoLine" = some (some (.ref C_NoLine))) (x_NoLine : PySem.W.excIn K C_NoLine [.type "ValueError", .type "Exception", .type "BaseException", .type "object"] "ValueError.__new__" = true) (q_NoLine : PySem.W.keepIn K (.ref C_NoLine) = true) (b_NoLine : PySem.W.subIn K (.ref C_NoLine) (.type "BaseException") = some true) (t_NoLine : PySem.W.typeIn K (.ref C_NoLine) = some (.type "type")) (d_NoLine : PySem.W.hasDictIn K C_NoLine = true)
    {C_NoChoice : Addr} (n_NoChoice : PySem.W.nsIn K mainGlobals "NoChoice" = some (some (.ref C_NoChoice))) (x_NoChoice : PySem.W.excIn K C_NoChoice [.type "ValueError", .type "Exception", .type "BaseException", .type "object"] "ValueError.__new__" = true) (q_NoChoice : PySem.W.keepIn K (.ref C_NoChoice) = true) (b_NoChoice : PySem.W.subIn K (.ref C_NoChoice) (.type "BaseException") = some true) (t_NoChoice : PySem.W.typeIn K (.ref C_NoChoice) = some (.type "type")) (d_NoChoice : PySem.W.hasDictIn K C_NoChoice = true)
    {C_TooMany : Addr} (n_TooMany : PySem.W.nsIn K mainGlobals "TooMany" = some (some (.ref C_TooMany))) (x_TooMany : PySem.W.excIn K C_TooMany [.type "ValueError", .type "Exception", .type "BaseException", .type "object"] "ValueError.__new__" = true) (q_TooMany : PySem.W.keepIn K (.ref C_TooMany) = true) (b_TooMany : PySem.W.subIn K (.ref C_TooMany) (.type "BaseException") = some true) (t_TooMany : PySem.W.typeIn K (.ref C_TooMany) = some (.type "type")) (d_TooMany : PySem.W.hasDictIn K C_TooMany = true)
    {C_FormError : Addr} (n_FormError : PySem.W.nsIn K mainGlobals "FormError" = some (some (.ref C_FormError))) (x_FormError : PySem.W.excIn K C_FormError [.type "ValueError", .type "Exception", .type "BaseException", .type "object"] "ValueError.__new__" = true) (q_FormError : PySem.W.keepIn K (.ref C_FormError) = true) (b_FormError : PySem.W.subIn K (.ref C_FormError) (.type "BaseException") = some true) (t_FormError : PySem.W.typeIn K (.ref C_FormError) = some (.type "type")) (d_FormError : PySem.W.hasDictIn K C_FormError = true)
    (SB_TooMany_TooMany : PySem.W.subIn K (.ref C_TooMany) (.ref C_TooMany) = some true)
    (SB_NoPaper_TooMany : PySem.W.subIn K (.ref C_NoPaper) (.ref C_TooMany) = some false)
    (SB_NoPaper_NoPaper : PySem.W.subIn K (.ref C_NoPaper) (.ref C_NoPaper) = some true)
    (SB_TooMany_FormError : PySem.W.subIn K (.ref C_TooMany) (.ref C_FormError) = some true)
    (SB_NoPaper_FormError : PySem.W.subIn K (.ref C_NoPaper) (.ref C_FormError) = some true)
    (hn_ : PySem.W.specialIn K (.builtin "object.__class__") "__get__" = some (some (.builtin "getset_descriptor.__get__"))) (ht_ : PySem.W.takesIn K (.builtin "object.__class__") = some true)
    (hg_TooMany : PySem.W.findIn K (.ref C_TooMany) "__getattribute__" = some (some (.builtin "BaseException.__getattribute__"))) (hk_TooMany : PySem.W.findIn K (.ref C_TooMany) "__getattr__" = some none) (ha_TooMany : PySem.W.findIn K (.ref C_TooMany) "__class__" = some (some (.builtin "object.__class__"))) (hm_TooMany : PySem.W.mroIn K C_TooMany (.type "object") = some true) (KV_TooMany : PySem.W.kitOne K (.ref C_TooMany) (.type "ValueError") = some true)
    (KI_TooMany_NoTable : PySem.W.kitOne K (.ref C_TooMany) (.ref C_NoTable) = some false)
    (KI_TooMany_NoForm : PySem.W.kitOne K (.ref C_TooMany) (.ref C_NoForm) = some false)
    (KI_TooMany_NoRule : PySem.W.kitOne K (.ref C_TooMany) (.ref C_NoRule) = some false)
    (KI_TooMany_Ring : PySem.W.kitOne K (.ref C_TooMany) (.ref C_Ring) = some false)
    (KI_TooMany_NoPaper : PySem.W.kitOne K (.ref C_TooMany) (.ref C_NoPaper) = some false)
    (KI_TooMany_NoYear : PySem.W.kitOne K (.ref C_TooMany) (.ref C_NoYear) = some false)
    (KI_TooMany_NoLine : PySem.W.kitOne K (.ref C_TooMany) (.ref C_NoLine) = some false)
    (KI_TooMany_NoChoice : PySem.W.kitOne K (.ref C_TooMany) (.ref C_NoChoice) = some false)
    (KI_TooMany_TooMany : PySem.W.kitOne K (.ref C_TooMany) (.ref C_TooMany) = some true)
    (hg_NoPaper : PySem.W.findIn K (.ref C_NoPaper) "__getattribute__" = some (some (.builtin "BaseException.__getattribute__"))) (hk_NoPaper : PySem.W.findIn K (.ref C_NoPaper) "__getattr__" = some none) (ha_NoPaper : PySem.W.findIn K (.ref C_NoPaper) "__class__" = some (some (.builtin "object.__class__"))) (hm_NoPaper : PySem.W.mroIn K C_NoPaper (.type "object") = some true) (KV_NoPaper : PySem.W.kitOne K (.ref C_NoPaper) (.type "ValueError") = some true)
    (KI_NoPaper_NoTable : PySem.W.kitOne K (.ref C_NoPaper) (.ref C_NoTable) = some false)
    (KI_NoPaper_NoForm : PySem.W.kitOne K (.ref C_NoPaper) (.ref C_NoForm) = some false)
    (KI_NoPaper_NoRule : PySem.W.kitOne K (.ref C_NoPaper) (.ref C_NoRule) = some false)
    (KI_NoPaper_Ring : PySem.W.kitOne K (.ref C_NoPaper) (.ref C_Ring) = some false)
    (KI_NoPaper_NoPaper : PySem.W.kitOne K (.ref C_NoPaper) (.ref C_NoPaper) = some true)
    (KI_NoPaper_NoYear : PySem.W.kitOne K (.ref C_NoPaper) (.ref C_NoYear) = some false)
    (KI_NoPaper_NoLine : PySem.W.kitOne K (.ref C_NoPaper) (.ref C_NoLine) = some false)
    (KI_NoPaper_NoChoice : PySem.W.kitOne K (.ref C_NoPaper) (.ref C_NoChoice) = some false)
    (KI_NoPaper_TooMany : PySem.W.kitOne K (.ref C_NoPaper) (.ref C_TooMany) = some false)
    (D_is_whole : DefAt K mg "is_whole" s_is_whole ["thing", "least", "most"])
    (D_is_number : DefAt K mg "is_number" s_is_number ["thing"])
    (D_is_row : DefAt K mg "is_row" s_is_row ["thing"])
    (D_is_table : DefAt K mg "is_table" s_is_table ["thing"])
    (D_at_number : DefAt K mg "at_number" s_at_number ["table", "number"])
    (D_is_word : DefAt K mg "is_word" s_is_word ["thing"])
    (D_is_plain : DefAt K mg "is_plain" s_is_plain ["rule", "lines"])
    (D_places_of : DefAt K mg "places_of" s_places_of ["rule", "tables", "choices"])
    (D_is_rule : DefAt K mg "is_rule" s_is_rule ["thing", "lines", "tables", "choices"])
    (D_inner_rules : DefAt K mg "inner_rules" s_inner_rules ["rule"])
    (D_named : DefAt K mg "named" s_named ["rule", "word"])
    (D_ring_from : DefAt K mg "ring_from" s_ring_from ["lines", "first"])
    (D_ring_of : DefAt K mg "ring_of" s_ring_of ["lines"])
    (D_form_of : DefAt K mg "form_of" s_form_of ["lines", "tables", "choices", "owed"])
    (D_order_of : DefAt K mg "order_of" s_order_of ["form"])
    (D_joined : DefAt K mg "joined" s_joined ["kind", "one", "other"])
    (D_comes_to : DefAt K mg "comes_to" s_comes_to ["rule", "sight"])
    (D_papers_of : DefAt K mg "papers_of" s_papers_of ["pairs"])
    (D_need_choices : DefAt K mg "need_choices" s_need_choices ["form", "taken"])
    (D_reckoned : DefAt K mg "reckoned" s_reckoned ["form", "pairs", "earlier", "taken"])
    (D_history : DefAt K mg "history" s_history ["form", "years", "taken"])
    (D_all_taken : DefAt K mg "all_taken" s_all_taken ["many"])
    (D_by_years : DefAt K mg "by_years" s_by_years ["row", "choices", "count"])
    (D_owed : DefAt K mg "owed" s_owed ["form", "years", "taken"])
    (D_sums : DefAt K mg "sums" s_sums ["form", "years"])
    (D_least : DefAt K mg "least" s_least ["form", "years"])
    (D__law_cell_at : DefAt K mg "_law_cell_at" s__law_cell_at ["_law_script", "_law_k"])
    (D__law_mixed : DefAt K mg "_law_mixed" s__law_mixed ["_law_cell", "_law_k"])
    (D__law_next : DefAt K mg "_law_next" s__law_next ["_law_state", "_law_size"])
    (D__law_whole : DefAt K mg "_law_whole" s__law_whole ["_law_found"])
    (D__law_number : DefAt K mg "_law_number" s__law_number ["_law_state"])
    (D__law_table : DefAt K mg "_law_table" s__law_table ["_law_state"])
    (D__law_words : DefAt K mg "_law_words" s__law_words ["_law_state"])
    (D__law_plain : DefAt K mg "_law_plain" s__law_plain ["_law_state", "_law_seen", "_law_sizes_here", "_law_words_here"])
    (D__law_rule : DefAt K mg "_law_rule" s__law_rule ["_law_state", "_law_deep", "_law_seen", "_law_sizes_here", "_law_words_here"])
    (D__law_sizes : DefAt K mg "_law_sizes" s__law_sizes ["_law_cell", "_law_most"])
    (D__law_order : DefAt K mg "_law_order" s__law_order ["_law_state", "_law_many"])
    (D__law_form : DefAt K mg "_law_form" s__law_form ["_law_script", "_law_most"])
    (D__law_named : DefAt K mg "_law_named" s__law_named ["_law_rule_here", "_law_word"])
    (D__law_at : DefAt K mg "_law_at" s__law_at ["_law_table_here", "_law_number_here"])
    (D__law_value : DefAt K mg "_law_value" s__law_value ["_law_rule_here", "_law_sight"])
    (D__law_papers : DefAt K mg "_law_papers" s__law_papers ["_law_state", "_law_words_here"])
    (D__law_alone : DefAt K mg "_law_alone" s__law_alone ["_law_e"])
    (D__law_row : DefAt K mg "_law_row" s__law_row ["_law_lines"])
    (D__law_reckoned : DefAt K mg "_law_reckoned" s__law_reckoned ["_law_form_here", "_law_row_here", "_law_pairs", "_law_earlier", "_law_taken_here"])
    (D__law_sum : DefAt K mg "_law_sum" s__law_sum ["_law_form_here", "_law_row_here", "_law_years", "_law_taken_here"])
    (D__law_choices : DefAt K mg "_law_choices" s__law_choices ["_law_number_here", "_law_choices_here", "_law_count"])
    (D__law_all : DefAt K mg "_law_all" s__law_all ["_law_form_here", "_law_years"])
    (D__law_tried : DefAt K mg "_law_tried" s__law_tried ["_law_form_here", "_law_years", "_law_way"])
    (D__law_any : DefAt K mg "_law_any" s__law_any ["_law_form_here", "_law_years"])
    (D__law_refused : DefAt K mg "_law_refused" s__law_refused ["_law_form_here", "_law_years", "_law_word"])
    (D__law_kinds : DefAt K mg "_law_kinds" s__law_kinds ["_law_found"])
    {f0 : Addr} {oc : Value} {od an : Option Addr} {osl : Array (Option Value)} {kV doc pm cdv ct : Value} (a0 : PySem.W.nsIn K mainGlobals "law" = some (some (.ref f0))) (l0 : K.lookup f0 = some ⟨oc, od, .func (PySem.W.fnOf "law" "law" (defArgs s_law) (defBody s_law) (defScope s_law) .none kV doc pm an cdv ct), osl⟩) (c0 : PySem.W.codeIn K cdv "law" = true) (k0 : PySem.W.keepIn K (.ref f0) = true) :
    ∃ fd : FuncData, (∀ (s : Shared) (u : Value), BindsTo s fd ⟨[u], []⟩ [("_law_script", u)]) ∧ ∀ base : Heap, K.In base → base.Ns mainGlobals mg → FnOk P w K mg base (L2.CX P w) 17 fa fd ["_law_script"] (sp1 (sp_law K)) := by
  cases hfa.symm.trans (PySem.W.mg_of X G a0)
  have F := fun_mk (st := s_law) l0 c0 k0
  have M : Mg mg := ⟨PySem.W.mg_none_of X G z_all, PySem.W.mg_none_of X G z_any, PySem.W.mg_none_of X G z_bool, PySem.W.mg_none_of X G z_dict, PySem.W.mg_none_of X G z_int, PySem.W.mg_none_of X G z_isinstance, PySem.W.mg_none_of X G z_len, PySem.W.mg_none_of X G z_list, PySem.W.mg_none_of X G z_max, PySem.W.mg_none_of X G z_min, PySem.W.mg_none_of X G z_range, PySem.W.mg_none_of X G z_reversed, PySem.W.mg_none_of X G z_sorted, PySem.W.mg_none_of X G z_str, PySem.W.mg_none_of X G z_sum, PySem.W.mg_none_of X G z_tuple, PySem.W.mg_none_of X G z_zip, PySem.W.mg_none_of X G z_ValueError⟩
  have c_MOST_ROWS : ∃ t, mg "MOST_ROWS" = some (.int 20 t) := ⟨_, PySem.W.mg_of X G k_MOST_ROWS⟩
  have c_GREATEST : ∃ t, mg "GREATEST" = some (.int 1000000000 t) := ⟨_, PySem.W.mg_of X G k_GREATEST⟩
  have c_DEEPEST : ∃ t, mg "DEEPEST" = some (.int 8 t) := ⟨_, PySem.W.mg_of X G k_DEEPEST⟩
  have c_LONGEST : ∃ t, mg "LONGEST" = some (.int 8 t) := ⟨_, PySem.W.mg_of X G k_LONGEST⟩
  have c_LETTERS : ∃ t, mg "LETTERS" = some (.str "abcdefghijklmnopqrstuvwxyz" t) := ⟨_, PySem.W.mg_of X G k_LETTERS⟩
  have c_MOST_LINES : ∃ t, mg "MOST_LINES" = some (.int 40 t) := ⟨_, PySem.W.mg_of X G k_MOST_LINES⟩
  have c_MOST_TABLES : ∃ t, mg "MOST_TABLES" = some (.int 5 t) := ⟨_, PySem.W.mg_of X G k_MOST_TABLES⟩
  have c_MOST_CHOICES : ∃ t, mg "MOST_CHOICES" = some (.int 8 t) := ⟨_, PySem.W.mg_of X G k_MOST_CHOICES⟩
  have c_MOST : ∃ t, mg "MOST" = some (.int 8 t) := ⟨_, PySem.W.mg_of X G k_MOST⟩
  have T_NoTable : ExcT K mg "NoTable" C_NoTable := ⟨x_NoTable, PySem.W.mg_of X G n_NoTable, q_NoTable, b_NoTable, t_NoTable, d_NoTable⟩
  have T_NoForm : ExcT K mg "NoForm" C_NoForm := ⟨x_NoForm, PySem.W.mg_of X G n_NoForm, q_NoForm, b_NoForm, t_NoForm, d_NoForm⟩
  have T_NoRule : ExcT K mg "NoRule" C_NoRule := ⟨x_NoRule, PySem.W.mg_of X G n_NoRule, q_NoRule, b_NoRule, t_NoRule, d_NoRule⟩
  have T_Ring : ExcT K mg "Ring" C_Ring := ⟨x_Ring, PySem.W.mg_of X G n_Ring, q_Ring, b_Ring, t_Ring, d_Ring⟩
  have T_NoPaper : ExcT K mg "NoPaper" C_NoPaper := ⟨x_NoPaper, PySem.W.mg_of X G n_NoPaper, q_NoPaper, b_NoPaper, t_NoPaper, d_NoPaper⟩
  have T_NoYear : ExcT K mg "NoYear" C_NoYear := ⟨x_NoYear, PySem.W.mg_of X G n_NoYear, q_NoYear, b_NoYear, t_NoYear, d_NoYear⟩
  have T_NoLine : ExcT K mg "NoLine" C_NoLine := ⟨x_NoLine, PySem.W.mg_of X G n_NoLine, q_NoLine, b_NoLine, t_NoLine, d_NoLine⟩
  have T_NoChoice : ExcT K mg "NoChoice" C_NoChoice := ⟨x_NoChoice, PySem.W.mg_of X G n_NoChoice, q_NoChoice, b_NoChoice, t_NoChoice, d_NoChoice⟩
  have T_TooMany : ExcT K mg "TooMany" C_TooMany := ⟨x_TooMany, PySem.W.mg_of X G n_TooMany, q_TooMany, b_TooMany, t_TooMany, d_TooMany⟩
  have T_FormError : ExcT K mg "FormError" C_FormError := ⟨x_FormError, PySem.W.mg_of X G n_FormError, q_FormError, b_FormError, t_FormError, d_FormError⟩
  have e_TooMany_TooMany := PySem.W.exm_ref b_TooMany d_TooMany t_TooMany SB_TooMany_TooMany
  have e_NoPaper_TooMany := PySem.W.exm_ref b_TooMany d_TooMany t_TooMany SB_NoPaper_TooMany
  have e_NoPaper_NoPaper := PySem.W.exm_ref b_NoPaper d_NoPaper t_NoPaper SB_NoPaper_NoPaper
  have e_TooMany_FormError := PySem.W.exm_ref b_FormError d_FormError t_FormError SB_TooMany_FormError
  have e_NoPaper_FormError := PySem.W.exm_ref b_FormError d_FormError t_FormError SB_NoPaper_FormError
  have A_TooMany : AlC K C_TooMany _ _ := AlC.of ⟨hg_TooMany, hk_TooMany, b_TooMany, d_TooMany, ha_TooMany, hn_, ht_, hm_TooMany⟩ KV_TooMany KI_TooMany_NoTable KI_TooMany_NoForm KI_TooMany_NoRule KI_TooMany_Ring KI_TooMany_NoPaper KI_TooMany_NoYear KI_TooMany_NoLine KI_TooMany_NoChoice KI_TooMany_TooMany rfl
  have A_NoPaper : AlC K C_NoPaper _ _ := AlC.of ⟨hg_NoPaper, hk_NoPaper, b_NoPaper, d_NoPaper, ha_NoPaper, hn_, ht_, hm_NoPaper⟩ KV_NoPaper KI_NoPaper_NoTable KI_NoPaper_NoForm KI_NoPaper_NoRule KI_NoPaper_Ring KI_NoPaper_NoPaper KI_NoPaper_NoYear KI_NoPaper_NoLine KI_NoPaper_NoChoice KI_NoPaper_TooMany rfl
  refine ⟨PySem.W.fnOf "law" "law" (defArgs s_law) (defBody s_law) (defScope s_law) .none kV doc pm an cdv ct, fun s v => .of_eq rfl, fun base _ _ => ?_⟩
  have g_is_whole := ok_is_whole (P := P) (w := w) (base := base) M D_is_whole
  have g_is_number := ok_is_number (P := P) (w := w) (base := base) M c_GREATEST g_is_whole D_is_number
  have g_is_row := ok_is_row (P := P) (w := w) (base := base) M g_is_whole g_is_number D_is_row
  have g_is_table := ok_is_table (P := P) (w := w) (base := base) M c_MOST_ROWS g_is_row D_is_table
  have g_at_number := ok_at_number (P := P) (w := w) (base := base) M D_at_number
  have g_is_word := ok_is_word (P := P) (w := w) (base := base) M c_LONGEST c_LETTERS D_is_word
  have g_is_plain := ok_is_plain (P := P) (w := w) (base := base) M g_is_whole g_is_number g_is_word D_is_plain
  have g_places_of := ok_places_of (P := P) (w := w) (base := base) M g_is_whole D_places_of
  have g_is_rule := ok_is_rule (P := P) (w := w) (base := base) M c_DEEPEST g_places_of g_is_plain D_is_rule
  have g_inner_rules := ok_inner_rules (P := P) (w := w) (base := base) M D_inner_rules
  have g_named := ok_named (P := P) (w := w) (base := base) M g_inner_rules D_named
  have g_ring_from := ok_ring_from (P := P) (w := w) (base := base) M g_named D_ring_from
  have g_ring_of := ok_ring_of (P := P) (w := w) (base := base) M g_ring_from D_ring_of
  have g_form_of := ok_form_of (P := P) (w := w) (base := base) M c_MOST_LINES c_MOST_TABLES c_MOST_CHOICES g_is_table g_is_whole g_is_rule g_ring_of D_form_of
  have g_order_of := ok_order_of (P := P) (w := w) (base := base) M g_named D_order_of
  have g_joined := ok_joined (P := P) (w := w) (base := base) M D_joined
  have g_comes_to := ok_comes_to (P := P) (w := w) (base := base) M g_at_number g_joined D_comes_to 8
  have g_papers_of := ok_papers_of (P := P) (w := w) (base := base) M T_NoPaper g_is_word g_is_number D_papers_of
  have g_need_choices := ok_need_choices (P := P) (w := w) (base := base) M T_NoChoice D_need_choices
  have g_reckoned := ok_reckoned (P := P) (w := w) (base := base) M g_papers_of g_need_choices g_order_of g_comes_to D_reckoned
  have g_history := ok_history (P := P) (w := w) (base := base) M g_reckoned D_history
  have g_all_taken := ok_all_taken (P := P) (w := w) (base := base) M D_all_taken
  have g_by_years := ok_by_years (P := P) (w := w) (base := base) M D_by_years
  have g_owed := ok_owed (P := P) (w := w) (base := base) M g_history D_owed
  have g_sums := ok_sums (P := P) (w := w) (base := base) M T_TooMany c_MOST g_all_taken g_by_years g_owed D_sums
  have g_least := ok_least (P := P) (w := w) (base := base) M g_sums D_least
  have g__law_cell_at := ok_cell_at (P := P) (w := w) (base := base) M D__law_cell_at
  have g__law_mixed := ok_mixed (P := P) (w := w) (base := base) M D__law_mixed
  have g__law_next := ok_next (P := P) (w := w) (base := base) M D__law_next
  have g__law_whole := ok_whole (P := P) (w := w) (base := base) M D__law_whole
  have g__law_number := ok_number (P := P) (w := w) (base := base) M g__law_next D__law_number
  have g__law_table := ok_law_table (P := P) (w := w) (base := base) M g__law_next g__law_number D__law_table
  have g__law_words := ok_words (P := P) (w := w) (base := base) M g__law_next D__law_words
  have g__law_plain := ok_plain (P := P) (w := w) (base := base) M g__law_next g__law_number D__law_plain
  have g__law_rule := ok_rule (P := P) (w := w) (base := base) M g__law_next g__law_plain D__law_rule 8
  have g__law_sizes := ok_sizes (P := P) (w := w) (base := base) M D__law_sizes
  have g__law_order := ok_order (P := P) (w := w) (base := base) M g__law_next D__law_order
  have g__law_form := ok_form (P := P) (w := w) (base := base) M g__law_cell_at g__law_mixed g__law_next g__law_sizes g__law_words g__law_order g__law_rule g__law_table D__law_form
  have g__law_named := ok_law_named (P := P) (w := w) (base := base) M D__law_named 8
  have g__law_at := ok_law_at (P := P) (w := w) (base := base) M D__law_at
  have g__law_value := ok_law_value (P := P) (w := w) (base := base) M g__law_at D__law_value 8
  have g__law_papers := ok_law_papers (P := P) (w := w) (base := base) M g__law_next g__law_number D__law_papers
  have g__law_alone := ok_law_alone (P := P) (w := w) (base := base) M T_NoTable T_NoForm T_NoRule T_Ring T_NoPaper T_NoYear T_NoLine T_NoChoice T_TooMany D__law_alone
  have g__law_row := ok_law_row (P := P) (w := w) (base := base) M g__law_named D__law_row
  have g__law_reckoned := ok_law_reckoned (P := P) (w := w) (base := base) M g__law_value D__law_reckoned
  have g__law_sum := ok_law_sum (P := P) (w := w) (base := base) M g__law_reckoned D__law_sum
  have g__law_choices := ok_law_choices (P := P) (w := w) (base := base) M D__law_choices
  have g__law_all := ok_law_all (P := P) (w := w) (base := base) M g__law_row g__law_choices g__law_sum D__law_all
  have g__law_tried := ok_law_tried (P := P) (w := w) (base := base) M T_TooMany T_NoPaper e_TooMany_TooMany e_NoPaper_TooMany e_NoPaper_NoPaper g_sums g_least D__law_tried
  have g__law_any := ok_law_any (P := P) (w := w) (base := base) M T_FormError e_TooMany_FormError e_NoPaper_FormError A_TooMany A_NoPaper g__law_alone g_sums D__law_any
  have g__law_refused := ok_law_refused (P := P) (w := w) (base := base) M g__law_tried g__law_any D__law_refused
  have g__law_kinds := ok_law_kinds (P := P) (w := w) (base := base) M g__law_whole D__law_kinds
  exact law_fn F sc_law (ok_law M g__law_cell_at g__law_mixed g__law_next g__law_form g__law_papers g__law_refused g__law_all g__law_kinds g_form_of g_sums g_least)
end Fl
open PySem PySem.W PyProof.Rows
set_option maxRecDepth 100000 in
set_option maxHeartbeats 0 in
theorem PySem.Challenge.cw_formlines_k09_whole_choices_holds : PySem.Challenge.rw_formlines_k09_whole_choices.Holds := by
  w_on; o_law; k_head; (case hw => w_witness2)
  k_fill
  refine L2.walk_of (l := PySem.Challenge.rw_formlines_k09_whole_choices) (n := 63) (k := 17) (x := "_law_script") (CX := fun w => L2.CX PySem.Challenge.rw_formlines_k09_whole_choices.prog w) (sp := fun w => Fl.sp1 (Fl.sp_law _)) rfl (by decide) rfl ⟨rfl, by decide, by decide⟩ (fun w h Y => PySem.W.kIn_of Y) ?F (fun w H a ns hl ho hS => ⟨_, rfl, a, ns, rfl, Fl.Scr.of ho hS, fun _ => rfl⟩) (fun _ _ _ _ _ ⟨_, _, _, _, _, _, _, _, _, _, _, _, z⟩ => z)
  case F =>
    intro w mg fa h KX G hmg
    refine' Fl.all_mk KX G hmg ?k_MOST_ROWS
      ?k_GREATEST
      ?k_DEEPEST
      ?k_LONGEST
      ?k_LETTERS
      ?k_MOST_LINES
      ?k_MOST_TABLES
      ?k_MOST_CHOICES
      ?k_MOST
      ?z_all
      ?z_any
      ?z_bool
      ?z_dict
      ?z_int
      ?z_isinstance
      ?z_len
      ?z_list
      ?z_max
      ?z_min
      ?z_range
      ?z_reversed
      ?z_sorted
      ?z_str
      ?z_sum
      ?z_tuple
      ?z_zip
      ?z_ValueError
      ?n_NoTable
      ?x_NoTable
      ?q_NoTable
      ?b_NoTable
      ?t_NoTable
      ?d_NoTable
      ?n_NoForm
      ?x_NoForm
      ?q_NoForm
      ?b_NoForm
      ?t_NoForm
      ?d_NoForm
      ?n_NoRule
      ?x_NoRule
      ?q_NoRule
      ?b_NoRule
      ?t_NoRule
      ?d_NoRule
      ?n_Ring
      ?x_Ring
      ?q_Ring
      ?b_Ring
      ?t_Ring
      ?d_Ring
      ?n_NoPaper
      ?x_NoPaper
      ?q_NoPaper
      ?b_NoPaper
      ?t_NoPaper
      ?d_NoPaper
      ?n_NoYear
      ?x_NoYear
      ?q_NoYear
      ?b_NoYear
      ?t_NoYear
      ?d_NoYear
      ?n_NoLine
      ?x_NoLine
      ?q_NoLine
      ?b_NoLine
      ?t_NoLine
      ?d_NoLine
      ?n_NoChoice
      ?x_NoChoice
      ?q_NoChoice
      ?b_NoChoice
      ?t_NoChoice
      ?d_NoChoice
      ?n_TooMany
      ?x_TooMany
      ?q_TooMany
      ?b_TooMany
      ?t_TooMany
      ?d_TooMany
      ?n_FormError
      ?x_FormError
      ?q_FormError
      ?b_FormError
      ?t_FormError
      ?d_FormError
      ?SB_TooMany_TooMany
      ?SB_NoPaper_TooMany
      ?SB_NoPaper_NoPaper
      ?SB_TooMany_FormError
      ?SB_NoPaper_FormError
      ?hn_
      ?ht_
      ?hg_TooMany
      ?hk_TooMany
      ?ha_TooMany
      ?hm_TooMany
      ?KV_TooMany
      ?KI_TooMany_NoTable
      ?KI_TooMany_NoForm
      ?KI_TooMany_NoRule
      ?KI_TooMany_Ring
      ?KI_TooMany_NoPaper
      ?KI_TooMany_NoYear
      ?KI_TooMany_NoLine
      ?KI_TooMany_NoChoice
      ?KI_TooMany_TooMany
      ?hg_NoPaper
      ?hk_NoPaper
      ?ha_NoPaper
      ?hm_NoPaper
      ?KV_NoPaper
      ?KI_NoPaper_NoTable
      ?KI_NoPaper_NoForm
      ?KI_NoPaper_NoRule
      ?KI_NoPaper_Ring
      ?KI_NoPaper_NoPaper
      ?KI_NoPaper_NoYear
      ?KI_NoPaper_NoLine
      ?KI_NoPaper_NoChoice
      ?KI_NoPaper_TooMany
      (Fl.defAt_mk KX G ?a_is_whole ?l_is_whole ?c_is_whole ?k_is_whole (fun _ _ _ _ _ _ us hl => match us, hl with | [_, _, _], _ => rfl))
      (Fl.defAt_mk KX G ?a_is_number ?l_is_number ?c_is_number ?k_is_number (fun _ _ _ _ _ _ us hl => match us, hl with | [_], _ => rfl))
      (Fl.defAt_mk KX G ?a_is_row ?l_is_row ?c_is_row ?k_is_row (fun _ _ _ _ _ _ us hl => match us, hl with | [_], _ => rfl))
      (Fl.defAt_mk KX G ?a_is_table ?l_is_table ?c_is_table ?k_is_table (fun _ _ _ _ _ _ us hl => match us, hl with | [_], _ => rfl))
      (Fl.defAt_mk KX G ?a_at_number ?l_at_number ?c_at_number ?k_at_number (fun _ _ _ _ _ _ us hl => match us, hl with | [_, _], _ => rfl))
      (Fl.defAt_mk KX G ?a_is_word ?l_is_word ?c_is_word ?k_is_word (fun _ _ _ _ _ _ us hl => match us, hl with | [_], _ => rfl))
      (Fl.defAt_mk KX G ?a_is_plain ?l_is_plain ?c_is_plain ?k_is_plain (fun _ _ _ _ _ _ us hl => match us, hl with | [_, _], _ => rfl))
      (Fl.defAt_mk KX G ?a_places_of ?l_places_of ?c_places_of ?k_places_of (fun _ _ _ _ _ _ us hl => match us, hl with | [_, _, _], _ => rfl))
      (Fl.defAt_mk KX G ?a_is_rule ?l_is_rule ?c_is_rule ?k_is_rule (fun _ _ _ _ _ _ us hl => match us, hl with | [_, _, _, _], _ => rfl))
      (Fl.defAt_mk KX G ?a_inner_rules ?l_inner_rules ?c_inner_rules ?k_inner_rules (fun _ _ _ _ _ _ us hl => match us, hl with | [_], _ => rfl))
      (Fl.defAt_mk KX G ?a_named ?l_named ?c_named ?k_named (fun _ _ _ _ _ _ us hl => match us, hl with | [_, _], _ => rfl))
      (Fl.defAt_mk KX G ?a_ring_from ?l_ring_from ?c_ring_from ?k_ring_from (fun _ _ _ _ _ _ us hl => match us, hl with | [_, _], _ => rfl))
      (Fl.defAt_mk KX G ?a_ring_of ?l_ring_of ?c_ring_of ?k_ring_of (fun _ _ _ _ _ _ us hl => match us, hl with | [_], _ => rfl))
      (Fl.defAt_mk KX G ?a_form_of ?l_form_of ?c_form_of ?k_form_of (fun _ _ _ _ _ _ us hl => match us, hl with | [_, _, _, _], _ => rfl))
      (Fl.defAt_mk KX G ?a_order_of ?l_order_of ?c_order_of ?k_order_of (fun _ _ _ _ _ _ us hl => match us, hl with | [_], _ => rfl))
      (Fl.defAt_mk KX G ?a_joined ?l_joined ?c_joined ?k_joined (fun _ _ _ _ _ _ us hl => match us, hl with | [_, _, _], _ => rfl))
      (Fl.defAt_mk KX G ?a_comes_to ?l_comes_to ?c_comes_to ?k_comes_to (fun _ _ _ _ _ _ us hl => match us, hl with | [_, _], _ => rfl))
      (Fl.defAt_mk KX G ?a_papers_of ?l_papers_of ?c_papers_of ?k_papers_of (fun _ _ _ _ _ _ us hl => match us, hl with | [_], _ => rfl))
      (Fl.defAt_mk KX G ?a_need_choices ?l_need_choices ?c_need_choices ?k_need_choices (fun _ _ _ _ _ _ us hl => match us, hl with | [_, _], _ => rfl))
      (Fl.defAt_mk KX G ?a_reckoned ?l_reckoned ?c_reckoned ?k_reckoned (fun _ _ _ _ _ _ us hl => match us, hl with | [_, _, _, _], _ => rfl))
      (Fl.defAt_mk KX G ?a_history ?l_history ?c_history ?k_history (fun _ _ _ _ _ _ us hl => match us, hl with | [_, _, _], _ => rfl))
      (Fl.defAt_mk KX G ?a_all_taken ?l_all_taken ?c_all_taken ?k_all_taken (fun _ _ _ _ _ _ us hl => match us, hl with | [_], _ => rfl))
      (Fl.defAt_mk KX G ?a_by_years ?l_by_years ?c_by_years ?k_by_years (fun _ _ _ _ _ _ us hl => match us, hl with | [_, _, _], _ => rfl))
      (Fl.defAt_mk KX G ?a_owed ?l_owed ?c_owed ?k_owed (fun _ _ _ _ _ _ us hl => match us, hl with | [_, _, _], _ => rfl))
      (Fl.defAt_mk KX G ?a_sums ?l_sums ?c_sums ?k_sums (fun _ _ _ _ _ _ us hl => match us, hl with | [_, _], _ => rfl))
      (Fl.defAt_mk KX G ?a_least ?l_least ?c_least ?k_least (fun _ _ _ _ _ _ us hl => match us, hl with | [_, _], _ => rfl))
      (Fl.defAt_mk KX G ?a__law_cell_at ?l__law_cell_at ?c__law_cell_at ?k__law_cell_at (fun _ _ _ _ _ _ us hl => match us, hl with | [_, _], _ => rfl))
      (Fl.defAt_mk KX G ?a__law_mixed ?l__law_mixed ?c__law_mixed ?k__law_mixed (fun _ _ _ _ _ _ us hl => match us, hl with | [_, _], _ => rfl))
      (Fl.defAt_mk KX G ?a__law_next ?l__law_next ?c__law_next ?k__law_next (fun _ _ _ _ _ _ us hl => match us, hl with | [_, _], _ => rfl))
      (Fl.defAt_mk KX G ?a__law_whole ?l__law_whole ?c__law_whole ?k__law_whole (fun _ _ _ _ _ _ us hl => match us, hl with | [_], _ => rfl))
      (Fl.defAt_mk KX G ?a__law_number ?l__law_number ?c__law_number ?k__law_number (fun _ _ _ _ _ _ us hl => match us, hl with | [_], _ => rfl))
      (Fl.defAt_mk KX G ?a__law_table ?l__law_table ?c__law_table ?k__law_table (fun _ _ _ _ _ _ us hl => match us, hl with | [_], _ => rfl))
      (Fl.defAt_mk KX G ?a__law_words ?l__law_words ?c__law_words ?k__law_words (fun _ _ _ _ _ _ us hl => match us, hl with | [_], _ => rfl))
      (Fl.defAt_mk KX G ?a__law_plain ?l__law_plain ?c__law_plain ?k__law_plain (fun _ _ _ _ _ _ us hl => match us, hl with | [_, _, _, _], _ => rfl))
      (Fl.defAt_mk KX G ?a__law_rule ?l__law_rule ?c__law_rule ?k__law_rule (fun _ _ _ _ _ _ us hl => match us, hl with | [_, _, _, _, _], _ => rfl))
      (Fl.defAt_mk KX G ?a__law_sizes ?l__law_sizes ?c__law_sizes ?k__law_sizes (fun _ _ _ _ _ _ us hl => match us, hl with | [_, _], _ => rfl))
      (Fl.defAt_mk KX G ?a__law_order ?l__law_order ?c__law_order ?k__law_order (fun _ _ _ _ _ _ us hl => match us, hl with | [_, _], _ => rfl))
      (Fl.defAt_mk KX G ?a__law_form ?l__law_form ?c__law_form ?k__law_form (fun _ _ _ _ _ _ us hl => match us, hl with | [_, _], _ => rfl))
      (Fl.defAt_mk KX G ?a__law_named ?l__law_named ?c__law_named ?k__law_named (fun _ _ _ _ _ _ us hl => match us, hl with | [_, _], _ => rfl))
      (Fl.defAt_mk KX G ?a__law_at ?l__law_at ?c__law_at ?k__law_at (fun _ _ _ _ _ _ us hl => match us, hl with | [_, _], _ => rfl))
      (Fl.defAt_mk KX G ?a__law_value ?l__law_value ?c__law_value ?k__law_value (fun _ _ _ _ _ _ us hl => match us, hl with | [_, _], _ => rfl))
      (Fl.defAt_mk KX G ?a__law_papers ?l__law_papers ?c__law_papers ?k__law_papers (fun _ _ _ _ _ _ us hl => match us, hl with | [_, _], _ => rfl))
      (Fl.defAt_mk KX G ?a__law_alone ?l__law_alone ?c__law_alone ?k__law_alone (fun _ _ _ _ _ _ us hl => match us, hl with | [_], _ => rfl))
      (Fl.defAt_mk KX G ?a__law_row ?l__law_row ?c__law_row ?k__law_row (fun _ _ _ _ _ _ us hl => match us, hl with | [_], _ => rfl))
      (Fl.defAt_mk KX G ?a__law_reckoned ?l__law_reckoned ?c__law_reckoned ?k__law_reckoned (fun _ _ _ _ _ _ us hl => match us, hl with | [_, _, _, _, _], _ => rfl))
      (Fl.defAt_mk KX G ?a__law_sum ?l__law_sum ?c__law_sum ?k__law_sum (fun _ _ _ _ _ _ us hl => match us, hl with | [_, _, _, _], _ => rfl))
      (Fl.defAt_mk KX G ?a__law_choices ?l__law_choices ?c__law_choices ?k__law_choices (fun _ _ _ _ _ _ us hl => match us, hl with | [_, _, _], _ => rfl))
      (Fl.defAt_mk KX G ?a__law_all ?l__law_all ?c__law_all ?k__law_all (fun _ _ _ _ _ _ us hl => match us, hl with | [_, _], _ => rfl))
      (Fl.defAt_mk KX G ?a__law_tried ?l__law_tried ?c__law_tried ?k__law_tried (fun _ _ _ _ _ _ us hl => match us, hl with | [_, _, _], _ => rfl))
      (Fl.defAt_mk KX G ?a__law_any ?l__law_any ?c__law_any ?k__law_any (fun _ _ _ _ _ _ us hl => match us, hl with | [_, _], _ => rfl))
      (Fl.defAt_mk KX G ?a__law_refused ?l__law_refused ?c__law_refused ?k__law_refused (fun _ _ _ _ _ _ us hl => match us, hl with | [_, _, _], _ => rfl))
      (Fl.defAt_mk KX G ?a__law_kinds ?l__law_kinds ?c__law_kinds ?k__law_kinds (fun _ _ _ _ _ _ us hl => match us, hl with | [_], _ => rfl))
      ?a0
      ?l0
      ?c0
      ?k0
    (case k_MOST_ROWS => k_is)
    (case k_GREATEST => k_is)
    (case k_DEEPEST => k_is)
    (case k_LONGEST => k_is)
    (case k_LETTERS => k_is)
    (case k_MOST_LINES => k_is)
    (case k_MOST_TABLES => k_is)
    (case k_MOST_CHOICES => k_is)
    (case k_MOST => k_is)
    (case z_all => k_is)
    (case z_any => k_is)
    (case z_bool => k_is)
    (case z_dict => k_is)
    (case z_int => k_is)
    (case z_isinstance => k_is)
    (case z_len => k_is)
    (case z_list => k_is)
    (case z_max => k_is)
    (case z_min => k_is)
    (case z_range => k_is)
    (case z_reversed => k_is)
    (case z_sorted => k_is)
    (case z_str => k_is)
    (case z_sum => k_is)
    (case z_tuple => k_is)
    (case z_zip => k_is)
    (case z_ValueError => k_is)
    (case n_NoTable => k_is)
    (case x_NoTable => k_exc)
    (case q_NoTable => k_is)
    (case b_NoTable => k_is)
    (case t_NoTable => k_is)
    (case d_NoTable => k_is)
    (case n_NoForm => k_is)
    (case x_NoForm => k_exc)
    (case q_NoForm => k_is)
    (case b_NoForm => k_is)
    (case t_NoForm => k_is)
    (case d_NoForm => k_is)
    (case n_NoRule => k_is)
    (case x_NoRule => k_exc)
    (case q_NoRule => k_is)
    (case b_NoRule => k_is)
    (case t_NoRule => k_is)
    (case d_NoRule => k_is)
    (case n_Ring => k_is)
    (case x_Ring => k_exc)
    (case q_Ring => k_is)
    (case b_Ring => k_is)
    (case t_Ring => k_is)
    (case d_Ring => k_is)
    (case n_NoPaper => k_is)
    (case x_NoPaper => k_exc)
    (case q_NoPaper => k_is)
    (case b_NoPaper => k_is)
    (case t_NoPaper => k_is)
    (case d_NoPaper => k_is)
    (case n_NoYear => k_is)
    (case x_NoYear => k_exc)
    (case q_NoYear => k_is)
    (case b_NoYear => k_is)
    (case t_NoYear => k_is)
    (case d_NoYear => k_is)
    (case n_NoLine => k_is)
    (case x_NoLine => k_exc)
    (case q_NoLine => k_is)
    (case b_NoLine => k_is)
    (case t_NoLine => k_is)
    (case d_NoLine => k_is)
    (case n_NoChoice => k_is)
    (case x_NoChoice => k_exc)
    (case q_NoChoice => k_is)
    (case b_NoChoice => k_is)
    (case t_NoChoice => k_is)
    (case d_NoChoice => k_is)
    (case n_TooMany => k_is)
    (case x_TooMany => k_exc)
    (case q_TooMany => k_is)
    (case b_TooMany => k_is)
    (case t_TooMany => k_is)
    (case d_TooMany => k_is)
    (case n_FormError => k_is)
    (case x_FormError => k_exc)
    (case q_FormError => k_is)
    (case b_FormError => k_is)
    (case t_FormError => k_is)
    (case d_FormError => k_is)
    (case SB_TooMany_TooMany => first | k_is | rfl)
    (case SB_NoPaper_TooMany => first | k_is | rfl)
    (case SB_NoPaper_NoPaper => first | k_is | rfl)
    (case SB_TooMany_FormError => first | k_is | rfl)
    (case SB_NoPaper_FormError => first | k_is | rfl)
    (case hn_ => k_is)
    (case ht_ => k_is)
    (case hg_TooMany => k_is)
    (case hk_TooMany => k_is)
    (case ha_TooMany => k_is)
    (case hm_TooMany => first | k_is | rfl)
    (case KV_TooMany => first | k_is | rfl)
    (case KI_TooMany_NoTable => first | k_is | rfl)
    (case KI_TooMany_NoForm => first | k_is | rfl)
    (case KI_TooMany_NoRule => first | k_is | rfl)
    (case KI_TooMany_Ring => first | k_is | rfl)
    (case KI_TooMany_NoPaper => first | k_is | rfl)
    (case KI_TooMany_NoYear => first | k_is | rfl)
    (case KI_TooMany_NoLine => first | k_is | rfl)
    (case KI_TooMany_NoChoice => first | k_is | rfl)
    (case KI_TooMany_TooMany => first | k_is | rfl)
    (case hg_NoPaper => k_is)
    (case hk_NoPaper => k_is)
    (case ha_NoPaper => k_is)
    (case hm_NoPaper => first | k_is | rfl)
    (case KV_NoPaper => first | k_is | rfl)
    (case KI_NoPaper_NoTable => first | k_is | rfl)
    (case KI_NoPaper_NoForm => first | k_is | rfl)
    (case KI_NoPaper_NoRule => first | k_is | rfl)
    (case KI_NoPaper_Ring => first | k_is | rfl)
    (case KI_NoPaper_NoPaper => first | k_is | rfl)
    (case KI_NoPaper_NoYear => first | k_is | rfl)
    (case KI_NoPaper_NoLine => first | k_is | rfl)
    (case KI_NoPaper_NoChoice => first | k_is | rfl)
    (case KI_NoPaper_TooMany => first | k_is | rfl)
    (case a_is_whole => k_is)
    (case l_is_whole => k_is)
    (case c_is_whole => k_is)
    (case k_is_whole => k_is)
    (case a_is_number => k_is)
    (case l_is_number => k_is)
    (case c_is_number => k_is)
    (case k_is_number => k_is)
    (case a_is_row => k_is)
    (case l_is_row => k_is)
    (case c_is_row => k_is)
    (case k_is_row => k_is)
    (case a_is_table => k_is)
    (case l_is_table => k_is)
    (case c_is_table => k_is)
    (case k_is_table => k_is)
    (case a_at_number => k_is)
    (case l_at_number => k_is)
    (case c_at_number => k_is)
    (case k_at_number => k_is)
    (case a_is_word => k_is)
    (case l_is_word => k_is)
    (case c_is_word => k_is)
    (case k_is_word => k_is)
    (case a_is_plain => k_is)
    (case l_is_plain => k_is)
    (case c_is_plain => k_is)
    (case k_is_plain => k_is)
    (case a_places_of => k_is)
    (case l_places_of => k_is)
    (case c_places_of => k_is)
    (case k_places_of => k_is)
    (case a_is_rule => k_is)
    (case l_is_rule => k_is)
    (case c_is_rule => k_is)
    (case k_is_rule => k_is)
    (case a_inner_rules => k_is)
    (case l_inner_rules => k_is)
    (case c_inner_rules => k_is)
    (case k_inner_rules => k_is)
    (case a_named => k_is)
    (case l_named => k_is)
    (case c_named => k_is)
    (case k_named => k_is)
    (case a_ring_from => k_is)
    (case l_ring_from => k_is)
    (case c_ring_from => k_is)
    (case k_ring_from => k_is)
    (case a_ring_of => k_is)
    (case l_ring_of => k_is)
    (case c_ring_of => k_is)
    (case k_ring_of => k_is)
    (case a_form_of => k_is)
    (case l_form_of => k_is)
    (case c_form_of => k_is)
    (case k_form_of => k_is)
    (case a_order_of => k_is)
    (case l_order_of => k_is)
    (case c_order_of => k_is)
    (case k_order_of => k_is)
    (case a_joined => k_is)
    (case l_joined => k_is)
    (case c_joined => k_is)
    (case k_joined => k_is)
    (case a_comes_to => k_is)
    (case l_comes_to => k_is)
    (case c_comes_to => k_is)
    (case k_comes_to => k_is)
    (case a_papers_of => k_is)
    (case l_papers_of => k_is)
    (case c_papers_of => k_is)
    (case k_papers_of => k_is)
    (case a_need_choices => k_is)
    (case l_need_choices => k_is)
    (case c_need_choices => k_is)
    (case k_need_choices => k_is)
    (case a_reckoned => k_is)
    (case l_reckoned => k_is)
    (case c_reckoned => k_is)
    (case k_reckoned => k_is)
    (case a_history => k_is)
    (case l_history => k_is)
    (case c_history => k_is)
    (case k_history => k_is)
    (case a_all_taken => k_is)
    (case l_all_taken => k_is)
    (case c_all_taken => k_is)
    (case k_all_taken => k_is)
    (case a_by_years => k_is)
    (case l_by_years => k_is)
    (case c_by_years => k_is)
    (case k_by_years => k_is)
    (case a_owed => k_is)
    (case l_owed => k_is)
    (case c_owed => k_is)
    (case k_owed => k_is)
    (case a_sums => k_is)
    (case l_sums => k_is)
    (case c_sums => k_is)
    (case k_sums => k_is)
    (case a_least => k_is)
    (case l_least => k_is)
    (case c_least => k_is)
    (case k_least => k_is)
    (case a__law_cell_at => k_is)
    (case l__law_cell_at => k_is)
    (case c__law_cell_at => k_is)
    (case k__law_cell_at => k_is)
    (case a__law_mixed => k_is)
    (case l__law_mixed => k_is)
    (case c__law_mixed => k_is)
    (case k__law_mixed => k_is)
    (case a__law_next => k_is)
    (case l__law_next => k_is)
    (case c__law_next => k_is)
    (case k__law_next => k_is)
    (case a__law_whole => k_is)
    (case l__law_whole => k_is)
    (case c__law_whole => k_is)
    (case k__law_whole => k_is)
    (case a__law_number => k_is)
    (case l__law_number => k_is)
    (case c__law_number => k_is)
    (case k__law_number => k_is)
    (case a__law_table => k_is)
    (case l__law_table => k_is)
    (case c__law_table => k_is)
    (case k__law_table => k_is)
    (case a__law_words => k_is)
    (case l__law_words => k_is)
    (case c__law_words => k_is)
    (case k__law_words => k_is)
    (case a__law_plain => k_is)
    (case l__law_plain => k_is)
    (case c__law_plain => k_is)
    (case k__law_plain => k_is)
    (case a__law_rule => k_is)
    (case l__law_rule => k_is)
    (case c__law_rule => k_is)
    (case k__law_rule => k_is)
    (case a__law_sizes => k_is)
    (case l__law_sizes => k_is)
    (case c__law_sizes => k_is)
    (case k__law_sizes => k_is)
    (case a__law_order => k_is)
    (case l__law_order => k_is)
    (case c__law_order => k_is)
    (case k__law_order => k_is)
    (case a__law_form => k_is)
    (case l__law_form => k_is)
    (case c__law_form => k_is)
    (case k__law_form => k_is)
    (case a__law_named => k_is)
    (case l__law_named => k_is)
    (case c__law_named => k_is)
    (case k__law_named => k_is)
    (case a__law_at => k_is)
    (case l__law_at => k_is)
    (case c__law_at => k_is)
    (case k__law_at => k_is)
    (case a__law_value => k_is)
    (case l__law_value => k_is)
    (case c__law_value => k_is)
    (case k__law_value => k_is)
    (case a__law_papers => k_is)
    (case l__law_papers => k_is)
    (case c__law_papers => k_is)
    (case k__law_papers => k_is)
    (case a__law_alone => k_is)
    (case l__law_alone => k_is)
    (case c__law_alone => k_is)
    (case k__law_alone => k_is)
    (case a__law_row => k_is)
    (case l__law_row => k_is)
    (case c__law_row => k_is)
    (case k__law_row => k_is)
    (case a__law_reckoned => k_is)
    (case l__law_reckoned => k_is)
    (case c__law_reckoned => k_is)
    (case k__law_reckoned => k_is)
    (case a__law_sum => k_is)
    (case l__law_sum => k_is)
    (case c__law_sum => k_is)
    (case k__law_sum => k_is)
    (case a__law_choices => k_is)
    (case l__law_choices => k_is)
    (case c__law_choices => k_is)
    (case k__law_choices => k_is)
    (case a__law_all => k_is)
    (case l__law_all => k_is)
    (case c__law_all => k_is)
    (case k__law_all => k_is)
    (case a__law_tried => k_is)
    (case l__law_tried => k_is)
    (case c__law_tried => k_is)
    (case k__law_tried => k_is)
    (case a__law_any => k_is)
    (case l__law_any => k_is)
    (case c__law_any => k_is)
    (case k__law_any => k_is)
    (case a__law_refused => k_is)
    (case l__law_refused => k_is)
    (case c__law_refused => k_is)
    (case k__law_refused => k_is)
    (case a__law_kinds => k_is)
    (case l__law_kinds => k_is)
    (case c__law_kinds => k_is)
    (case k__law_kinds => k_is)
    (case a0 => k_is)
    (case l0 => k_is)
    (case c0 => k_is)
    (case k0 => k_is)

