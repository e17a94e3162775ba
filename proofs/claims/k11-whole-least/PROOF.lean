import PyProof.Rows.All
import Wide.All
import OpenK.AllK
import Wide.FinOn
import PyProof.EqAt
import PyProof.EqKinds
import PyProof.TupleCall
import HandS.ForMost
import HandS.ForExc
import HandS.IsInst
import HandS.TupAny
import HandS.Zip
import HandS.Rev
import HandS.SortInts
import HandS.SortRule
import HandS.Deep
import HandS.Conv
import HandS.Flow
import HandS.More
import HandS.SetFor
import HandS.TryMany
import HandS.ExcIs
import HandS.HotCalls
import HandS.DictTup
import KE.KSortTupG
import KE.KeyNested
import PySem.Challenge.RW_formlines_k11_whole_least
set_option Elab.async false
set_option linter.all false
set_option maxRecDepth 100000
set_option maxHeartbeats 1000000
set_option Elab.async false
set_option linter.all false
set_option maxRecDepth 100000
set_option maxHeartbeats 4000000
/-! a small layer over HandS: one rule for each operator whatever the kinds, steps through readings, heaps that grow -/
namespace Fl
open PySem PySem.Spec PyProof.Rows L2
abbrev Ctx0 := L2.Cx

/-! ### what stands at the module's top -/
/-- the built-in names that no text here binds -/
structure Mg (mg : Str → Option Value) : Prop where
  all : mg "all" = none
  any : mg "any" = none
  bool : mg "bool" = none
  dict : mg "dict" = none
  int : mg "int" = none
  isinstance : mg "isinstance" = none
  len : mg "len" = none
  list : mg "list" = none
  max : mg "max" = none
  min : mg "min" = none
  range : mg "range" = none
  reversed : mg "reversed" = none
  sorted : mg "sorted" = none
  str : mg "str" = none
  sum : mg "sum" = none
  tuple : mg "tuple" = none
  zip : mg "zip" = none
  ValueError : mg "ValueError" = none
/-- a def of the text at its place -/
structure DefAt (K : PySem.W.Frag) (mg : Str → Option Value) (x : Str) (st : Stmt) (ps : List Str) : Prop where
  ex : ∃ (f : Addr) (fd : FuncData), Fun K x x st f fd ∧ mg x = some (.ref f) ∧ Binds K fd ps []
/-- a def that may be called, by its promise -/
structure Has (P : Program) (w : World) (K : PySem.W.Frag) (mg : Str → Option Value) (base : Heap) (x : Str) (ps : List Str) (k : Nat) (sp : Sp) : Prop where
  ex : ∃ (f : Addr) (fd : FuncData), FnOk P w K mg base (L2.CX P w) k f fd ps sp ∧ mg x = some (.ref f) ∧ PySem.W.keepIn K (.ref f) = true ∧ Binds K fd ps []
section
variable {P : Program} {w : World} {K : PySem.W.Frag} {mg : Str → Option Value} {base : Heap} {x : Str} {st : Stmt} {N ps : List Str} {k j : Nat} {sp sp' : Sp}
theorem Has.mono (h : Has P w K mg base x ps j sp) (l : j ≤ k) : Has P w K mg base x ps k sp := by
  obtain ⟨f, fd, F, a, b, c⟩ := h.ex
  exact ⟨f, fd, F.mono l, a, b, c⟩
theorem Has.imp (h : Has P w K mg base x ps k sp) (i : ∀ vs H Q E, sp' vs H Q E → sp vs H Q E) : Has P w K mg base x ps k sp' := by
  obtain ⟨f, fd, F, a, b, c⟩ := h.ex
  exact ⟨f, fd, F.imp i, a, b, c⟩
/-- the body's context -/
abbrev cx (P : Program) (w : World) (K : PySem.W.Frag) (mg : Str → Option Value) (base : Heap) (N : List Str) (x : Str) (st : Stmt) (f : Addr) (cdv : Value) (A : Around) (outer : List Env) (s : Shared) (H : Hp) (E : XK) : L2.Cx :=
  cxOf (L2.CX P w) P w K mg base N x (defScope st) f cdv A outer s H E
theorem Has.mk' (D : DefAt K mg x st ps) (S : FnScope N ps (defScope st)) (len : ∀ vs H Q E, sp vs H Q E → vs.length = ps.length)
    (hbody : ∀ (f : Addr) (cdv : Value) (A : Around) (outer : List Env) (s : Shared) (H : Hp) (vs : List V) (Q : VK) (E : XK), Room k (A.deeper (envOfC x (defScope st) s.heap.objs.size f cdv)) → sp vs H Q E →
      ∃ t, PSs (cx P w K mg base N x st f cdv A outer s H E) (defBody st) t ∧ t { nx := fun _ H' => Q .non H', rt := Q } (start N vs) H) : Has P w K mg base x ps (k + 1) sp := by
  obtain ⟨f, fd, F, hm, hb⟩ := D.ex
  exact ⟨f, fd, F.okX S len (fun cdv A outer s H vs Q E hr h => hbody f cdv A outer s H vs Q E hr h), hm, F.kp, hb⟩
/-- promises by arity -/
abbrev Sp1 := V → Hp → VK → XK → Prop
abbrev Sp2 := V → V → Hp → VK → XK → Prop
abbrev Sp3 := V → V → V → Hp → VK → XK → Prop
abbrev Sp4 := V → V → V → V → Hp → VK → XK → Prop
abbrev Sp5 := V → V → V → V → V → Hp → VK → XK → Prop
abbrev Sp7 := V → V → V → V → V → V → V → Hp → VK → XK → Prop
def sp1 (g : Sp1) : Sp := fun vs H Q E => ∃ a, vs = [a] ∧ g a H Q E
def sp2 (g : Sp2) : Sp := fun vs H Q E => ∃ a b, vs = [a, b] ∧ g a b H Q E
def sp3 (g : Sp3) : Sp := fun vs H Q E => ∃ a b c, vs = [a, b, c] ∧ g a b c H Q E
def sp4 (g : Sp4) : Sp := fun vs H Q E => ∃ a b c d, vs = [a, b, c, d] ∧ g a b c d H Q E
def sp5 (g : Sp5) : Sp := fun vs H Q E => ∃ a b c d e, vs = [a, b, c, d, e] ∧ g a b c d e H Q E
def sp7 (g : Sp7) : Sp := fun vs H Q E => ∃ a b c d e f i, vs = [a, b, c, d, e, f, i] ∧ g a b c d e f i H Q E
/-- the room that a body of level k has -/
abbrev RoomOf (k : Nat) (x : Str) (st : Stmt) (f : Addr) (cdv : Value) (A : Around) (s : Shared) : Prop := Room k (A.deeper (envOfC x (defScope st) s.heap.objs.size f cdv))
abbrev Body (P : Program) (w : World) (K : PySem.W.Frag) (mg : Str → Option Value) (base : Heap) (N : List Str) (x : Str) (st : Stmt) (f : Addr) (cdv : Value) (A : Around) (outer : List Env) (s : Shared) (H : Hp) (vs : List V) (Q : VK) (E : XK) : Prop :=
  ∃ t, PSs (cx P w K mg base N x st f cdv A outer s H E) (defBody st) t ∧ t { nx := fun _ H' => Q .non H', rt := Q } (start N vs) H
theorem Has.mk1 {g : Sp1} {p1 : Str} (D : DefAt K mg x st [p1]) (S : FnScope N [p1] (defScope st))
    (hb : ∀ f cdv A outer s H a Q E, RoomOf k x st f cdv A s → g a H Q E → Body P w K mg base N x st f cdv A outer s H [a] Q E) : Has P w K mg base x [p1] (k + 1) (sp1 g) :=
  .mk' D S (fun vs H Q E ⟨a, e, _⟩ => by rw [e]; rfl) fun f cdv A outer s H vs Q E hr ⟨a, e, h⟩ => by subst e; exact hb f cdv A outer s H a Q E hr h
theorem Has.mk2 {g : Sp2} {p1 p2 : Str} (D : DefAt K mg x st [p1, p2]) (S : FnScope N [p1, p2] (defScope st))
    (hb : ∀ f cdv A outer s H a b Q E, RoomOf k x st f cdv A s → g a b H Q E → Body P w K mg base N x st f cdv A outer s H [a, b] Q E) : Has P w K mg base x [p1, p2] (k + 1) (sp2 g) :=
  .mk' D S (fun vs H Q E ⟨a, b, e, _⟩ => by rw [e]; rfl) fun f cdv A outer s H vs Q E hr ⟨a, b, e, h⟩ => by subst e; exact hb f cdv A outer s H a b Q E hr h
theorem Has.mk3 {g : Sp3} {p1 p2 p3 : Str} (D : DefAt K mg x st [p1, p2, p3]) (S : FnScope N [p1, p2, p3] (defScope st))
    (hb : ∀ f cdv A outer s H a b c Q E, RoomOf k x st f cdv A s → g a b c H Q E → Body P w K mg base N x st f cdv A outer s H [a, b, c] Q E) : Has P w K mg base x [p1, p2, p3] (k + 1) (sp3 g) :=
  .mk' D S (fun vs H Q E ⟨a, b, c, e, _⟩ => by rw [e]; rfl) fun f cdv A outer s H vs Q E hr ⟨a, b, c, e, h⟩ => by subst e; exact hb f cdv A outer s H a b c Q E hr h
theorem Has.mk4 {g : Sp4} {p1 p2 p3 p4 : Str} (D : DefAt K mg x st [p1, p2, p3, p4]) (S : FnScope N [p1, p2, p3, p4] (defScope st))
    (hb : ∀ f cdv A outer s H a b c d Q E, RoomOf k x st f cdv A s → g a b c d H Q E → Body P w K mg base N x st f cdv A outer s H [a, b, c, d] Q E) : Has P w K mg base x [p1, p2, p3, p4] (k + 1) (sp4 g) :=
  .mk' D S (fun vs H Q E ⟨a, b, c, d, e, _⟩ => by rw [e]; rfl) fun f cdv A outer s H vs Q E hr ⟨a, b, c, d, e, h⟩ => by subst e; exact hb f cdv A outer s H a b c d Q E hr h
theorem Has.mk5 {g : Sp5} {p1 p2 p3 p4 p5 : Str} (D : DefAt K mg x st [p1, p2, p3, p4, p5]) (S : FnScope N [p1, p2, p3, p4, p5] (defScope st))
    (hb : ∀ f cdv A outer s H a b c d e Q E, RoomOf k x st f cdv A s → g a b c d e H Q E → Body P w K mg base N x st f cdv A outer s H [a, b, c, d, e] Q E) : Has P w K mg base x [p1, p2, p3, p4, p5] (k + 1) (sp5 g) :=
  .mk' D S (fun vs H Q E ⟨a, b, c, d, e, z, _⟩ => by rw [z]; rfl) fun f cdv A outer s H vs Q E hr ⟨a, b, c, d, e, z, h⟩ => by subst z; exact hb f cdv A outer s H a b c d e Q E hr h
theorem Has.mk7 {g : Sp7} {p1 p2 p3 p4 p5 p6 p7 : Str} (D : DefAt K mg x st [p1, p2, p3, p4, p5, p6, p7]) (S : FnScope N [p1, p2, p3, p4, p5, p6, p7] (defScope st))
    (hb : ∀ f cdv A outer s H a b c d e i j Q E, RoomOf k x st f cdv A s → g a b c d e i j H Q E → Body P w K mg base N x st f cdv A outer s H [a, b, c, d, e, i, j] Q E) : Has P w K mg base x [p1, p2, p3, p4, p5, p6, p7] (k + 1) (sp7 g) :=
  .mk' D S (fun vs H Q E ⟨a, b, c, d, e, i, j, z, _⟩ => by rw [z]; rfl) fun f cdv A outer s H vs Q E hr ⟨a, b, c, d, e, i, j, z, h⟩ => by subst z; exact hb f cdv A outer s H a b c d e i j Q E hr h
/-- nothing is asked where no call is left -/
theorem Has.none_left {sp : Sp} (D : DefAt K mg x st ps) (no : ∀ vs H Q E, ¬ sp vs H Q E) : Has P w K mg base x ps k sp := by
  obtain ⟨f, fd, F, hm, hb⟩ := D.ex
  exact ⟨f, fd, ⟨fun vs H Q E h => absurd h (no vs H Q E), fun A outer s H args us vs Q E _ _ _ _ h => absurd h (no vs H Q E)⟩, hm, F.kp, hb⟩
end

/-! ### calls of own defs -/
section
variable {X : L2.Cx} {x : Str} {ps : List Str} {k : Nat} {sp : Sp} {E : XK} {p pos : Pos} {e : Expr} {es : List Expr} {t : TA}
def tCallO (sp : Sp) (E : XK) (t : TA) : TE := fun σ H Q => t σ H fun vs H1 => sp vs H1 Q E
theorem pe_own (h : Has X.prog X.w X.K X.mg X.base x ps k sp) (hr : Room k X.A) (hg : Gl X x) (hx : Passes (L2.CX X.prog X.w) X E)
    (ha : PA X (e :: es) t) (hdb : (x == ("__debug__" : Str)) = false := by decide) (he : starEach (e :: es) X.env = (false, eval e X.env) :: starEach es X.env := by rfl) (hpl : (backTo pos (starEach es X.env)).any (·.1) = false := by rfl) :
    PE X (.Call (.Name x p) (e :: es) [] pos) (tCallO sp E t) := by
  obtain ⟨f, fd, F, hm, hk, hb⟩ := h.ex
  have q := pe_call (sp := sp) (p := p) (pos := pos) F hr hg hm hk hb .nil hx ha hdb he hpl
  refine ⟨fun pins s σ H Q I w => q.run pins s σ H Q I ?_⟩
  have e2 : (fun (vs : List V) (H1 : Hp) => sp (vs ++ []) H1 Q E) = fun vs H1 => sp vs H1 Q E := by
    funext vs H1
    rw [List.append_nil]
  show t σ H (fun vs H1 => sp (vs ++ []) H1 Q E)
  rw [e2]
  exact w
/-- a whole number, a text of the module -/
theorem pe_gi {c : Int} (hg : Gl X x) (h : ∃ t, X.mg x = some (.int c t)) (hd : (x == ("__debug__" : Str)) = false := by decide) : PE X (.Name x pos) (tC (.int c)) := by
  obtain ⟨t, h⟩ := h
  exact pe_glob hg h ⟨t, rfl⟩ hd
theorem pe_gs {c : Str} (hg : Gl X x) (h : ∃ t, X.mg x = some (.str c t)) (hd : (x == ("__debug__" : Str)) = false := by decide) : PE X (.Name x pos) (tC (.str c)) := by
  obtain ⟨t, h⟩ := h
  exact pe_glob hg h ⟨t, rfl⟩ hd
end

/-! ### ways that meet behind a statement -/
def tCutF (t u : TS) : TS := fun D σ H => ∃ M : L2.St → Hp → Prop, t ⟨M, D.rt, D.bk, D.ct⟩ σ H ∧ ∀ σ' H', M σ' H' → u D σ' H'
theorem pss_meet {X : L2.Cx} {st : Stmt} {rest : List Stmt} {t u : TS} (h1 : PS X st t) (h2 : PSs X rest u) : PSs X (st :: rest) (tCutF t u) := by
  refine ⟨fun pins s σ H D I ⟨M, a, b⟩ => wpAny_execs_cons (thn (h1.run pins s σ H ⟨M, D.rt, D.bk, D.ct⟩ I a) fun f s1 q => ?_)⟩
  cases f with
  | next =>
    obtain ⟨σ', H', I', q⟩ := q
    exact h2.run pins s1 σ' H' D I' (b σ' H' q)
  | ret v => exact q
  | brk => exact q
  | cont => exact q

/-! ### one rule for an operator -/
section
variable {X : L2.Cx}
def uAdd (K : PySem.W.Frag) : R2 := fun x y H Q => match x, y with
  | .int i, .int j => Q (.int (i + j)) H
  | .str i, .str j => i.length + j.length ≤ sizeLine ∧ Q (.str (i ++ j)) H
  | .ref a, .ref b => rCat (.ref a) (.ref b) H Q ∨ rCatA K (.ref a) (.ref b) H Q
  | _, _ => False
theorem o_add : OpR X (binaryOp .Add) (uAdd X.K) := by
  intro pins s σ H x y v u Q I rx ry h
  cases x <;> cases y <;> first | exact h.elim | skip
  · exact op_add pins s σ H _ _ v u Q I rx ry ⟨_, _, rfl, rfl, h⟩
  · exact op_add_str pins s σ H _ _ v u Q I rx ry ⟨_, _, rfl, rfl, h⟩
  · rcases h with h | h
    · exact op_cat pins s σ H _ _ v u Q I rx ry h
    · exact op_catA pins s σ H _ _ v u Q I rx ry h
def uSub : R2 := fun x y H Q => match x, y with
  | .int i, .int j => Q (.int (i - j)) H
  | _, _ => False
theorem o_sub : OpR X (binaryOp .Sub) uSub := by
  intro pins s σ H x y v u Q I rx ry h
  cases x <;> cases y <;> first | exact h.elim | skip
  exact op_sub pins s σ H _ _ v u Q I rx ry ⟨_, _, rfl, rfl, h⟩
def uMul : R2 := fun x y H Q => match x, y with
  | .int i, .int j => CMul i j ∧ Q (.int (i * j)) H
  | .ref a, .int k => rRep (.ref a) (.int k) H Q
  | _, _ => False
theorem o_mul : OpR X (binaryOp .Mult) uMul := by
  intro pins s σ H x y v u Q I rx ry h
  cases x <;> cases y <;> first | exact h.elim | skip
  · exact op_mul pins s σ H _ _ v u Q I rx ry ⟨_, _, rfl, rfl, h.1, h.2⟩
  · exact op_rep pins s σ H _ _ v u Q I rx ry h
def uDiv : R2 := fun x y H Q => match x, y with
  | .int i, .int j => CDiv i j ∧ Q (.int (i / j)) H
  | _, _ => False
theorem o_div : OpR X (binaryOp .FloorDiv) uDiv := by
  intro pins s σ H x y v u Q I rx ry h
  cases x <;> cases y <;> first | exact h.elim | skip
  exact op_fdiv pins s σ H _ _ v u Q I rx ry ⟨_, _, rfl, rfl, h.1, h.2⟩
def uMod : R2 := fun x y H Q => match x, y with
  | .int i, .int j => 0 < j ∧ Q (.int (i % j)) H
  | _, _ => False
theorem o_mod : OpR X (binaryOp .Mod) uMod := by
  intro pins s σ H x y v u Q I rx ry h
  cases x <;> cases y <;> first | exact h.elim | skip
  exact op_mod pins s σ H _ _ v u Q I rx ry ⟨_, _, rfl, rfl, h.1, h.2⟩
def uPow : R2 := fun x y H Q => match x, y with
  | .int i, .int j => CPow i j ∧ Q (.int (i ^ j.toNat)) H
  | _, _ => False
theorem o_pow : OpR X (binaryOp .Pow) uPow := by
  intro pins s σ H x y v u Q I rx ry h
  cases x <;> cases y <;> first | exact h.elim | skip
  exact op_pow pins s σ H _ _ v u Q I rx ry ⟨_, _, rfl, rfl, h.1, h.2⟩
def uNeg : V → Hp → VK → Prop := fun x H Q => match x with
  | .int i => Q (.int (-i)) H
  | _ => False
theorem o_neg : UnR X (unaryOp .USub) uNeg := by
  intro pins s σ H x v Q I rx h
  cases x <;> first | exact h.elim | skip
  exact un_neg pins s σ H _ v Q I rx ⟨_, rfl, h⟩
def uCmp (p : Int → Int → Bool) : R2 := fun x y H Q => match x, y with
  | .int i, .int j => Q (.bl (p i j)) H
  | _, _ => False
abbrev uLt : R2 := uCmp fun i j => decide (i < j)
abbrev uLe : R2 := uCmp fun i j => decide (i ≤ j)
abbrev uGt : R2 := uCmp fun i j => decide (j < i)
abbrev uGe : R2 := uCmp fun i j => decide (j ≤ i)
theorem o_lt : OpR X (compareOp .Lt) uLt := by
  intro pins s σ H x y v u Q I rx ry h
  cases x <;> cases y <;> first | exact h.elim | skip
  exact op_lt pins s σ H _ _ v u Q I rx ry ⟨_, _, rfl, rfl, h⟩
theorem o_le : OpR X (compareOp .LtE) uLe := by
  intro pins s σ H x y v u Q I rx ry h
  cases x <;> cases y <;> first | exact h.elim | skip
  exact op_le pins s σ H _ _ v u Q I rx ry ⟨_, _, rfl, rfl, h⟩
theorem o_gt : OpR X (compareOp .Gt) uGt := by
  intro pins s σ H x y v u Q I rx ry h
  cases x <;> cases y <;> first | exact h.elim | skip
  exact op_gt pins s σ H _ _ v u Q I rx ry ⟨_, _, rfl, rfl, h⟩
theorem o_ge : OpR X (compareOp .GtE) uGe := by
  intro pins s σ H x y v u Q I rx ry h
  cases x <;> cases y <;> first | exact h.elim | skip
  exact op_ge pins s σ H _ _ v u Q I rx ry ⟨_, _, rfl, rfl, h⟩
/-- ==, != : plain values by themselves, else data at any depth -/
def uEq (K : PySem.W.Frag) : R2 := fun x y H Q => rEq x y H Q ∨ rEqD K x y H Q
def uNe (K : PySem.W.Frag) : R2 := fun x y H Q => rNe x y H Q ∨ rNeD K x y H Q
theorem o_eq {k : Nat} (hr : Room k X.A) : OpR X (compareOp .Eq) (uEq X.K) := op_eq.or (op_eqD hr.units)
theorem o_ne {k : Nat} (hr : Room k X.A) : OpR X (compareOp .NotEq) (uNe X.K) := op_ne.or (op_neD hr.units)
def uIn (K : PySem.W.Frag) : R2 := fun x y H Q => match y with
  | .str j => ∃ i, x = .str i ∧ Q (.bl (!(Builtin.Str.occurrences j i 0 j.length 1).isEmpty)) H
  | _ => rIn K false x y H Q ∨ rInD K x y H Q
def uNotIn (K : PySem.W.Frag) : R2 := fun x y H Q => match y with
  | .str j => ∃ i, x = .str i ∧ Q (.bl (!(!(Builtin.Str.occurrences j i 0 j.length 1).isEmpty))) H
  | _ => rIn K true x y H Q ∨ rNotInD K x y H Q
theorem Room.units65 {k : Nat} {A : Around} (r : Room k A) : A.units + 65 < cLine := by have := r.un; omega
theorem o_in {k : Nat} (hr : Room k X.A) : OpR X (compareOp .In) (uIn X.K) := by
  intro pins s σ H x y v u Q I rx ry h
  have go : rIn X.K false x y H Q ∨ rInD X.K x y H Q → wpAny (model X.prog X.w) X.A (compareOp .In v u) (EP X pins σ Q) X.xe s := fun h => by
    rcases h with h | h
    · exact op_in_seq pins s σ H _ _ v u Q I rx ry h
    · exact op_inD (Room.units65 hr) pins s σ H _ _ v u Q I rx ry h
  cases y with
  | str j =>
    obtain ⟨i, e, q⟩ := h
    exact op_in_str pins s σ H _ _ v u Q I rx ry ⟨_, _, e, rfl, q⟩
  | _ => exact go h
theorem o_notin {k : Nat} (hr : Room k X.A) : OpR X (compareOp .NotIn) (uNotIn X.K) := by
  intro pins s σ H x y v u Q I rx ry h
  have go : rIn X.K true x y H Q ∨ rNotInD X.K x y H Q → wpAny (model X.prog X.w) X.A (compareOp .NotIn v u) (EP X pins σ Q) X.xe s := fun h => by
    rcases h with h | h
    · exact op_notIn_seq pins s σ H _ _ v u Q I rx ry h
    · exact op_notInD (Room.units65 hr) pins s σ H _ _ v u Q I rx ry h
  cases y with
  | str j =>
    obtain ⟨i, e, q⟩ := h
    exact op_notin_str pins s σ H _ _ v u Q I rx ry ⟨_, _, e, rfl, q⟩
  | _ => exact go h
/-- len -/
def uLen (K : PySem.W.Frag) : List V → Hp → VK → Prop := fun xs H Q => ∃ x n, xs = [x] ∧ LenV K x H n ∧ Q (.int n) H
theorem c_len : CallR X (.builtin "len") (uLen X.K) := call_len
/-- slices -/
def uSl (K : PySem.W.Frag) : V → Option Int → Option Int → Hp → VK → Prop := fun x lo hi H Q => rSlL K x lo hi H Q ∨ rSlA K x lo hi H Q ∨ ∃ z, x = .str z ∧ z.length ≤ sizeLine ∧ Q (.str (cutS z lo hi)) H
theorem sl_any : SlR X (uSl X.K) := sl_list.or (sl_tupA.or sl_str)
/-- a list, a tuple that is walked -/
def uIter (K : PySem.W.Frag) (tl : TE) : TI := fun σ H R => tl σ H fun x H1 => ∃ a, x = .ref a ∧ (((∃ xs, SqL K H1 a xs) ∧ R (Itl K a) H1) ∨ ((∃ xs, SqT K H1 a xs) ∧ R (Itt K a) H1))
theorem pi_any {tg l : Expr} {tl : TE} (hl : PE X l tl) : PI X tg l (uIter X.K tl) := by
  refine ⟨fun pins s σ H R I h => ?_⟩
  refine thn (hl.run pins s σ H _ I h) fun v s1 ⟨x, H1, I1, r1, q1⟩ => ?_
  obtain ⟨a, e, q1⟩ := q1
  subst e
  cases r1
  rcases q1 with ⟨⟨xs, hq⟩, q⟩ | ⟨⟨xs, hq⟩, q⟩
  · obtain ⟨its, rv, p, hz⟩ := I1.list hq
    refine wpAny_pyIter_list p.isList ?_
    refine ⟨s1.heap.objs.size, [s1.heap.objs.size], _, _, H1, rfl, I1.kept (t' := s1.toks) fun b o e => Heap.get?_push_of_some _ e, turn_list a _, ⟨_, Heap.get?_push_size _ rfl, rfl, rfl⟩, fun b hb => ?_, q⟩
    have e : b = s1.heap.objs.size := by simpa using hb
    subst e
    exact I1.fpOk (Nat.le_refl _) (I1.hok.fresh (Nat.le_refl _))
  · obtain ⟨its, rv, p, hz⟩ := I1.tuple hq
    refine wpAny_pyIter_tuple (show s1.heap.IsTuple a its.toArray from p) ?_
    refine ⟨s1.heap.objs.size, [s1.heap.objs.size], _, _, H1, rfl, I1.kept (t' := s1.toks) fun b o e => Heap.get?_push_of_some _ e, turn_tuple a _, ⟨_, Heap.get?_push_size _ rfl, rfl, rfl⟩, fun b hb => ?_, q⟩
    have e : b = s1.heap.objs.size := by simpa using hb
    subst e
    exact I1.fpOk (Nat.le_refl _) (I1.hok.fresh (Nat.le_refl _))
/-- int(x), of a number or a truth -/
def uInt : List V → Hp → VK → Prop := fun xs H Q => match xs with
  | [.int i] => Q (.int i) H
  | [.bl k] => Q (.int (if k then 1 else 0)) H
  | _ => False
theorem c_int : CallR X (.type "int") uInt := by
  intro pins s σ H xs us Q I r h
  unfold uInt at h
  split at h
  · exact call_int1 pins s σ H _ us Q I r (.inl ⟨_, rfl, h⟩)
  · exact call_int1 pins s σ H _ us Q I r (.inr ⟨_, rfl, h⟩)
  · exact h.elim
end

/-! the same with the written part told -/
section
variable (K : PySem.W.Frag) {X : L2.Cx} (h : X.K = K)
include h
theorem k_add : OpR X (binaryOp .Add) (uAdd K) := by subst h; exact o_add
theorem k_eq {k : Nat} (hr : Room k X.A) : OpR X (compareOp .Eq) (uEq K) := by subst h; exact o_eq hr
theorem k_ne {k : Nat} (hr : Room k X.A) : OpR X (compareOp .NotEq) (uNe K) := by subst h; exact o_ne hr
theorem k_in {k : Nat} (hr : Room k X.A) : OpR X (compareOp .In) (uIn K) := by subst h; exact o_in hr
theorem k_notin {k : Nat} (hr : Room k X.A) : OpR X (compareOp .NotIn) (uNotIn K) := by subst h; exact o_notin hr
theorem k_ix : IxR X (rIx K) := by subst h; exact ix_seq
theorem k_len : CallR X (.builtin "len") (uLen K) := by subst h; exact c_len
theorem k_sl : SlR X (uSl K) := by subst h; exact sl_any
theorem k_isi : CallR X (.builtin "isinstance") (rIsi K) := by subst h; exact call_isi
theorem k_all (hc : X.calm = true) : CallR X (.builtin "all") (rAll K) := by subst h; exact cr_all hc
theorem k_any (hc : X.calm = true) : CallR X (.builtin "any") (rAny K) := by subst h; exact cr_any hc
theorem k_sum (hc : X.calm = true) : CallR X (.builtin "sum") (rSum K) := by subst h; exact cr_sum hc
theorem k_max (hc : X.calm = true) : CallR X (.builtin "max") (rMax K) := by subst h; exact cr_max hc
theorem k_min (hc : X.calm = true) : CallR X (.builtin "min") (rMin K) := by subst h; exact cr_min hc
theorem k_sortI : CallR X (.builtin "sorted") (rSortedI K) := by subst h; exact cr_sortedI
theorem k_sortS : CallR X (.builtin "sorted") (rSortedS K) := by subst h; exact cr_sortedS
theorem k_sortPO : CallR X (.builtin "sorted") (rSortedPO K) := by subst h; exact cr_sortedPO
/-- tuple(x), list(x) -/
def uTup (K : PySem.W.Frag) : List V → Hp → VK → Prop := fun xs H Q => ∃ p ys, xs = [.ref p] ∧ ((SqL K H p ys ∧ ∀ l, H l = none → Q (.ref l) (upd H l (.tup ys))) ∨ (SqT K H p ys ∧ Q (.ref p) H))
def uLst (K : PySem.W.Frag) : List V → Hp → VK → Prop := fun xs H Q => ∃ p ys, xs = [.ref p] ∧ (SqL K H p ys ∨ SqT K H p ys) ∧ ∀ l, H l = none → Q (.ref l) (upd H l (.lst ys))
theorem k_tuple : CallR X (.type "tuple") (uTup K) := by subst h; exact call_tuple_of
theorem k_list : CallR X (.type "list") (uLst K) := by subst h; exact call_list_of
theorem k_pi {tg l : Expr} {tl : TE} (hl : PE X l tl) : PI X tg l (uIter K tl) := by subst h; exact pi_any hl
theorem k_zip {e e2 : Expr} {ta : TA} {p pos tpos : Pos} {elts : List Expr} {kk : Nat} (hg : Gl X "zip") (hm : X.mg "zip" = none) (ha : PA X [e, e2] ta)
    (hs : starEach [e, e2] X.env = (false, eval e X.env) :: starEach [e2] X.env := by rfl) (hpl : (backTo pos (starEach [e2] X.env)).any (·.1) = false := by rfl) :
    PI X (.Tuple elts kk tpos) (.Call (.Name "zip" p) [e, e2] [] pos) (RZ.iZipA K ta) := by subst h; exact RZ.pi_zipA hg hm ha hs hpl
theorem k_fld {e : Expr} {f : Str} {ta : TE} {pos : Pos} (he : PE X e ta) (hb : attributeBase e f X.env (eval e X.env) = eval e X.env) : PE X (.Attribute e f pos) (tFld K ta f) := by subst h; exact pe_fld he hb
theorem k_bm0 {o : Expr} {to : TE} {name : Str} {apos cpos : Pos} {T id : String} {r : V → List V → Hp → VK → Prop} (pa : PlainAttrs T) (slot : Slot T name id) (hty : typeOf (.builtin id) = pure (.type "method_descriptor")) (hm : MtR X id r) (ho : PE X o to)
    (hbase : attributeBase o name X.env (eval o X.env) = eval o X.env := by rfl) (hline : (apos.endLine == cpos.line) = true := by rfl) : PE X (.Call (.Attribute o name apos) [] [] cpos) (tBM0 K T r to) := by subst h; exact pe_bm0 pa slot hty hm ho hbase hline
theorem k_bm {o e : Expr} {es : List Expr} {to : TE} {t : TA} {name : Str} {apos cpos : Pos} {T id : String} {r : V → List V → Hp → VK → Prop} (pa : PlainAttrs T) (slot : Slot T name id) (hty : typeOf (.builtin id) = pure (.type "method_descriptor")) (hm : MtR X id r) (ho : PE X o to) (ha : PA X (e :: es) t)
    (hbase : attributeBase o name X.env (eval o X.env) = eval o X.env := by rfl)
    (hfew : ((backTo cpos (starEach (e :: es) X.env)).all (fun x => !x.1) && (backToKw cpos (keywordEach [] X.env)).all (fun x => x.1.isSome)
      && decide ((e :: es).length + ([] : List Keyword).length + (if ([] : List Keyword).isEmpty then 0 else 1) < 30)) = true := by rfl)
    (hline : (apos.endLine == cpos.line) = true := by rfl) (hs : starEach (e :: es) X.env = (false, eval e X.env) :: starEach es X.env := by rfl) (hplain : (backTo cpos (starEach es X.env)).any (·.1) = false := by rfl) :
    PE X (.Call (.Attribute o name apos) (e :: es) [] cpos) (tBM K T r to t) := by subst h; exact pe_bm pa slot hty hm ho ha hbase hfew hline hs hplain
end
end Fl

set_option Elab.async false
set_option linter.all false
set_option maxRecDepth 100000
set_option maxHeartbeats 4000000
/-! steps through readings; heaps; data -/
namespace Fl
open PySem PySem.Spec PyProof.Rows L2

/-! ### steps: each reading is what it says -/
section
variable {σ : L2.St} {H : Hp} {D : Ends} {i : Nat} {v x y : V} {Q : VK} {te ta tb tl th : TE} {t u : TS} {c : TT} {g : TG} {K : PySem.W.Frag} {r : R2}
theorem r_seq (h : t { D with nx := u D } σ H) : tSeq t u D σ H := h
theorem r_set (h : te σ H fun x H1 => D.nx (σ.set i (some x)) H1) : tAsg te (gName i) D σ H := h
theorem r_asg (h : te σ H fun x H1 => g x σ H1 D.nx) : tAsg te g D σ H := h
theorem r_if (h : c σ H fun b H1 => if b = true then t D σ H1 else u D σ H1) : tIfS c t u D σ H := h
theorem r_ret (h : te σ H D.rt) : tRet te D σ H := h
theorem r_retN (h : D.rt .non H) : tRetN D σ H := h
theorem r_next (h : D.nx σ H) : tNext D σ H := h
theorem r_brk (h : D.bk σ H) : tBreak D σ H := h
theorem r_cont (h : D.ct σ H) : tCont D σ H := h
theorem r_drop (h : te σ H fun _ H1 => D.nx σ H1) : tDrop te D σ H := h
theorem r_var (e : σ[i]? = some (some v)) (h : Q v H) : tVar i σ H Q := ⟨v, e, h⟩
theorem r_c (h : Q v H) : tC v σ H Q := h
theorem r_op (h : ta σ H fun x H1 => tb σ H1 fun y H2 => r x y H2 Q) : tOp r ta tb σ H Q := h
theorem r_un {r : V → Hp → VK → Prop} (h : ta σ H fun x H1 => r x H1 Q) : tUn r ta σ H Q := h
theorem r_chain {r r' : R2} {tc : TE} (h : ta σ H fun x H1 => tb σ H1 fun y H2 => r x y H2 fun z H3 => ∃ k, z = .bl k ∧ if k = true then tc σ H3 fun w H4 => r' y w H4 Q else Q (.bl false) H3) : tChain r r' ta tb tc σ H Q := h
theorem r_test {Q : Bool → Hp → Prop} (h : te σ H fun x H' => ∃ k, x = .bl k ∧ Q k H') : tTest te σ H Q := h
theorem r_tB {Q : Bool → Hp → Prop} (h : te σ H fun x H1 => ∃ c, x = .bl c ∧ Q c H1) : tB te σ H Q := h
theorem r_and {t u : TT} {Q : Bool → Hp → Prop} (h : t σ H fun c H1 => if c = true then u σ H1 Q else Q false H1) : tAnd t u σ H Q := h
theorem r_or {t u : TT} {Q : Bool → Hp → Prop} (h : t σ H fun c H1 => if c = true then Q true H1 else u σ H1 Q) : tOr t u σ H Q := h
theorem r_not {t : TT} {Q : Bool → Hp → Prop} (h : t σ H fun c H1 => Q (!c) H1) : tNot t σ H Q := h
theorem r_andV (h : ta σ H fun x H1 => ∃ c, x = .bl c ∧ if c = true then tb σ H1 Q else Q (.bl false) H1) : tAndV ta tb σ H Q := h
theorem r_orV (h : ta σ H fun x H1 => ∃ c, x = .bl c ∧ if c = true then Q (.bl true) H1 else tb σ H1 Q) : tOrV ta tb σ H Q := h
theorem r_notV (h : ta σ H fun x H1 => ∃ c, x = .bl c ∧ Q (.bl (!c)) H1) : tNotV ta σ H Q := h
theorem r_ifE {t : TT} (h : t σ H fun c H1 => if c = true then ta σ H1 Q else tb σ H1 Q) : tIf t ta tb σ H Q := h
theorem r_nil {Q : List V → Hp → Prop} (h : Q [] H) : tNil σ H Q := h
theorem r_cons {tr : TA} {Q : List V → Hp → Prop} (h : te σ H fun x H1 => tr σ H1 fun xs H2 => Q (x :: xs) H2) : tCons te tr σ H Q := h
theorem r_cb {r : List V → Hp → VK → Prop} {a : TA} (h : a σ H fun vs H1 => r vs H1 Q) : tCB r a σ H Q := h
theorem r_own {sp : Sp} {E : XK} {a : TA} (h : a σ H fun vs H1 => sp vs H1 Q E) : tCallO sp E a σ H Q := h
theorem r_tup {a : TA} (h : a σ H fun xs H1 => xs.length ≤ sizeLine ∧ ∀ p, H1 p = none → Q (.ref p) (upd H1 p (.tup xs))) : tTup a σ H Q := h
theorem r_lst {a : TA} (h : a σ H fun xs H1 => xs.length ≤ sizeLine ∧ ∀ p, H1 p = none → Q (.ref p) (upd H1 p (.lst xs))) : tLst a σ H Q := h
theorem r_sl {r : V → Option Int → Option Int → Hp → VK → Prop} {a b : TO} (h : te σ H fun x H1 => a σ H1 fun l H2 => b σ H2 fun u H3 => r x l u H3 Q) : tSl r te a b σ H Q := h
theorem r_noPart {Q : Option Int → Hp → Prop} (h : Q none H) : tNoPart σ H Q := h
theorem r_part {Q : Option Int → Hp → Prop} (h : te σ H fun x H1 => ∃ i, x = .int i ∧ Q (some i) H1) : tPart te σ H Q := h
theorem r_bm {T : String} {r : V → List V → Hp → VK → Prop} {a : TA} (h : ta σ H fun x H1 => tyV K T x H1 ∧ a σ H1 fun xs H2 => r x xs H2 Q) : tBM K T r ta a σ H Q := h
theorem r_bm0 {T : String} {r : V → List V → Hp → VK → Prop} (h : ta σ H fun x H1 => tyV K T x H1 ∧ r x [] H1 Q) : tBM0 K T r ta σ H Q := h
-- the operators
theorem q_addI {i j : Int} (h : Q (.int (i + j)) H) : uAdd K (.int i) (.int j) H Q := h
theorem q_addS {i j : Str} (l : i.length + j.length ≤ sizeLine) (h : Q (.str (i ++ j)) H) : uAdd K (.str i) (.str j) H Q := ⟨l, h⟩
theorem q_addL {a b : Addr} {xs zs : List V} (ha : H a = some (.lst xs)) (hb : H b = some (.lst zs)) (l : xs.length + zs.length ≤ sizeLine) (h : ∀ p, H p = none → Q (.ref p) (upd H p (.lst (xs ++ zs)))) : uAdd K (.ref a) (.ref b) H Q :=
  .inl ⟨a, b, xs, zs, rfl, rfl, ha, hb, l, h⟩
theorem q_addT {a b : Addr} {xs zs : List V} (ha : H a = some (.tup xs)) (hb : H b = some (.tup zs)) (l : xs.length + zs.length ≤ sizeLine) (h0 : xs = [] → Q (.ref b) H) (h1 : xs ≠ [] → zs = [] → Q (.ref a) H)
    (h : xs ≠ [] → zs ≠ [] → ∀ p, H p = none → Q (.ref p) (upd H p (.tup (xs ++ zs)))) : uAdd K (.ref a) (.ref b) H Q :=
  .inr ⟨a, b, xs, zs, rfl, rfl, .of ha, .of hb, l, h0, h1, h⟩
theorem q_sub {i j : Int} (h : Q (.int (i - j)) H) : uSub (.int i) (.int j) H Q := h
theorem q_mul {i j : Int} (l : CMul i j) (h : Q (.int (i * j)) H) : uMul (.int i) (.int j) H Q := ⟨l, h⟩
theorem q_div {i j : Int} (l : CDiv i j) (h : Q (.int (i / j)) H) : uDiv (.int i) (.int j) H Q := ⟨l, h⟩
theorem q_mod {i j : Int} (l : 0 < j) (h : Q (.int (i % j)) H) : uMod (.int i) (.int j) H Q := ⟨l, h⟩
theorem q_pow {i j : Int} (l : CPow i j) (h : Q (.int (i ^ j.toNat)) H) : uPow (.int i) (.int j) H Q := ⟨l, h⟩
theorem q_neg {i : Int} (h : Q (.int (-i)) H) : uNeg (.int i) H Q := h
theorem q_cmp {p : Int → Int → Bool} {i j : Int} (h : Q (.bl (p i j)) H) : uCmp p (.int i) (.int j) H Q := h
theorem q_eq (l : scal x y = true) (h : Q (.bl (decide (x = y))) H) : uEq K x y H Q := .inl ⟨l, h⟩
theorem q_ne (l : scal x y = true) (h : Q (.bl (!decide (x = y))) H) : uNe K x y H Q := .inl ⟨l, h⟩
theorem q_ixL {a : Addr} {xs : List V} {i : Int} (ha : H a = some (.lst xs)) (e : atI xs i = some v) (h : Q v H) : rIx K (.ref a) (.int i) H Q := .inl ⟨a, xs, i, v, rfl, rfl, .of ha, e, h⟩
theorem q_ixT {a : Addr} {xs : List V} {i : Int} (ha : H a = some (.tup xs)) (e : atI xs i = some v) (h : Q v H) : rIx K (.ref a) (.int i) H Q := .inr (.inl ⟨a, xs, i, v, rfl, rfl, .of ha, e, h⟩)
theorem q_ixS {z : Str} {i : Int} {c : Nat} (l : z.length ≤ sizeLine) (e : atI z.cps.toList i = some c) (h : Q (.str ⟨#[c]⟩) H) : rIx K (.str z) (.int i) H Q := .inr (.inr ⟨z, i, c, rfl, rfl, l, e, h⟩)
theorem q_lenL {a : Addr} {xs : List V} (ha : H a = some (.lst xs)) (h : Q (.int xs.length) H) : uLen K [.ref a] H Q := ⟨_, _, rfl, .inl ⟨_, .of ha, rfl⟩, h⟩
theorem q_lenT {a : Addr} {xs : List V} (ha : H a = some (.tup xs)) (h : Q (.int xs.length) H) : uLen K [.ref a] H Q := ⟨_, _, rfl, .inr ⟨_, .of ha, rfl⟩, h⟩
theorem q_lenS {z : Str} (l : z.length ≤ sizeLine) (h : Q (.int z.length) H) : uLen K [.str z] H Q := ⟨_, _, rfl, ⟨l, rfl⟩, h⟩
theorem q_intI {i : Int} (h : Q (.int i) H) : uInt [.int i] H Q := h
theorem q_intB {k : Bool} (h : Q (.int (if k then 1 else 0)) H) : uInt [.bl k] H Q := h
theorem q_isi {T T' : String} {b : Bool} (t : TyX K H x (.type T)) (e : kitB T T' = some b) (h : Q (.bl b) H) : rIsi K [x, .ty T'] H Q := ⟨x, .ty T', .type T, .type T', b, rfl, .ty _, t, kit_ty e, h⟩
-- ifs whose answer is known
theorem if_t {b : Bool} {A B : Prop} (e : b = true) (h : A) : if b = true then A else B := by rw [if_pos e]; exact h
theorem if_f {b : Bool} {A B : Prop} (e : b = false) (h : B) : if b = true then A else B := by rw [e]; exact iteF h
theorem if_dt {p : Prop} [Decidable p] {A B : Prop} (e : p) (h : A) : if decide p = true then A else B := by rw [decide_eq_true e]; exact iteT h
theorem if_df {p : Prop} [Decidable p] {A B : Prop} (e : ¬ p) (h : B) : if decide p = true then A else B := by rw [decide_eq_false e]; exact iteF h
theorem if_nt {p : Prop} [Decidable p] {A B : Prop} (e : ¬ p) (h : A) : if (!decide p) = true then A else B := by rw [decide_eq_false e]; exact iteT h
theorem if_nf {p : Prop} [Decidable p] {A B : Prop} (e : p) (h : B) : if (!decide p) = true then A else B := by rw [decide_eq_true e]; exact iteF h
/-- both ways of a test -/
theorem if_d {p : Prop} [Decidable p] {A B : Prop} (h1 : p → A) (h2 : ¬ p → B) : if decide p = true then A else B := by
  by_cases e : p
  · exact if_dt e (h1 e)
  · exact if_df e (h2 e)
theorem if_n {p : Prop} [Decidable p] {A B : Prop} (h1 : ¬ p → A) (h2 : p → B) : if (!decide p) = true then A else B := by
  by_cases e : p
  · exact if_nf e (h2 e)
  · exact if_nt e (h1 e)
theorem if_b {b : Bool} {A B : Prop} (h1 : b = true → A) (h2 : b = false → B) : if b = true then A else B := by
  cases b with
  | true => exact iteT (h1 rfl)
  | false => exact iteF (h2 rfl)
end
/-- the slots at the entry, written out -/
theorem go_start {t : TS} {D : Ends} {σ σ0 : L2.St} {H : Hp} (e : σ = σ0) (h : t D σ0 H) : t D σ H := by rw [e]; exact h
theorem small_of {n : Nat} (h : n ≤ 100000) : n ≤ sizeLine := Nat.le_trans h (by decide)
theorem small_lt {n : Nat} (h : n < 100000) : n < sizeLine := Nat.lt_of_lt_of_le h (by decide)

/-! ### heaps that grow -/
theorem Same.new {H H1 : Hp} {p : Addr} {o : HO} (e : Same H H1) (h : H1 p = none) : Same H (upd H1 p o) := fun b u q => by
  have q' := e b u q
  rw [upd_ne (ne_of_none q' h)]
  exact q'
theorem Same.mut {H H1 : Hp} {p : Addr} {o : HO} (e : Same H H1) (h : H p = none) : Same H (upd H1 p o) := fun b u q => by
  rw [upd_ne (ne_of_none q h)]
  exact e b u q
/-- all but the list at s stands; there stands a list of one number -/
structure Gs (s : Addr) (H H' : Hp) : Prop where
  keep : ∀ b o, b ≠ s → H b = some o → H' b = some o
  st : ∃ y : Int, H' s = some (.lst [.int y])
theorem Gs.trans {s : Addr} {H H1 H2 : Hp} (a : Gs s H H1) (b : Gs s H1 H2) : Gs s H H2 := ⟨fun c o n h => b.keep c o n (a.keep c o n h), b.st⟩
theorem Gs.refl {s : Addr} {H : Hp} {y : Int} (h : H s = some (.lst [.int y])) : Gs s H H := ⟨fun _ _ _ q => q, y, h⟩
theorem Gs.put {s : Addr} {H : Hp} {y : Int} : Gs s H (upd H s (.lst [.int y])) := ⟨fun b o n q => by rw [upd_ne n]; exact q, y, upd_same⟩
theorem Gs.same {s : Addr} {H H1 : Hp} {y : Int} (h : H s = some (.lst [.int y])) (e : Same H H1) : Gs s H H1 := ⟨fun b o _ q => e b o q, y, e _ _ h⟩
theorem Gs.new {s : Addr} {H H1 : Hp} {p : Addr} {o : HO} (e : Gs s H H1) (h : H1 p = none) : Gs s H (upd H1 p o) := ⟨fun b u n q => by
  have q' := e.keep b u n q
  rw [upd_ne (ne_of_none q' h)]
  exact q', by
  obtain ⟨y, q⟩ := e.st
  exact ⟨y, by rw [upd_ne (ne_of_none q h)]; exact q⟩⟩
theorem Gs.then {s : Addr} {H H1 H2 : Hp} (a : Gs s H H1) (b : Same H1 H2) : Gs s H H2 := by
  obtain ⟨y, q⟩ := a.st
  exact a.trans (.same q b)
theorem Gs.mut {s : Addr} {H H1 : Hp} {p : Addr} {o : HO} (e : Gs s H H1) (h : H p = none) (n : s ≠ p) : Gs s H (upd H1 p o) := ⟨fun b u nb q => by
  rw [upd_ne (ne_of_none q h)]
  exact e.keep b u nb q, by
  obtain ⟨y, q⟩ := e.st
  exact ⟨y, by rw [upd_ne n]; exact q⟩⟩
theorem Gs.free {s : Addr} {H H' : Hp} {l : Addr} (e : Gs s H H') (n : l ≠ s) (h : H' l = none) : H l = none := by
  cases q : H l with
  | none => rfl
  | some o =>
    rw [e.keep l o n q] at h
    cases h

/-! ### data -/
mutual
/-- the value v bears the data d (tuples and lists that are tracked; no list of it is of one number) -/
def At (H : Hp) : PyData → V → Prop
  | .none, v => v = .non
  | .bool b, v => v = .bl b
  | .int i, v => v = .int i
  | .str s, v => v = .str s
  | .list ds, v => ∃ a vs, v = .ref a ∧ H a = some (.lst vs) ∧ (∀ x, vs ≠ [.int x]) ∧ AtAll H ds vs
  | .tuple ds, v => ∃ a vs, v = .ref a ∧ H a = some (.tup vs) ∧ AtAll H ds vs
  | .dict _, _ => False
def AtAll (H : Hp) : List PyData → List V → Prop
  | [], vs => vs = []
  | d :: ds, vs => ∃ v r, vs = v :: r ∧ At H d v ∧ AtAll H ds r
end
/-- what data leans on stays -/
def Le (H H' : Hp) : Prop := ∀ b o, H b = some o → (∀ x, o ≠ .lst [.int x]) → H' b = some o
theorem Le.refl (H : Hp) : Le H H := fun _ _ q _ => q
theorem Le.trans {H H1 H2 : Hp} (a : Le H H1) (b : Le H1 H2) : Le H H2 := fun c o h n => b c o (a c o h n) n
theorem Same.le {H H' : Hp} (e : Same H H') : Le H H' := fun b o q _ => e b o q
theorem Gs.le {s : Addr} {H H' : Hp} {x : Int} (h : H s = some (.lst [.int x])) (e : Gs s H H') : Le H H' := fun b o q n => e.keep b o (fun z => by
  subst z
  rw [h] at q
  exact n x (Option.some.inj q).symm) q
theorem Le.new {H H1 : Hp} {p : Addr} {o : HO} (e : Le H H1) (h : H1 p = none) : Le H (upd H1 p o) := fun b u q n => by
  have q' := e b u q n
  rw [upd_ne (ne_of_none q' h)]
  exact q'
theorem Le.mut {H H1 : Hp} {p : Addr} {o : HO} (e : Le H H1) (h : H p = none) : Le H (upd H1 p o) := fun b u q n => by
  rw [upd_ne (ne_of_none q h)]
  exact e b u q n
theorem Le.put {H H1 : Hp} {p : Addr} {o : HO} {x : Int} (e : Le H H1) (h : H1 p = some (.lst [.int x])) : Le H (upd H1 p o) := fun b u q n => by
  have q' := e b u q n
  have ne : b ≠ p := fun z => by
    subst z
    rw [h] at q'
    exact n x (Option.some.inj q').symm
  rw [upd_ne ne]
  exact q'
mutual
theorem At.le {H H' : Hp} (e : Le H H') : ∀ {d : PyData} {v : V}, At H d v → At H' d v
  | .none, _, h => h
  | .bool _, _, h => h
  | .int _, _, h => h
  | .str _, _, h => h
  | .list _, _, ⟨a, vs, q, h, n, r⟩ => ⟨a, vs, q, e _ _ h (fun x z => n x (by injection z)), n, AtAll.le e r⟩
  | .tuple _, _, ⟨a, vs, q, h, r⟩ => ⟨a, vs, q, e _ _ h (fun x z => by cases z), AtAll.le e r⟩
  | .dict _, _, h => h
theorem AtAll.le {H H' : Hp} (e : Le H H') : ∀ {ds : List PyData} {vs : List V}, AtAll H ds vs → AtAll H' ds vs
  | [], _, h => h
  | _ :: _, _, ⟨v, r, q, h, t⟩ => ⟨v, r, q, At.le e h, AtAll.le e t⟩
end
mutual
theorem At.dp {K : PySem.W.Frag} {H : Hp} : ∀ {d : PyData} {v : V}, At H d v → Dp K H v d
  | .none, _, h => by cases (show _ = _ from h); exact .non
  | .bool _, _, h => by cases (show _ = _ from h); exact .bl _
  | .int _, _, h => by cases (show _ = _ from h); exact .int _
  | .str _, _, h => by cases (show _ = _ from h); exact .str _
  | .list _, _, ⟨a, vs, q, h, n, r⟩ => by subst q; exact .lst (.of h) (AtAll.dp r)
  | .tuple _, _, ⟨a, vs, q, h, r⟩ => by subst q; exact .tup (.of h) (AtAll.dp r)
  | .dict _, _, h => h.elim
theorem AtAll.dp {K : PySem.W.Frag} {H : Hp} : ∀ {ds : List PyData} {vs : List V}, AtAll H ds vs → DpAll K H vs ds
  | [], _, h => by cases (show _ = _ from h); exact .nil
  | _ :: _, _, ⟨v, r, q, h, t⟩ => by subst q; exact .cons (At.dp h) (AtAll.dp t)
end
theorem AtAll.length {H : Hp} : ∀ {ds : List PyData} {vs : List V}, AtAll H ds vs → vs.length = ds.length
  | [], _, h => by rw [show _ = _ from h]; rfl
  | _ :: _, _, ⟨v, r, q, _, t⟩ => by rw [q, List.length_cons, List.length_cons, AtAll.length t]
theorem AtAll.get {H : Hp} : ∀ {ds : List PyData} {vs : List V} {i : Nat} {d : PyData}, AtAll H ds vs → ds[i]? = some d → ∃ v, vs[i]? = some v ∧ At H d v
  | [], _, _, _, _, e => by simp at e
  | _ :: _, _, 0, _, ⟨v, r, q, h, t⟩, e => by
    have e := Option.some.inj e
    subst e q
    exact ⟨v, rfl, h⟩
  | _ :: _, _, i + 1, _, ⟨v, r, q, h, t⟩, e => by
    subst q
    obtain ⟨w, h1, h2⟩ := AtAll.get (i := i) t (by simpa using e)
    exact ⟨w, by simpa using h1, h2⟩
theorem AtAll.ix {H : Hp} : ∀ {ds : List PyData} {vs : List V} {i : Nat} {v : V}, AtAll H ds vs → vs[i]? = some v → ∃ d, ds[i]? = some d ∧ At H d v
  | [], _, _, _, h, e => by rw [show _ = _ from h] at e; simp at e
  | d :: _, _, 0, _, ⟨v, r, q, h, t⟩, e => by
    subst q
    have e := Option.some.inj e
    subst e
    exact ⟨d, rfl, h⟩
  | _ :: _, _, i + 1, _, ⟨v, r, q, h, t⟩, e => by
    subst q
    obtain ⟨w, h1, h2⟩ := AtAll.ix (i := i) t (by simpa using e)
    exact ⟨w, by simpa using h1, h2⟩
theorem AtAll.append {H : Hp} : ∀ {ds es : List PyData} {vs ws : List V}, AtAll H ds vs → AtAll H es ws → AtAll H (ds ++ es) (vs ++ ws)
  | [], _, _, _, h, k => by rw [show _ = _ from h]; exact k
  | _ :: _, _, _, _, ⟨v, r, q, h, t⟩, k => by subst q; exact ⟨v, _, rfl, h, AtAll.append t k⟩
theorem AtAll.one {H : Hp} {d : PyData} {v : V} (h : At H d v) : AtAll H [d] [v] := ⟨v, [], rfl, h, rfl⟩
theorem AtAll.take {H : Hp} : ∀ {ds : List PyData} {vs : List V} (n : Nat), AtAll H ds vs → AtAll H (ds.take n) (vs.take n)
  | [], _, n, h => by rw [show _ = _ from h]; simp; exact rfl
  | _ :: _, _, 0, _ => rfl
  | _ :: _, _, n + 1, ⟨v, r, q, h, t⟩ => by subst q; exact ⟨v, _, rfl, h, AtAll.take n t⟩
theorem AtAll.drop {H : Hp} : ∀ {ds : List PyData} {vs : List V} (n : Nat), AtAll H ds vs → AtAll H (ds.drop n) (vs.drop n)
  | _, _, 0, h => h
  | [], _, n + 1, h => by rw [show _ = _ from h]; simp; exact rfl
  | _ :: _, _, n + 1, ⟨v, r, q, h, t⟩ => by subst q; exact AtAll.drop n t

theorem AtAll.ex1 {H : Hp} {ds : List PyData} {vs : List V} (h : AtAll H ds vs) (l : vs.length = 1) : ∃ d0 v0, ds = [d0] ∧ vs = [v0] ∧ At H d0 v0 := by
  match ds, h with
  | [], h => rw [show _ = _ from h] at l; cases l
  | [d0], ⟨v0, r, q, h0, h1⟩ => rw [show _ = _ from h1] at q; exact ⟨d0, v0, rfl, q, h0⟩
  | _ :: _ :: _, ⟨v0, r, q, h0, ⟨v1, r1, q1, _, _⟩⟩ => subst q1 q; simp at l
theorem AtAll.ex2 {H : Hp} {ds : List PyData} {vs : List V} (h : AtAll H ds vs) (l : vs.length = 2) : ∃ d0 d1 v0 v1, ds = [d0, d1] ∧ vs = [v0, v1] ∧ At H d0 v0 ∧ At H d1 v1 := by
  match ds, h with
  | [], h => rw [show _ = _ from h] at l; cases l
  | d0 :: r, ⟨v0, r', q, h0, h1⟩ =>
    subst q
    obtain ⟨d1, v1, e1, e2, h2⟩ := AtAll.ex1 h1 (by simpa using l)
    subst e1 e2
    exact ⟨d0, d1, v0, v1, rfl, rfl, h0, h2⟩
theorem AtAll.ex3 {H : Hp} {ds : List PyData} {vs : List V} (h : AtAll H ds vs) (l : vs.length = 3) : ∃ d0 d1 d2 v0 v1 v2, ds = [d0, d1, d2] ∧ vs = [v0, v1, v2] ∧ At H d0 v0 ∧ At H d1 v1 ∧ At H d2 v2 := by
  match ds, h with
  | [], h => rw [show _ = _ from h] at l; cases l
  | d0 :: r, ⟨v0, r', q, h0, h1⟩ =>
    subst q
    obtain ⟨d1, d2, v1, v2, e1, e2, h2, h3⟩ := AtAll.ex2 h1 (by simpa using l)
    subst e1 e2
    exact ⟨d0, d1, d2, v0, v1, v2, rfl, rfl, h0, h2, h3⟩
theorem AtAll.ex4 {H : Hp} {ds : List PyData} {vs : List V} (h : AtAll H ds vs) (l : vs.length = 4) : ∃ d0 d1 d2 d3 v0 v1 v2 v3, ds = [d0, d1, d2, d3] ∧ vs = [v0, v1, v2, v3] ∧ At H d0 v0 ∧ At H d1 v1 ∧ At H d2 v2 ∧ At H d3 v3 := by
  match ds, h with
  | [], h => rw [show _ = _ from h] at l; cases l
  | d0 :: r, ⟨v0, r', q, h0, h1⟩ =>
    subst q
    obtain ⟨d1, d2, d3, v1, v2, v3, e1, e2, h2, h3, h4⟩ := AtAll.ex3 h1 (by simpa using l)
    subst e1 e2
    exact ⟨d0, d1, d2, d3, v0, v1, v2, v3, rfl, rfl, h0, h2, h3, h4⟩
theorem decInt {i j : Int} : decide (V.int i = V.int j) = decide (i = j) := by
  by_cases e : i = j
  · subst e; simp
  · rw [decide_eq_false e, decide_eq_false (fun z => e (V.int.inj z))]
/-- plain values by themselves -/
theorem q_eqI {K : PySem.W.Frag} {H : Hp} {i j : Int} {Q : VK} (h : Q (.bl (decide (i = j))) H) : uEq K (.int i) (.int j) H Q := q_eq rfl (by rw [decInt]; exact h)
theorem q_neI {K : PySem.W.Frag} {H : Hp} {i j : Int} {Q : VK} (h : Q (.bl (!decide (i = j))) H) : uNe K (.int i) (.int j) H Q := q_ne rfl (by rw [decInt]; exact h)

theorem at1 {H : Hp} {a : Addr} {d0 : PyData} {v0 : V} (h : H a = some (.tup [v0])) (h0 : At H d0 v0) : At H (.tuple [d0]) (.ref a) := ⟨a, _, rfl, h, _, _, rfl, h0, rfl⟩
theorem at2 {H : Hp} {a : Addr} {d0 d1 : PyData} {v0 v1 : V} (h : H a = some (.tup [v0, v1])) (h0 : At H d0 v0) (h1 : At H d1 v1) : At H (.tuple [d0, d1]) (.ref a) := ⟨a, _, rfl, h, _, _, rfl, h0, _, _, rfl, h1, rfl⟩
theorem at3 {H : Hp} {a : Addr} {d0 d1 d2 : PyData} {v0 v1 v2 : V} (h : H a = some (.tup [v0, v1, v2])) (h0 : At H d0 v0) (h1 : At H d1 v1) (h2 : At H d2 v2) : At H (.tuple [d0, d1, d2]) (.ref a) := ⟨a, _, rfl, h, _, _, rfl, h0, _, _, rfl, h1, _, _, rfl, h2, rfl⟩
theorem at4 {H : Hp} {a : Addr} {d0 d1 d2 d3 : PyData} {v0 v1 v2 v3 : V} (h : H a = some (.tup [v0, v1, v2, v3])) (h0 : At H d0 v0) (h1 : At H d1 v1) (h2 : At H d2 v2) (h3 : At H d3 v3) : At H (.tuple [d0, d1, d2, d3]) (.ref a) := ⟨a, _, rfl, h, _, _, rfl, h0, _, _, rfl, h1, _, _, rfl, h2, _, _, rfl, h3, rfl⟩
/-! data of tuples alone -/
mutual
def tupOnly : PyData → Bool
  | .list _ => false
  | .tuple ds => tupsOnly ds
  | _ => true
def tupsOnly : List PyData → Bool
  | [] => true
  | d :: ds => tupOnly d && tupsOnly ds
end
def LeT (H H' : Hp) : Prop := ∀ b xs, H b = some (.tup xs) → H' b = some (.tup xs)
theorem LeT.refl (H : Hp) : LeT H H := fun _ _ q => q
theorem LeT.trans {H H1 H2 : Hp} (a : LeT H H1) (b : LeT H1 H2) : LeT H H2 := fun c o h => b c o (a c o h)
theorem Le.let {H H' : Hp} (e : Le H H') : LeT H H' := fun b xs q => e b _ q (fun x z => by cases z)
mutual
theorem At.leT {H H' : Hp} (e : LeT H H') : ∀ {d : PyData} {v : V}, tupOnly d = true → At H d v → At H' d v
  | .none, _, _, h => h
  | .bool _, _, _, h => h
  | .int _, _, _, h => h
  | .str _, _, _, h => h
  | .list _, _, t, _ => by simp [tupOnly] at t
  | .tuple ds, _, t, ⟨a, vs, q, h, r⟩ => ⟨a, vs, q, e _ _ h, AtAll.leT e (by simpa [tupOnly] using t) r⟩
  | .dict _, _, _, h => h
theorem AtAll.leT {H H' : Hp} (e : LeT H H') : ∀ {ds : List PyData} {vs : List V}, tupsOnly ds = true → AtAll H ds vs → AtAll H' ds vs
  | [], _, _, h => h
  | d :: ds, _, t, ⟨v, r, q, h, k⟩ => by
    have t' : tupOnly d = true ∧ tupsOnly ds = true := by simpa [tupsOnly] using t
    exact ⟨v, r, q, At.leT e t'.1 h, AtAll.leT e t'.2 k⟩
end
theorem tupsOnly_all : ∀ {ds : List PyData}, (∀ d ∈ ds, tupOnly d = true) → tupsOnly ds = true
  | [], _ => rfl
  | d :: ds, h => by
    show (tupOnly d && tupsOnly ds) = true
    rw [h d (by simp), tupsOnly_all fun x hx => h x (by simp [hx])]
    rfl
theorem LeT.new1 {H H1 : Hp} {p : Addr} {o : HO} (h : H1 p = none) (e : LeT H H1) : LeT H (upd H1 p o) := fun b xs q => by
  have q' := e b xs q
  rw [upd_ne (ne_of_none q' h)]
  exact q'
theorem LeT.same1 {H H1 H2 : Hp} (b : Same H1 H2) (a : LeT H H1) : LeT H H2 := a.trans (Same.le b).let
theorem LeT.gs1 {s : Addr} {x : Int} {H H1 H2 : Hp} (b : Gs s H1 H2) (h : H1 s = some (.lst [.int x])) (a : LeT H H1) : LeT H H2 := a.trans (b.le h).let
theorem LeT.put1 {H H1 : Hp} {p : Addr} {o : HO} {xs : List V} (h : H1 p = some (.lst xs)) (e : LeT H H1) : LeT H (upd H1 p o) := fun b ys q => by
  have q' := e b ys q
  rw [upd_ne (ne_of q' h (fun z => by cases z))]
  exact q'
/-! the same with what is sought first ahead -/
theorem hp_ne {H : Hp} {a b : Addr} {o u : HO} (n : b ≠ a) (h : H b = some u) : upd H a o b = some u := (upd_ne n).trans h
theorem hp_new {H : Hp} {a b : Addr} {o u : HO} (n : H a = none) (h : H b = some u) : upd H a o b = some u := (upd_ne (ne_of_none h n)).trans h
theorem hp_put {H : Hp} {a b : Addr} {o u : HO} (_ : H a = none ∨ True) (n : b ≠ a) (h : H b = some u) : upd H a o b = some u := (upd_ne n).trans h
theorem hp_same {H H' : Hp} {b : Addr} {u : HO} (e : Same H H') (h : H b = some u) : H' b = some u := e _ _ h
theorem hp_gs {s : Addr} {H H' : Hp} {b : Addr} {u : HO} (e : Gs s H H') (n : b ≠ s) (h : H b = some u) : H' b = some u := e.keep _ _ n h
theorem at_int {H : Hp} {i : Int} : At H (.int i) (.int i) := rfl
theorem at_bl {H : Hp} {i : Bool} : At H (.bool i) (.bl i) := rfl
theorem at_str {H : Hp} {i : Str} : At H (.str i) (.str i) := rfl
theorem at_non {H : Hp} : At H .none .non := rfl
theorem ne1 {H : Hp} {a b : Addr} {o : HO} (h' : H b = none) (h : H a = some o) : a ≠ b := ne_of_none h h'
theorem ne2 {H : Hp} {a b : Addr} {o : HO} (h' : H b = none) (h : H a = some o) : b ≠ a := (ne_of_none h h').symm
theorem At.le1 {H H' : Hp} {d : PyData} {v : V} (h : At H d v) (e : Le H H') : At H' d v := h.le e
theorem AtAll.le1 {H H' : Hp} {d : List PyData} {v : List V} (h : AtAll H d v) (e : Le H H') : AtAll H' d v := h.le e
theorem Same.free1 {H H' : Hp} {l : Addr} (h : H' l = none) (e : Same H H') : H l = none := L2.Same.free e h
theorem Same.new1 {H H1 : Hp} {p : Addr} {o : HO} (h : H1 p = none) (e : Same H H1) : Same H (upd H1 p o) := Same.new e h
theorem Same.trans1 {H H1 H2 : Hp} (b : Same H1 H2) (a : Same H H1) : Same H H2 := L2.Same.trans a b
theorem Gs.new1 {s : Addr} {H H1 : Hp} {p : Addr} {o : HO} (h : H1 p = none) (e : Gs s H H1) : Gs s H (upd H1 p o) := e.new h
theorem Gs.free1 {s : Addr} {H H' : Hp} {l : Addr} (h : H' l = none) (e : Gs s H H') (n : l ≠ s) : H l = none := e.free n h
theorem Gs.mut1 {s : Addr} {H H1 : Hp} {p : Addr} {o : HO} (h : H p = none) (n : s ≠ p) (e : Gs s H H1) : Gs s H (upd H1 p o) := e.mut h n
theorem Gs.trans1 {s : Addr} {H H1 H2 : Hp} (b : Gs s H1 H2) (a : Gs s H H1) : Gs s H H2 := a.trans b
theorem Gs.then1 {s : Addr} {H H1 H2 : Hp} (b : Same H1 H2) (a : Gs s H H1) : Gs s H H2 := a.then b
theorem Gs.put1 {s : Addr} {H H1 : Hp} {y : Int} (a : Gs s H H1) : Gs s H (upd H1 s (.lst [.int y])) := a.trans .put
theorem Le.new1 {H H1 : Hp} {p : Addr} {o : HO} (h : H1 p = none) (e : Le H H1) : Le H (upd H1 p o) := e.new h
theorem Le.same1 {H H1 H2 : Hp} (b : Same H1 H2) (a : Le H H1) : Le H H2 := a.trans (Same.le b)
theorem Le.gs1 {s : Addr} {x : Int} {H H1 H2 : Hp} (b : Gs s H1 H2) (h : H1 s = some (.lst [.int x])) (a : Le H H1) : Le H H2 := a.trans (b.le h)
theorem Le.put1 {H H1 : Hp} {p : Addr} {o : HO} {x : Int} (h : H1 p = some (.lst [.int x])) (e : Le H H1) : Le H (upd H1 p o) := e.put h

/-- the type of data -/
def tyOf : PyData → String
  | .none => "NoneType"
  | .bool _ => "bool"
  | .int _ => "int"
  | .str _ => "str"
  | .list _ => "list"
  | .tuple _ => "tuple"
  | .dict _ => "dict"
theorem At.ty {K : PySem.W.Frag} {H : Hp} {d : PyData} {v : V} (h : At H d v) : TyX K H v (.type (tyOf d)) := by
  cases d with
  | none => cases (show _ = _ from h); exact .base .non
  | bool b => cases (show _ = _ from h); exact .base (.bl _)
  | int i => cases (show _ = _ from h); exact .base (.int _)
  | str s => cases (show _ = _ from h); exact .base (.str _)
  | list ds => obtain ⟨a, vs, q, h, n, r⟩ := h; subst q; exact .base (.lst h)
  | tuple ds => obtain ⟨a, vs, q, h, r⟩ := h; subst q; exact .base (.tup h)
  | dict _ => exact h.elim

/-! ### isinstance of data -/
def isIntD : PyData → Bool
  | .int _ => true
  | .bool _ => true
  | _ => false
def isBoolD : PyData → Bool
  | .bool _ => true
  | _ => false
def isTupD : PyData → Bool
  | .tuple _ => true
  | _ => false
def isStrD : PyData → Bool
  | .str _ => true
  | _ => false
def isLstD : PyData → Bool
  | .list _ => true
  | _ => false
theorem kb_int : ∀ d : PyData, (∀ k, d ≠ .dict k) → kitB (tyOf d) "int" = some (isIntD d)
  | .none, _ => (by decide +kernel : kitB "NoneType" "int" = some false)
  | .bool _, _ => (by decide +kernel : kitB "bool" "int" = some true)
  | .int _, _ => (by decide +kernel : kitB "int" "int" = some true)
  | .str _, _ => (by decide +kernel : kitB "str" "int" = some false)
  | .list _, _ => (by decide +kernel : kitB "list" "int" = some false)
  | .tuple _, _ => (by decide +kernel : kitB "tuple" "int" = some false)
  | .dict k, h => absurd rfl (h k)
theorem kb_bool : ∀ d : PyData, (∀ k, d ≠ .dict k) → kitB (tyOf d) "bool" = some (isBoolD d)
  | .none, _ => (by decide +kernel : kitB "NoneType" "bool" = some false)
  | .bool _, _ => (by decide +kernel : kitB "bool" "bool" = some true)
  | .int _, _ => (by decide +kernel : kitB "int" "bool" = some false)
  | .str _, _ => (by decide +kernel : kitB "str" "bool" = some false)
  | .list _, _ => (by decide +kernel : kitB "list" "bool" = some false)
  | .tuple _, _ => (by decide +kernel : kitB "tuple" "bool" = some false)
  | .dict k, h => absurd rfl (h k)
theorem kb_tuple : ∀ d : PyData, (∀ k, d ≠ .dict k) → kitB (tyOf d) "tuple" = some (isTupD d)
  | .none, _ => (by decide +kernel : kitB "NoneType" "tuple" = some false)
  | .bool _, _ => (by decide +kernel : kitB "bool" "tuple" = some false)
  | .int _, _ => (by decide +kernel : kitB "int" "tuple" = some false)
  | .str _, _ => (by decide +kernel : kitB "str" "tuple" = some false)
  | .list _, _ => (by decide +kernel : kitB "list" "tuple" = some false)
  | .tuple _, _ => (by decide +kernel : kitB "tuple" "tuple" = some true)
  | .dict k, h => absurd rfl (h k)
theorem kb_str : ∀ d : PyData, (∀ k, d ≠ .dict k) → kitB (tyOf d) "str" = some (isStrD d)
  | .none, _ => (by decide +kernel : kitB "NoneType" "str" = some false)
  | .bool _, _ => (by decide +kernel : kitB "bool" "str" = some false)
  | .int _, _ => (by decide +kernel : kitB "int" "str" = some false)
  | .str _, _ => (by decide +kernel : kitB "str" "str" = some true)
  | .list _, _ => (by decide +kernel : kitB "list" "str" = some false)
  | .tuple _, _ => (by decide +kernel : kitB "tuple" "str" = some false)
  | .dict k, h => absurd rfl (h k)
theorem kb_list : ∀ d : PyData, (∀ k, d ≠ .dict k) → kitB (tyOf d) "list" = some (isLstD d)
  | .none, _ => (by decide +kernel : kitB "NoneType" "list" = some false)
  | .bool _, _ => (by decide +kernel : kitB "bool" "list" = some false)
  | .int _, _ => (by decide +kernel : kitB "int" "list" = some false)
  | .str _, _ => (by decide +kernel : kitB "str" "list" = some false)
  | .list _, _ => (by decide +kernel : kitB "list" "list" = some true)
  | .tuple _, _ => (by decide +kernel : kitB "tuple" "list" = some false)
  | .dict k, h => absurd rfl (h k)
/-! ### steps that are found by their head -/
class Step (g : Prop) (n : outParam Prop) : Prop where
  h : n → g
section
variable {σ : L2.St} {H : Hp} {nx bk ct : L2.St → Hp → Prop} {rt : VK} {i : Nat} {v x y : V} {Q : VK} {te ta tb tl th : TE} {t u : TS} {c : TT} {g : TG} {K : PySem.W.Frag} {r : R2}
instance : Step (tSeq t u ⟨nx, rt, bk, ct⟩ σ H) (t ⟨u ⟨nx, rt, bk, ct⟩, rt, bk, ct⟩ σ H) := ⟨fun h => h⟩
instance : Step (tAsg te (gName i) ⟨nx, rt, bk, ct⟩ σ H) (te σ H fun x H1 => nx (σ.set i (some x)) H1) := ⟨fun h => h⟩
instance (priority := low) : Step (tAsg te g ⟨nx, rt, bk, ct⟩ σ H) (te σ H fun x H1 => g x σ H1 nx) := ⟨fun h => h⟩
instance {P : L2.St → Hp → Prop} : Step (gName i v σ H P) (P (σ.set i (some v)) H) := ⟨fun h => h⟩
instance {P : L2.St → Hp → Prop} {to ti : TE} {s : TSet} : Step (gSub to ti s v σ H P) (to σ H fun o H1 => ti σ H1 fun i H2 => s o i v H2 fun H3 => P σ H3) := ⟨fun h => h⟩
instance : Step (tIfS c t u ⟨nx, rt, bk, ct⟩ σ H) (c σ H fun b H1 => if b = true then t ⟨nx, rt, bk, ct⟩ σ H1 else u ⟨nx, rt, bk, ct⟩ σ H1) := ⟨fun h => h⟩
instance : Step (tRet te ⟨nx, rt, bk, ct⟩ σ H) (te σ H rt) := ⟨fun h => h⟩
instance : Step (tRetN ⟨nx, rt, bk, ct⟩ σ H) (rt .non H) := ⟨fun h => h⟩
instance : Step (tNext ⟨nx, rt, bk, ct⟩ σ H) (nx σ H) := ⟨fun h => h⟩
instance : Step (tBreak ⟨nx, rt, bk, ct⟩ σ H) (bk σ H) := ⟨fun h => h⟩
instance : Step (tCont ⟨nx, rt, bk, ct⟩ σ H) (ct σ H) := ⟨fun h => h⟩
instance : Step (tDrop te ⟨nx, rt, bk, ct⟩ σ H) (te σ H fun _ H1 => nx σ H1) := ⟨fun h => h⟩
instance {i j : Nat} {ta : TA} : Step (tPar i j ta ⟨nx, rt, bk, ct⟩ σ H) (ta σ H fun vs H1 => ∃ v w, vs = [v, w] ∧ nx ((σ.set i (some v)).set j (some w)) H1) := ⟨fun h => h⟩
instance : Step (tC v σ H Q) (Q v H) := ⟨fun h => h⟩
instance : Step (tOp r ta tb σ H Q) (ta σ H fun x H1 => tb σ H1 fun y H2 => r x y H2 Q) := ⟨fun h => h⟩
instance {r : V → Hp → VK → Prop} : Step (tUn r ta σ H Q) (ta σ H fun x H1 => r x H1 Q) := ⟨fun h => h⟩
instance {r r' : R2} {tc : TE} : Step (tChain r r' ta tb tc σ H Q) (ta σ H fun x H1 => tb σ H1 fun y H2 => r x y H2 fun z H3 => ∃ k, z = .bl k ∧ if k = true then tc σ H3 fun w H4 => r' y w H4 Q else Q (.bl false) H3) := ⟨fun h => h⟩
instance {Q : Bool → Hp → Prop} : Step (tTest te σ H Q) (te σ H fun x H' => ∃ k, x = .bl k ∧ Q k H') := ⟨fun h => h⟩
instance {Q : Bool → Hp → Prop} : Step (tB te σ H Q) (te σ H fun x H1 => ∃ c, x = .bl c ∧ Q c H1) := ⟨fun h => h⟩
instance {t u : TT} {Q : Bool → Hp → Prop} : Step (tAnd t u σ H Q) (t σ H fun c H1 => if c = true then u σ H1 Q else Q false H1) := ⟨fun h => h⟩
instance {t u : TT} {Q : Bool → Hp → Prop} : Step (tOr t u σ H Q) (t σ H fun c H1 => if c = true then Q true H1 else u σ H1 Q) := ⟨fun h => h⟩
instance {t : TT} {Q : Bool → Hp → Prop} : Step (tNot t σ H Q) (t σ H fun c H1 => Q (!c) H1) := ⟨fun h => h⟩
instance {Q : Bool → Hp → Prop} : Step (tYes σ H Q) (Q true H) := ⟨fun h => h⟩
instance : Step (tAndV ta tb σ H Q) (ta σ H fun x H1 => ∃ c, x = .bl c ∧ if c = true then tb σ H1 Q else Q (.bl false) H1) := ⟨fun h => h⟩
instance : Step (tOrV ta tb σ H Q) (ta σ H fun x H1 => ∃ c, x = .bl c ∧ if c = true then Q (.bl true) H1 else tb σ H1 Q) := ⟨fun h => h⟩
instance : Step (tNotV ta σ H Q) (ta σ H fun x H1 => ∃ c, x = .bl c ∧ Q (.bl (!c)) H1) := ⟨fun h => h⟩
instance {t : TT} : Step (tIf t ta tb σ H Q) (t σ H fun c H1 => if c = true then ta σ H1 Q else tb σ H1 Q) := ⟨fun h => h⟩
instance {Q : List V → Hp → Prop} : Step (tNil σ H Q) (Q [] H) := ⟨fun h => h⟩
instance {tr : TA} {Q : List V → Hp → Prop} : Step (tCons te tr σ H Q) (te σ H fun x H1 => tr σ H1 fun xs H2 => Q (x :: xs) H2) := ⟨fun h => h⟩
instance {r : List V → Hp → VK → Prop} {a : TA} : Step (tCB r a σ H Q) (a σ H fun vs H1 => r vs H1 Q) := ⟨fun h => h⟩
instance {sp : Sp} {E : XK} {a : TA} : Step (tCallO sp E a σ H Q) (a σ H fun vs H1 => sp vs H1 Q E) := ⟨fun h => h⟩
instance {a : TA} : Step (tTup a σ H Q) (a σ H fun xs H1 => xs.length ≤ sizeLine ∧ ∀ p, H1 p = none → Q (.ref p) (upd H1 p (.tup xs))) := ⟨fun h => h⟩
instance {a : TA} : Step (tLst a σ H Q) (a σ H fun xs H1 => xs.length ≤ sizeLine ∧ ∀ p, H1 p = none → Q (.ref p) (upd H1 p (.lst xs))) := ⟨fun h => h⟩
instance {r : V → Option Int → Option Int → Hp → VK → Prop} {a b : TO} : Step (tSl r te a b σ H Q) (te σ H fun x H1 => a σ H1 fun l H2 => b σ H2 fun u H3 => r x l u H3 Q) := ⟨fun h => h⟩
instance {Q : Option Int → Hp → Prop} : Step (tNoPart σ H Q) (Q none H) := ⟨fun h => h⟩
instance {Q : Option Int → Hp → Prop} : Step (tPart te σ H Q) (te σ H fun x H1 => ∃ i, x = .int i ∧ Q (some i) H1) := ⟨fun h => h⟩
instance {T : String} {r : V → List V → Hp → VK → Prop} {a : TA} : Step (tBM K T r ta a σ H Q) (ta σ H fun x H1 => tyV K T x H1 ∧ a σ H1 fun xs H2 => r x xs H2 Q) := ⟨fun h => h⟩
instance {T : String} {r : V → List V → Hp → VK → Prop} : Step (tBM0 K T r ta σ H Q) (ta σ H fun x H1 => tyV K T x H1 ∧ r x [] H1 Q) := ⟨fun h => h⟩
-- the operators
instance {i j : Int} : Step (uAdd K (.int i) (.int j) H Q) (Q (.int (i + j)) H) := ⟨fun h => h⟩
instance {i j : Str} : Step (uAdd K (.str i) (.str j) H Q) (i.length + j.length ≤ sizeLine ∧ Q (.str (i ++ j)) H) := ⟨fun h => h⟩
instance {i j : Int} : Step (uSub (.int i) (.int j) H Q) (Q (.int (i - j)) H) := ⟨fun h => h⟩
instance {i j : Int} : Step (uMul (.int i) (.int j) H Q) (CMul i j ∧ Q (.int (i * j)) H) := ⟨fun h => h⟩
instance {i j : Int} : Step (uDiv (.int i) (.int j) H Q) (CDiv i j ∧ Q (.int (i / j)) H) := ⟨fun h => h⟩
instance {i j : Int} : Step (uMod (.int i) (.int j) H Q) (0 < j ∧ Q (.int (i % j)) H) := ⟨fun h => h⟩
instance {i j : Int} : Step (uPow (.int i) (.int j) H Q) (CPow i j ∧ Q (.int (i ^ j.toNat)) H) := ⟨fun h => h⟩
instance {i : Int} : Step (uNeg (.int i) H Q) (Q (.int (-i)) H) := ⟨fun h => h⟩
instance {p : Int → Int → Bool} {i j : Int} : Step (uCmp p (.int i) (.int j) H Q) (Q (.bl (p i j)) H) := ⟨fun h => h⟩
instance {i j : Int} : Step (uEq K (.int i) (.int j) H Q) (Q (.bl (decide (i = j))) H) := ⟨q_eqI⟩
instance {i j : Int} : Step (uNe K (.int i) (.int j) H Q) (Q (.bl (!decide (i = j))) H) := ⟨q_neI⟩
instance {i j : Str} : Step (uEq K (.str i) (.str j) H Q) (Q (.bl (decide (i = j))) H) := ⟨fun h => q_eq rfl (by
  have e : decide (V.str i = V.str j) = decide (i = j) := by simp
  rw [e]; exact h)⟩
instance {i j : Str} : Step (uNe K (.str i) (.str j) H Q) (Q (.bl (!decide (i = j))) H) := ⟨fun h => q_ne rfl (by
  have e : decide (V.str i = V.str j) = decide (i = j) := by simp
  rw [e]; exact h)⟩
instance {i j : Bool} : Step (uEq K (.bl i) (.bl j) H Q) (Q (.bl (decide (i = j))) H) := ⟨fun h => q_eq rfl (by
  have e : decide (V.bl i = V.bl j) = decide (i = j) := by simp
  rw [e]; exact h)⟩
instance {i j : Bool} : Step (uNe K (.bl i) (.bl j) H Q) (Q (.bl (!decide (i = j))) H) := ⟨fun h => q_ne rfl (by
  have e : decide (V.bl i = V.bl j) = decide (i = j) := by simp
  rw [e]; exact h)⟩
/-- a list or a tuple that is read -/
def IsSq (K : PySem.W.Frag) (H : Hp) (a : Addr) (xs : List V) : Prop := SqL K H a xs ∨ SqT K H a xs
def HoIt : HO → List V → Prop
  | .lst xs, ys => xs = ys
  | .tup xs, ys => xs = ys
  | _, _ => False
theorem sq_o {a : Addr} {o : HO} {xs : List V} (h : H a = some o) (e : HoIt o xs) : IsSq K H a xs := by
  cases o <;> first | exact e.elim | (cases (show _ = _ from e); first | exact .inl (.of h) | exact .inr (.of h))
theorem sq_l {a : Addr} {xs : List V} (h : H a = some (.lst xs)) : IsSq K H a xs := .inl (.of h)
theorem sq_t {a : Addr} {xs : List V} (h : H a = some (.tup xs)) : IsSq K H a xs := .inr (.of h)
instance {a : Addr} {i : Int} : Step (rIx K (.ref a) (.int i) H Q) (∃ xs, IsSq K H a xs ∧ ∃ v, atI xs i = some v ∧ Q v H) := ⟨fun ⟨xs, h, v, e, q⟩ => by
  rcases h with h | h
  · exact .inl ⟨a, xs, i, v, rfl, rfl, h, e, q⟩
  · exact .inr (.inl ⟨a, xs, i, v, rfl, rfl, h, e, q⟩)⟩
instance {z : Str} {i : Int} : Step (rIx K (.str z) (.int i) H Q) (∃ c, (z.length ≤ sizeLine ∧ atI z.cps.toList i = some c) ∧ Q (.str ⟨#[c]⟩) H) := ⟨fun ⟨c, h, q⟩ => q_ixS h.1 h.2 q⟩
instance {a : Addr} : Step (uLen K [.ref a] H Q) (∃ xs, IsSq K H a xs ∧ Q (.int xs.length) H) := ⟨fun ⟨xs, h, q⟩ => by
  rcases h with h | h
  · exact ⟨_, _, rfl, .inl ⟨xs, h, rfl⟩, q⟩
  · exact ⟨_, _, rfl, .inr ⟨xs, h, rfl⟩, q⟩⟩
instance {z : Str} : Step (uLen K [.str z] H Q) (z.length ≤ sizeLine ∧ Q (.int z.length) H) := ⟨fun h => q_lenS h.1 h.2⟩
instance {i : Int} : Step (uInt [.int i] H Q) (Q (.int i) H) := ⟨fun h => h⟩
instance {k : Bool} : Step (uInt [.bl k] H Q) (Q (.int (if k then 1 else 0)) H) := ⟨fun h => h⟩
/-- the value's type is that of the data -/
def Typ (H : Hp) (x : V) (d : PyData) : Prop := At H d x ∨ (∃ a vs, x = .ref a ∧ H a = some (.lst vs) ∧ d = .list []) ∨ ∃ a vs, x = .ref a ∧ H a = some (.tup vs) ∧ d = .tuple []
theorem typ_at {x : V} {d : PyData} (h : At H d x) : Typ H x d := .inl h
theorem typ_l {a : Addr} {vs : List V} (h : H a = some (.lst vs)) : Typ H (.ref a) (.list []) := .inr (.inl ⟨a, vs, rfl, h, rfl⟩)
theorem typ_t {a : Addr} {vs : List V} (h : H a = some (.tup vs)) : Typ H (.ref a) (.tuple []) := .inr (.inr ⟨a, vs, rfl, h, rfl⟩)
def HoTy : HO → PyData → Prop
  | .lst _, d => d = .list []
  | .tup _, d => d = .tuple []
  | _, _ => False
theorem typ_o {a : Addr} {o : HO} {d : PyData} (h : H a = some o) (e : HoTy o d) : Typ H (.ref a) d := by
  cases o <;> first | exact e.elim | (cases (show _ = _ from e); first | exact typ_l h | exact typ_t h)
theorem Typ.ty {x : V} {d : PyData} (h : Typ H x d) : TyX K H x (.type (tyOf d)) := by
  rcases h with h | ⟨a, vs, rfl, h, rfl⟩ | ⟨a, vs, rfl, h, rfl⟩
  · exact h.ty
  · exact .base (.lst h)
  · exact .base (.tup h)
theorem Typ.nodict {x : V} {d : PyData} (h : Typ H x d) : ∀ k, d ≠ .dict k := fun k e => by
  subst e
  rcases h with h | ⟨_, _, _, _, h⟩ | ⟨_, _, _, _, h⟩ <;> first | exact h.elim | cases h
instance : Step (rIsi K [x, .ty "int"] H Q) (∃ d, Typ H x d ∧ Q (.bl (isIntD d)) H) := ⟨fun ⟨d, h, q⟩ => q_isi h.ty (kb_int d h.nodict) q⟩
instance : Step (rIsi K [x, .ty "bool"] H Q) (∃ d, Typ H x d ∧ Q (.bl (isBoolD d)) H) := ⟨fun ⟨d, h, q⟩ => q_isi h.ty (kb_bool d h.nodict) q⟩
instance : Step (rIsi K [x, .ty "tuple"] H Q) (∃ d, Typ H x d ∧ Q (.bl (isTupD d)) H) := ⟨fun ⟨d, h, q⟩ => q_isi h.ty (kb_tuple d h.nodict) q⟩
instance : Step (rIsi K [x, .ty "str"] H Q) (∃ d, Typ H x d ∧ Q (.bl (isStrD d)) H) := ⟨fun ⟨d, h, q⟩ => q_isi h.ty (kb_str d h.nodict) q⟩
instance : Step (rIsi K [x, .ty "list"] H Q) (∃ d, Typ H x d ∧ Q (.bl (isLstD d)) H) := ⟨fun ⟨d, h, q⟩ => q_isi h.ty (kb_list d h.nodict) q⟩
-- answers that are there
instance {b : Bool} {R : Bool → Prop} : Step (∃ k, V.bl b = V.bl k ∧ R k) (R b) := ⟨fun h => ⟨b, rfl, h⟩⟩
instance {j : Int} {R : Int → Prop} : Step (∃ i, V.int j = V.int i ∧ R i) (R j) := ⟨fun h => ⟨j, rfl, h⟩⟩
instance {a : Addr} {R : Addr → Prop} : Step (∃ b, V.ref a = V.ref b ∧ R b) (R a) := ⟨fun h => ⟨a, rfl, h⟩⟩
instance {a b : V} {R : V → V → Prop} : Step (∃ v w, [a, b] = [v, w] ∧ R v w) (R a b) := ⟨fun h => ⟨a, b, rfl, h⟩⟩
instance {a : V} {R : V → Prop} : Step (∃ v, [a] = [v] ∧ R v) (R a) := ⟨fun h => ⟨a, rfl, h⟩⟩
instance {A B : Prop} : Step (if true = true then A else B) A := ⟨iteT⟩
instance {A B : Prop} : Step (if false = true then A else B) B := ⟨iteF⟩
instance {A B : Prop} : Step (if (!true) = true then A else B) B := ⟨iteF⟩
instance {A B : Prop} : Step (if (!false) = true then A else B) A := ⟨iteT⟩
-- own defs
instance {g : Sp1} {E : XK} {a : V} : Step (sp1 g [a] H Q E) (g a H Q E) := ⟨fun h => ⟨_, rfl, h⟩⟩
instance {g : Sp2} {E : XK} {a b : V} : Step (sp2 g [a, b] H Q E) (g a b H Q E) := ⟨fun h => ⟨_, _, rfl, h⟩⟩
instance {g : Sp3} {E : XK} {a b c : V} : Step (sp3 g [a, b, c] H Q E) (g a b c H Q E) := ⟨fun h => ⟨_, _, _, rfl, h⟩⟩
instance {g : Sp4} {E : XK} {a b c d : V} : Step (sp4 g [a, b, c, d] H Q E) (g a b c d H Q E) := ⟨fun h => ⟨_, _, _, _, rfl, h⟩⟩
instance {g : Sp5} {E : XK} {a b c d e : V} : Step (sp5 g [a, b, c, d, e] H Q E) (g a b c d e H Q E) := ⟨fun h => ⟨_, _, _, _, _, rfl, h⟩⟩
instance {g : Sp7} {E : XK} {a b c d e i j : V} : Step (sp7 g [a, b, c, d, e, i, j] H Q E) (g a b c d e i j H Q E) := ⟨fun h => ⟨_, _, _, _, _, _, _, rfl, h⟩⟩
end
theorem step {g n : Prop} [s : Step g n] (h : n) : g := s.h h
theorem ex_sq {K : PySem.W.Frag} {H : Hp} {a : Addr} {xs : List V} {S : List V → Prop} (h : IsSq K H a xs) (s : S xs) : ∃ xs, IsSq K H a xs ∧ S xs := ⟨xs, h, s⟩
theorem ex_v {o : Option V} {v : V} {S : V → Prop} (h : o = some v) (s : S v) : ∃ v, o = some v ∧ S v := ⟨v, h, s⟩
theorem ex_typ {H : Hp} {x : V} {d : PyData} {S : PyData → Prop} (h : Typ H x d) (s : S d) : ∃ d, Typ H x d ∧ S d := ⟨d, h, s⟩
theorem ex_at {H : Hp} {x : V} {d : PyData} {S : PyData → Prop} (h : At H d x) (s : S d) : ∃ d, At H d x ∧ S d := ⟨d, h, s⟩
theorem and_new {n : Nat} {H : Hp} {R : Addr → Prop} (l : n ≤ sizeLine) (h : ∀ p, H p = none → R p) : n ≤ sizeLine ∧ ∀ p, H p = none → R p := ⟨l, h⟩

/-! ### the body's context -/
section
variable {P : Program} {w : World} {K : PySem.W.Frag} {mg : Str → Option Value} {base : Heap} {N : List Str} {x : Str} {st : Stmt} {f : Addr} {cdv : Value} {A : Around} {outer : List Env} {s : Shared} {H : Hp} {E : XK}
theorem t_body : Takes (cx P w K mg base N x st f cdv A outer s H E) (fun cls d _ H => E cls d H) := takes_of rfl rfl rfl rfl
theorem p_body : Passes (L2.CX P w) (cx P w K mg base N x st f cdv A outer s H E) E := passes_call (W := fun cls d _ H => E cls d H) t_body fun _ _ _ _ h => h
theorem own_p : PassesOwn (model P w) (cx P w K mg base N x st f cdv A outer s H E).A (cx P w K mg base N x st f cdv A outer s H E).env (cx P w K mg base N x st f cdv A outer s H E).xe := passes_of rfl
end
instance {i j : Int} : Decidable (CPow i j) := by unfold CPow; infer_instance
end Fl

set_option Elab.async false
set_option linter.all false
set_option maxRecDepth 100000
set_option maxHeartbeats 4000000
/-! loops and comprehensions -/
namespace Fl
open PySem PySem.Spec PyProof.Rows L2 RZ
section
variable {σ : L2.St} {H : Hp} {nx bk ct : L2.St → Hp → Prop} {rt : VK} {Q : VK} {te tl : TE} {tb : TS} {g : TG} {tt : TT} {K : PySem.W.Frag} {wi : TI} {vs : List Nat}
/-- what a for asks of its iterator -/
def forG (g : TG) (tb : TS) (D : Ends) (σ : L2.St) : It → Hp → Prop := fun J H1 => ∃ W : Nat → Nat → L2.St → Hp → Prop, (∃ m, W 0 m σ H1) ∧ ∀ i m σ H, W i m σ H →
  (J.stop i H ∧ D.nx σ H) ∨ (J.go i H ∧ ∃ N : L2.St → Hp → Prop, (∀ σ' H', N σ' H' → ∃ m', m' < m ∧ W (i + 1) m' σ' H') ∧ ∀ x H', J.yld i H x H' → g x σ H' fun σ2 H2 => tb { D with nx := N, ct := N, bk := D.nx } σ2 H2)
instance {D : Ends} : Step (tFor wi g tb D σ H) (wi σ H (forG g tb D σ)) := ⟨fun h => h⟩
/-- what a comprehension asks of its iterator -/
def lcG (g : TG) (tt : TT) (te : TE) (vs : List Nat) (σ : L2.St) (Q : VK) : It → Hp → Prop := fun J H1 => ∀ D, H1 D = none → ∃ W : Nat → Nat → Hp → Prop, (∃ m, W 0 m (upd H1 D (.lst []))) ∧ ∀ i m H, W i m H →
  (J.stop i H ∧ Q (.ref D) H) ∨ (J.go i H ∧ ∃ Nx : Hp → Prop, (∀ H', Nx H' → ∃ m', m' < m ∧ W (i + 1) m' H') ∧ ∀ x H', J.yld i H x H' → g x (wipe σ vs) H' fun σ2 H2 => wipe σ2 vs = wipe σ vs ∧ tt σ2 H2 fun b H3 =>
    if b = true then te σ2 H3 fun y H4 => ∃ acc, H4 D = some (.lst acc) ∧ acc.length < sizeLine ∧ Nx (upd H4 D (.lst (acc ++ [y]))) else Nx H3)
instance : Step (tLc wi g tt te vs σ H Q) (wi σ H (lcG g tt te vs σ Q)) := ⟨fun h => h⟩
/-- the iterator of a list, a tuple -/
def ItOf (K : PySem.W.Frag) (x : V) (H : Hp) (R : It → Hp → Prop) : Prop := ∃ a, x = .ref a ∧ (((∃ xs, SqL K H a xs) ∧ R (Itl K a) H) ∨ ((∃ xs, SqT K H a xs) ∧ R (Itt K a) H))
instance {R : It → Hp → Prop} : Step (uIter K tl σ H R) (tl σ H fun x H1 => ItOf K x H1 R) := ⟨fun h => h⟩
instance {ta : TA} {R : It → Hp → Prop} : Step (iRng1 ta σ H R) (ta σ H fun vs H1 => ∃ v, vs = [v] ∧ ∃ j, v = .int j ∧ (-(2 ^ 62) ≤ j ∧ j < 2 ^ 62) ∧ R (Itr 0 j.toNat) H1) := ⟨fun h => by
  have e : (fun (vs : List V) (H1 : Hp) => ∃ v, vs = [v] ∧ ∃ j, v = .int j ∧ (-(2 ^ 62) ≤ j ∧ j < 2 ^ 62) ∧ R (Itr 0 j.toNat) H1) = (fun vs H1 => ∃ j : Int, vs = [.int j] ∧ -(2 ^ 62) ≤ j ∧ j < 2 ^ 62 ∧ R (Itr 0 j.toNat) H1) := by
    funext vs H1
    exact propext ⟨fun ⟨v, e, j, e2, ⟨a, b⟩, r⟩ => ⟨j, by rw [e, e2], a, b, r⟩, fun ⟨j, e, a, b, r⟩ => ⟨_, e, j, rfl, ⟨a, b⟩, r⟩⟩
  show ta σ H _
  rw [← e]
  exact h⟩
instance {ta : TA} {R : It → Hp → Prop} : Step (iRng2 ta σ H R) (ta σ H fun vs H1 => ∃ v w, vs = [v, w] ∧ ∃ i, v = .int i ∧ ∃ j, w = .int j ∧ (-(2 ^ 62) ≤ i ∧ i < 2 ^ 62 ∧ -(2 ^ 62) ≤ j ∧ j < 2 ^ 62) ∧ R (Itr i (j - i).toNat) H1) := ⟨fun h => by
  have e : (fun (vs : List V) (H1 : Hp) => ∃ v w, vs = [v, w] ∧ ∃ i, v = .int i ∧ ∃ j, w = .int j ∧ (-(2 ^ 62) ≤ i ∧ i < 2 ^ 62 ∧ -(2 ^ 62) ≤ j ∧ j < 2 ^ 62) ∧ R (Itr i (j - i).toNat) H1) =
      (fun vs H1 => ∃ i j : Int, vs = [.int i, .int j] ∧ (-(2 ^ 62) ≤ i ∧ i < 2 ^ 62 ∧ -(2 ^ 62) ≤ j ∧ j < 2 ^ 62) ∧ R (Itr i (j - i).toNat) H1) := by
    funext vs H1
    exact propext ⟨fun ⟨v, w, e, i, e2, j, e3, b, r⟩ => ⟨i, j, by rw [e, e2, e3], b, r⟩, fun ⟨i, j, e, b, r⟩ => ⟨_, _, e, i, rfl, j, rfl, b, r⟩⟩
  show ta σ H _
  rw [← e]
  exact h⟩
/-- zip -/
def ZipOf (K : PySem.W.Frag) (x y : V) (H : Hp) (R : It → Hp → Prop) : Prop := ∃ a b xs ys, x = .ref a ∧ y = .ref b ∧ ((SqL K H a xs ∧ SqL K H b ys ∧ R (Itz K a b) H) ∨ (SqT K H a xs ∧ SqT K H b ys ∧ R (ItzT K a b) H))
instance {ta : TA} {R : It → Hp → Prop} : Step (iZipA K ta σ H R) (ta σ H fun vs H1 => ∃ v w, vs = [v, w] ∧ ZipOf K v w H1 R) := ⟨fun h => by
  have e : (fun (vs : List V) (H1 : Hp) => ∃ v w, vs = [v, w] ∧ ZipOf K v w H1 R) = (fun vs H1 => ∃ a b xs ys, vs = [.ref a, .ref b] ∧ ((SqL K H1 a xs ∧ SqL K H1 b ys ∧ R (Itz K a b) H1) ∨ (SqT K H1 a xs ∧ SqT K H1 b ys ∧ R (ItzT K a b) H1))) := by
    funext vs H1
    exact propext ⟨fun ⟨v, w, e, a, b, xs, ys, e1, e2, r⟩ => ⟨a, b, xs, ys, by rw [e, e1, e2], r⟩, fun ⟨a, b, xs, ys, e, r⟩ => ⟨_, _, e, a, b, xs, ys, rfl, rfl, r⟩⟩
  show ta σ H _
  rw [← e]
  exact h⟩
/-- a for over a list that stays -/
theorem for_lst {a : Addr} {xs : List V} (Pv : Nat → L2.St → Hp → Prop) (ha : H a = some (.lst xs)) (h0 : Pv 0 σ H) (hl : ∀ i σ H, i ≤ xs.length → Pv i σ H → H a = some (.lst xs))
    (hs : ∀ i x σ H, xs[i]? = some x → Pv i σ H → g x σ H fun σ2 H2 => tb ⟨Pv (i + 1), rt, nx, Pv (i + 1)⟩ σ2 H2) (hd : ∀ σ H, Pv xs.length σ H → nx σ H) : ItOf K (.ref a) H (forG g tb ⟨nx, rt, bk, ct⟩ σ) :=
  ⟨a, rfl, .inl ⟨⟨xs, .of ha⟩, for_list Pv h0 (fun i σ H hi p => .of (hl i σ H hi p)) hs hd⟩⟩
theorem for_tpl {a : Addr} {xs : List V} (Pv : Nat → L2.St → Hp → Prop) (ha : H a = some (.tup xs)) (h0 : Pv 0 σ H) (hl : ∀ i σ H, i ≤ xs.length → Pv i σ H → H a = some (.tup xs))
    (hs : ∀ i x σ H, xs[i]? = some x → Pv i σ H → g x σ H fun σ2 H2 => tb ⟨Pv (i + 1), rt, nx, Pv (i + 1)⟩ σ2 H2) (hd : ∀ σ H, Pv xs.length σ H → nx σ H) : ItOf K (.ref a) H (forG g tb ⟨nx, rt, bk, ct⟩ σ) :=
  ⟨a, rfl, .inr ⟨⟨xs, .of ha⟩, for_tup Pv h0 (fun i σ H hi p => .of (hl i σ H hi p)) hs hd⟩⟩
theorem for_rng {lo : Int} {n : Nat} (Pv : Nat → L2.St → Hp → Prop) (h0 : Pv 0 σ H)
    (hs : ∀ (i : Nat) σ H, i < n → Pv i σ H → g (.int (lo + i)) σ H fun σ2 H2 => tb ⟨Pv (i + 1), rt, nx, Pv (i + 1)⟩ σ2 H2) (hd : ∀ σ H, Pv n σ H → nx σ H) : forG g tb ⟨nx, rt, bk, ct⟩ σ (Itr lo n) H :=
  for_range Pv h0 hs hd
/-- a comprehension over a list, a tuple, a range; te may change the heap; D is the list that is made -/
theorem lc_lst {a : Addr} {xs : List V} (Pv : Addr → Nat → Hp → Prop) (ha : H a = some (.lst xs)) (h0 : ∀ D, H D = none → Pv D 0 (upd H D (.lst []))) (hl : ∀ D i H', H D = none → i ≤ xs.length → Pv D i H' → H' a = some (.lst xs))
    (hs : ∀ D i x H', H D = none → xs[i]? = some x → Pv D i H' → g x (wipe σ vs) H' fun σ2 H2 => wipe σ2 vs = wipe σ vs ∧ tt σ2 H2 fun b H3 =>
      if b = true then te σ2 H3 fun y H4 => ∃ acc, H4 D = some (.lst acc) ∧ acc.length < sizeLine ∧ Pv D (i + 1) (upd H4 D (.lst (acc ++ [y]))) else Pv D (i + 1) H3)
    (hd : ∀ D H', H D = none → Pv D xs.length H' → Q (.ref D) H') : ItOf K (.ref a) H (lcG g tt te vs σ Q) :=
  ⟨a, rfl, .inl ⟨⟨xs, .of ha⟩, fun D hD => lc_list (Pv D) (h0 D hD) (fun i H' hi p => .of (hl D i H' hD hi p)) (fun i x H' e p => hs D i x H' hD e p) fun H' p => hd D H' hD p⟩⟩
theorem lc_tpl {a : Addr} {xs : List V} (Pv : Addr → Nat → Hp → Prop) (ha : H a = some (.tup xs)) (h0 : ∀ D, H D = none → Pv D 0 (upd H D (.lst []))) (hl : ∀ D i H', H D = none → i ≤ xs.length → Pv D i H' → H' a = some (.tup xs))
    (hs : ∀ D i x H', H D = none → xs[i]? = some x → Pv D i H' → g x (wipe σ vs) H' fun σ2 H2 => wipe σ2 vs = wipe σ vs ∧ tt σ2 H2 fun b H3 =>
      if b = true then te σ2 H3 fun y H4 => ∃ acc, H4 D = some (.lst acc) ∧ acc.length < sizeLine ∧ Pv D (i + 1) (upd H4 D (.lst (acc ++ [y]))) else Pv D (i + 1) H3)
    (hd : ∀ D H', H D = none → Pv D xs.length H' → Q (.ref D) H') : ItOf K (.ref a) H (lcG g tt te vs σ Q) :=
  ⟨a, rfl, .inr ⟨⟨xs, .of ha⟩, fun D hD => lc_tup (Pv D) (h0 D hD) (fun i H' hi p => .of (hl D i H' hD hi p)) (fun i x H' e p => hs D i x H' hD e p) fun H' p => hd D H' hD p⟩⟩
theorem lc_rng {lo : Int} {n : Nat} (Pv : Addr → Nat → Hp → Prop) (h0 : ∀ D, H D = none → Pv D 0 (upd H D (.lst [])))
    (hs : ∀ D (i : Nat) H', H D = none → i < n → Pv D i H' → g (.int (lo + i)) (wipe σ vs) H' fun σ2 H2 => wipe σ2 vs = wipe σ vs ∧ tt σ2 H2 fun b H3 =>
      if b = true then te σ2 H3 fun y H4 => ∃ acc, H4 D = some (.lst acc) ∧ acc.length < sizeLine ∧ Pv D (i + 1) (upd H4 D (.lst (acc ++ [y]))) else Pv D (i + 1) H3)
    (hd : ∀ D H', H D = none → Pv D n H' → Q (.ref D) H') : lcG g tt te vs σ Q (Itr lo n) H :=
  fun D hD => lc_range (Pv D) (h0 D hD) (fun i H' hi p => hs D i H' hD hi p) fun H' p => hd D H' hD p
/-- .. each item by a function of its place, nothing changed: ys is what comes -/
def Pure (te : TE) (σ : L2.St) (H : Hp) (y : V) : Prop := ∀ Q : VK, (∀ H2, Same H H2 → Q y H2) → te σ H Q
theorem take_snoc {α : Type} {ys : List α} {i : Nat} {y : α} (h : ys[i]? = some y) : ys.take i ++ [y] = ys.take (i + 1) := by
  rw [List.take_add_one, h]
  rfl
section
variable {j : Nat} {xs ys : List V} {a : Addr}
theorem pure_step (hl : ys.length < 100000) (hw : ∀ x, wipe ((wipe σ vs).set j (some x)) vs = wipe σ vs) {D : Addr} {i : Nat} {x y : V} {H' : Hp} (hD : H D = none) (hy : ys[i]? = some y) (p : H' D = some (.lst (ys.take i)) ∧ Same H H')
    (hp : Pure te ((wipe σ vs).set j (some x)) H' y) : gName j x (wipe σ vs) H' fun σ2 H2 => wipe σ2 vs = wipe σ vs ∧ tYes σ2 H2 fun b H3 =>
      if b = true then te σ2 H3 fun y H4 => ∃ acc, H4 D = some (.lst acc) ∧ acc.length < sizeLine ∧ (upd H4 D (.lst (acc ++ [y]))) D = some (.lst (ys.take (i + 1))) ∧ Same H (upd H4 D (.lst (acc ++ [y]))) else H3 D = some (.lst (ys.take (i + 1))) ∧ Same H H3 := by
  refine ⟨hw x, ?_⟩
  refine Step.h (n := if true = true then _ else _) ?_
  rw [if_pos rfl]
  refine hp _ fun H2 e => ⟨_, e _ _ p.1, ?_, ?_, ?_⟩
  · refine small_lt (Nat.lt_of_le_of_lt ?_ hl)
    rw [List.length_take]
    exact Nat.min_le_right _ _
  · rw [upd_same, take_snoc hy]
  · exact Same.mut (L2.Same.trans p.2 e) hD
theorem lc_seqL (ys : List V) (ha : H a = some (.lst xs)) (hy : ys.length = xs.length) (hl : ys.length < 100000) (hw : ∀ x, wipe ((wipe σ vs).set j (some x)) vs = wipe σ vs)
    (hs : ∀ (i : Nat) x y H', xs[i]? = some x → ys[i]? = some y → Same H H' → Pure te ((wipe σ vs).set j (some x)) H' y) (hd : ∀ D H', H D = none → Same H H' → H' D = some (.lst ys) → Q (.ref D) H') : ItOf K (.ref a) H (lcG (gName j) tYes te vs σ Q) := by
  refine lc_lst (fun D i H' => H' D = some (.lst (ys.take i)) ∧ Same H H') ha (fun D hD => ⟨upd_same, Same.new (.refl _) hD⟩) (fun D i H' _ _ p => p.2 _ _ ha) (fun D i x H' hD e p => ?_) fun D H' hD p => ?_
  · have hi : i < ys.length := by
      rw [hy]
      exact (List.getElem?_eq_some_iff.mp e).1
    exact pure_step hl hw hD (List.getElem?_eq_getElem hi) p (hs i x _ H' e (List.getElem?_eq_getElem hi) p.2)
  · refine hd D H' hD p.2 ?_
    rw [← hy, List.take_length] at p
    exact p.1
theorem lc_seqT (ys : List V) (ha : H a = some (.tup xs)) (hy : ys.length = xs.length) (hl : ys.length < 100000) (hw : ∀ x, wipe ((wipe σ vs).set j (some x)) vs = wipe σ vs)
    (hs : ∀ (i : Nat) x y H', xs[i]? = some x → ys[i]? = some y → Same H H' → Pure te ((wipe σ vs).set j (some x)) H' y) (hd : ∀ D H', H D = none → Same H H' → H' D = some (.lst ys) → Q (.ref D) H') : ItOf K (.ref a) H (lcG (gName j) tYes te vs σ Q) := by
  refine lc_tpl (fun D i H' => H' D = some (.lst (ys.take i)) ∧ Same H H') ha (fun D hD => ⟨upd_same, Same.new (.refl _) hD⟩) (fun D i H' _ _ p => p.2 _ _ ha) (fun D i x H' hD e p => ?_) fun D H' hD p => ?_
  · have hi : i < ys.length := by
      rw [hy]
      exact (List.getElem?_eq_some_iff.mp e).1
    exact pure_step hl hw hD (List.getElem?_eq_getElem hi) p (hs i x _ H' e (List.getElem?_eq_getElem hi) p.2)
  · refine hd D H' hD p.2 ?_
    rw [← hy, List.take_length] at p
    exact p.1
theorem lc_seqR {lo : Int} {n : Nat} (ys : List V) (hy : ys.length = n) (hl : ys.length < 100000) (hw : ∀ x, wipe ((wipe σ vs).set j (some x)) vs = wipe σ vs)
    (hs : ∀ (i : Nat) y H', i < n → ys[i]? = some y → Same H H' → Pure te ((wipe σ vs).set j (some (.int (lo + i)))) H' y) (hd : ∀ D H', H D = none → Same H H' → H' D = some (.lst ys) → Q (.ref D) H') : lcG (gName j) tYes te vs σ Q (Itr lo n) H := by
  refine lc_rng (fun D i H' => H' D = some (.lst (ys.take i)) ∧ Same H H') (fun D hD => ⟨upd_same, Same.new (.refl _) hD⟩) (fun D i H' hD hi p => ?_) fun D H' hD p => ?_
  · have hi' : i < ys.length := by rw [hy]; exact hi
    exact pure_step hl hw hD (List.getElem?_eq_getElem hi') p (hs i _ H' hi (List.getElem?_eq_getElem hi') p.2)
  · refine hd D H' hD p.2 ?_
    rw [← hy, List.take_length] at p
    exact p.1
end
/-- .. with a test: which items stay, and what comes of each -/
def PureT (tt : TT) (σ : L2.St) (H : Hp) (b : Bool) : Prop := ∀ Q : Bool → Hp → Prop, (∀ H2, Same H H2 → Q b H2) → tt σ H Q
theorem filterMap_snoc {α β : Type} {xs : List α} {f : α → Option β} {i : Nat} {x : α} (h : xs[i]? = some x) : (xs.take (i + 1)).filterMap f = (xs.take i).filterMap f ++ (f x).toList := by
  rw [← take_snoc h, List.filterMap_append]
  cases e : f x <;> simp [List.filterMap, e]
theorem filt_step {f : V → Option V} {j : Nat} {xs : List V} (hl : xs.length < 100000) (hw : ∀ x, wipe ((wipe σ vs).set j (some x)) vs = wipe σ vs) {D : Addr} {i : Nat} {x : V} {H' : Hp} (hD : H D = none) (e : xs[i]? = some x)
    (p : H' D = some (.lst ((xs.take i).filterMap f)) ∧ Same H H') (ht : PureT tt ((wipe σ vs).set j (some x)) H' (f x).isSome) (hp : ∀ y H2, f x = some y → Same H' H2 → Pure te ((wipe σ vs).set j (some x)) H2 y) :
    gName j x (wipe σ vs) H' fun σ2 H2 => wipe σ2 vs = wipe σ vs ∧ tt σ2 H2 fun b H3 =>
      if b = true then te σ2 H3 fun y H4 => ∃ acc, H4 D = some (.lst acc) ∧ acc.length < sizeLine ∧ (upd H4 D (.lst (acc ++ [y]))) D = some (.lst ((xs.take (i + 1)).filterMap f)) ∧ Same H (upd H4 D (.lst (acc ++ [y])))
      else H3 D = some (.lst ((xs.take (i + 1)).filterMap f)) ∧ Same H H3 := by
  refine ⟨hw x, ht _ fun H2 e2 => ?_⟩
  cases ex : f x with
  | none =>
    refine iteF ⟨?_, L2.Same.trans p.2 e2⟩
    rw [filterMap_snoc e, ex]
    rw [show ((xs.take i).filterMap f ++ (none : Option V).toList) = (xs.take i).filterMap f by simp]
    exact e2 _ _ p.1
  | some y =>
    refine iteT (hp y H2 ex e2 _ fun H3 e3 => ⟨_, e3 _ _ (e2 _ _ p.1), ?_, ?_, ?_⟩)
    · refine small_lt (Nat.lt_of_le_of_lt (Nat.le_trans (List.length_filterMap_le _ _) ?_) hl)
      rw [List.length_take]
      exact Nat.min_le_right _ _
    · rw [upd_same, filterMap_snoc e, ex]
      rfl
    · exact Same.mut (L2.Same.trans p.2 (L2.Same.trans e2 e3)) hD
theorem lc_filtL {j : Nat} {xs : List V} {a : Addr} (f : V → Option V) (ha : H a = some (.lst xs)) (hl : xs.length < 100000) (hw : ∀ x, wipe ((wipe σ vs).set j (some x)) vs = wipe σ vs)
    (ht : ∀ x H', x ∈ xs → Same H H' → PureT tt ((wipe σ vs).set j (some x)) H' (f x).isSome) (hp : ∀ x y H', x ∈ xs → f x = some y → Same H H' → Pure te ((wipe σ vs).set j (some x)) H' y)
    (hd : ∀ D H', H D = none → Same H H' → H' D = some (.lst (xs.filterMap f)) → Q (.ref D) H') : ItOf K (.ref a) H (lcG (gName j) tt te vs σ Q) := by
  refine lc_lst (fun D i H' => H' D = some (.lst ((xs.take i).filterMap f)) ∧ Same H H') ha (fun D hD => ⟨by rw [upd_same]; rfl, Same.new (.refl _) hD⟩) (fun D i H' _ _ p => p.2 _ _ ha) (fun D i x H' hD e p => ?_) fun D H' hD p => ?_
  · have hm := List.mem_of_getElem? e
    exact filt_step hl hw hD e p (ht x H' hm p.2) fun y H2 ey e2 => hp x y H2 hm ey (L2.Same.trans p.2 e2)
  · rw [List.take_length] at p
    exact hd D H' hD p.2 p.1
theorem lc_filtR {j : Nat} {n : Nat} {lo : Int} (f : V → Option V) (hl : n < 100000) (hw : ∀ x, wipe ((wipe σ vs).set j (some x)) vs = wipe σ vs)
    (ht : ∀ (i : Nat) H', i < n → Same H H' → PureT tt ((wipe σ vs).set j (some (.int (lo + i)))) H' (f (.int (lo + i))).isSome) (hp : ∀ (i : Nat) y H', i < n → f (.int (lo + i)) = some y → Same H H' → Pure te ((wipe σ vs).set j (some (.int (lo + i)))) H' y)
    (hd : ∀ D H', H D = none → Same H H' → H' D = some (.lst (((List.range n).map fun (i : Nat) => V.int (lo + i)).filterMap f)) → Q (.ref D) H') : lcG (gName j) tt te vs σ Q (Itr lo n) H := by
  have hlen : ((List.range n).map fun (i : Nat) => V.int (lo + i)).length = n := by simp
  refine lc_rng (fun D i H' => H' D = some (.lst (((((List.range n).map fun (i : Nat) => V.int (lo + i))).take i).filterMap f)) ∧ Same H H') (fun D hD => ⟨by rw [upd_same]; rfl, Same.new (.refl _) hD⟩) (fun D i H' hD hi p => ?_) fun D H' hD p => ?_
  · have e : ((List.range n).map fun (i : Nat) => V.int (lo + i))[i]? = some (.int (lo + i)) := by simp [hi]
    exact filt_step (by rw [hlen]; exact hl) hw hD e p (ht i H' hi p.2) fun y H2 ey e2 => hp i y H2 hi ey (L2.Same.trans p.2 e2)
  · refine hd D H' hD p.2 ?_
    rw [List.take_of_length_le (by rw [hlen]; exact Nat.le_refl _)] at p
    exact p.1
/-- .. each item new data -/
def PureD (te : TE) (σ : L2.St) (H : Hp) (d : PyData) : Prop := ∀ R : VK, (∀ y H2, Same H H2 → At H2 d y → R y H2) → te σ H R
theorem tupsOnly_take : ∀ {ds : List PyData} (n : Nat), tupsOnly ds = true → tupsOnly (ds.take n) = true
  | [], n, _ => by simp [tupsOnly]
  | _ :: _, 0, _ => rfl
  | d :: ds, n + 1, h => by
    have t' : tupOnly d = true ∧ tupsOnly ds = true := by simpa [tupsOnly] using h
    show (tupOnly d && tupsOnly (ds.take n)) = true
    rw [t'.1, tupsOnly_take n t'.2]
    rfl
theorem dat_step {j : Nat} {ds : List PyData} (hl : ds.length < 100000) (tup : tupsOnly ds = true) (hw : ∀ x, wipe ((wipe σ vs).set j (some x)) vs = wipe σ vs) {D : Addr} {i : Nat} {x : V} {d : PyData} {H' : Hp} (hD : H D = none) (hy : ds[i]? = some d)
    (p : ∃ ys, H' D = some (.lst ys) ∧ AtAll H' (ds.take i) ys ∧ Same H H') (hp : PureD te ((wipe σ vs).set j (some x)) H' d) : gName j x (wipe σ vs) H' fun σ2 H2 => wipe σ2 vs = wipe σ vs ∧ tYes σ2 H2 fun b H3 =>
      if b = true then te σ2 H3 fun y H4 => ∃ acc, H4 D = some (.lst acc) ∧ acc.length < sizeLine ∧ ∃ ys, (upd H4 D (.lst (acc ++ [y]))) D = some (.lst ys) ∧ AtAll (upd H4 D (.lst (acc ++ [y]))) (ds.take (i + 1)) ys ∧ Same H (upd H4 D (.lst (acc ++ [y])))
      else ∃ ys, H3 D = some (.lst ys) ∧ AtAll H3 (ds.take (i + 1)) ys ∧ Same H H3 := by
  obtain ⟨ys, p1, p2, p3⟩ := p
  refine ⟨hw x, ?_⟩
  refine Step.h (n := if true = true then _ else _) ?_
  rw [if_pos rfl]
  refine hp _ fun y H2 e at2 => ⟨_, e _ _ p1, ?_, _, upd_same, ?_, ?_⟩
  · have l := p2.length
    rw [List.length_take] at l
    exact small_lt (by omega)
  · have lt : LeT H2 (upd H2 D (.lst (ys ++ [y]))) := LeT.put1 (e _ _ p1) (.refl _)
    rw [← take_snoc hy]
    refine AtAll.append (AtAll.leT ((Same.le e).let.trans lt) (tupsOnly_take i tup) p2) (AtAll.one (At.leT lt ?_ at2))
    have q := List.mem_of_getElem? hy
    have all : ∀ {es : List PyData} {z : PyData}, tupsOnly es = true → z ∈ es → tupOnly z = true := by
      intro es
      induction es with
      | nil => intro z _ h; cases h
      | cons a r ih =>
        intro z h hz
        have t' : tupOnly a = true ∧ tupsOnly r = true := by simpa [tupsOnly] using h
        rcases List.mem_cons.mp hz with h1 | h1
        · rw [h1]; exact t'.1
        · exact ih t'.2 h1
    exact all tup q
  · exact Same.mut (L2.Same.trans p3 e) hD
theorem lc_datR {lo : Int} {n j : Nat} (ds : List PyData) (hy : ds.length = n) (hl : ds.length < 100000) (tup : tupsOnly ds = true) (hw : ∀ x, wipe ((wipe σ vs).set j (some x)) vs = wipe σ vs)
    (hs : ∀ (i : Nat) d H', i < n → ds[i]? = some d → Same H H' → PureD te ((wipe σ vs).set j (some (.int (lo + i)))) H' d) (hd : ∀ D H' ys, H D = none → Same H H' → H' D = some (.lst ys) → AtAll H' ds ys → Q (.ref D) H') : lcG (gName j) tYes te vs σ Q (Itr lo n) H := by
  refine lc_rng (fun D i H' => ∃ ys, H' D = some (.lst ys) ∧ AtAll H' (ds.take i) ys ∧ Same H H') (fun D hD => ⟨[], upd_same, by rw [List.take_zero]; rfl, Same.new (.refl _) hD⟩) (fun D i H' hD hi p => ?_) fun D H' hD p => ?_
  · have hi' : i < ds.length := by rw [hy]; exact hi
    obtain ⟨ys, p1, p2, p3⟩ := p
    exact dat_step hl tup hw hD (List.getElem?_eq_getElem hi') ⟨ys, p1, p2, p3⟩ (hs i _ H' hi (List.getElem?_eq_getElem hi') p3)
  · obtain ⟨ys, p1, p2, p3⟩ := p
    rw [← hy, List.take_length] at p2
    exact hd D H' ys hD p3 p1 p2
/-- a comprehension over zip of two tuples, two lists; the pair is a new tuple each time -/
theorem lc_zipR {It0 : It} {xs zs : List V} (Sq : Hp → Prop) (hgo : ∀ (i : Nat) H' x z, Sq H' → xs[i]? = some x → zs[i]? = some z → It0.go i H') (hyld : ∀ (i : Nat) H' x z v H2, Sq H' → xs[i]? = some x → zs[i]? = some z → It0.yld i H' v H2 → ∃ T, v = .ref T ∧ H' T = none ∧ H2 = upd H' T (.tup [x, z]))
    (hstop : ∀ (i : Nat) H', Sq H' → xs.length ≤ i → It0.stop i H') (hsq : ∀ H', Same H H' → Sq H') {j1 j2 : Nat} (hlen : xs.length = zs.length) (ys : List V) (hy : ys.length = xs.length) (hl : ys.length < 100000)
    (hw : ∀ x z, wipe (((wipe σ vs).set j1 (some x)).set j2 (some z)) vs = wipe σ vs)
    (hs : ∀ (i : Nat) x z y H', xs[i]? = some x → zs[i]? = some z → ys[i]? = some y → Same H H' → Pure te (((wipe σ vs).set j1 (some x)).set j2 (some z)) H' y) (hd : ∀ D H', H D = none → Same H H' → H' D = some (.lst ys) → Q (.ref D) H') :
    lcG (gTup K 2 (gCons (gName j1) (gCons (gName j2) gNil))) tYes te vs σ Q It0 H := by
  intro D hD
  refine ⟨fun i m H' => m = xs.length - i ∧ i ≤ xs.length ∧ H' D = some (.lst (ys.take i)) ∧ Same H H', ⟨_, rfl, Nat.zero_le _, upd_same, Same.new (.refl _) hD⟩, ?_⟩
  rintro i m H' ⟨rfl, hi, p1, p2⟩
  by_cases hlt : i < xs.length
  · have ex : xs[i]? = some xs[i] := List.getElem?_eq_getElem hlt
    have ez : zs[i]? = some (zs[i]'(hlen ▸ hlt)) := List.getElem?_eq_getElem _
    have ey : ys[i]? = some (ys[i]'(hy ▸ hlt)) := List.getElem?_eq_getElem _
    refine .inr ⟨hgo i H' _ _ (hsq _ p2) ex ez, fun H3 => H3 D = some (.lst (ys.take (i + 1))) ∧ Same H H3, fun H3 q => ⟨xs.length - (i + 1), by omega, rfl, hlt, q.1, q.2⟩, fun v H2 hv => ?_⟩
    obtain ⟨T, rfl, hT, rfl⟩ := hyld i H' _ _ v H2 (hsq _ p2) ex ez hv
    refine ⟨T, _, rfl, .of upd_same, rfl, _, _, rfl, _, _, rfl, rfl, hw _ _, ?_⟩
    refine Step.h (n := if true = true then _ else _) ?_
    rw [if_pos rfl]
    refine hs i _ _ _ (upd H' T (.tup [xs[i], zs[i]'(hlen ▸ hlt)])) ex ez ey (Same.new p2 hT) _ fun H3 e3 => ?_
    have hDT : D ≠ T := ne_of_none p1 hT
    have pD : H3 D = some (.lst (ys.take i)) := e3 _ _ (by rw [upd_ne hDT]; exact p1)
    refine ⟨_, pD, ?_, ?_, ?_⟩
    · refine small_lt (Nat.lt_of_le_of_lt ?_ hl)
      rw [List.length_take]
      exact Nat.min_le_right _ _
    · rw [upd_same, take_snoc ey]
    · exact Same.mut (L2.Same.trans (Same.new p2 hT) e3) hD
  · have e : i = xs.length := by omega
    subst e
    rw [← hy, List.take_length] at p1
    exact .inl ⟨hstop _ H' (hsq _ p2) (Nat.le_refl _), hd D H' hD p2 p1⟩
theorem sqT_inj {K : PySem.W.Frag} {H : Hp} {a : Addr} {i : Nat} {xs : List V} {x : V} (f : ∀ xs, SqT K H a xs → xs[i]? = some x) (h : H a = some (.tup xs)) : xs[i]? = some x := f xs (.of h)
theorem lc_zipT {a b : Addr} {xs zs : List V} {j1 j2 : Nat} (ys : List V) (ha : H a = some (.tup xs)) (hb : H b = some (.tup zs)) (hlen : xs.length = zs.length) (hy : ys.length = xs.length) (hl : ys.length < 100000)
    (hw : ∀ x z, wipe (((wipe σ vs).set j1 (some x)).set j2 (some z)) vs = wipe σ vs)
    (hs : ∀ (i : Nat) x z y H', xs[i]? = some x → zs[i]? = some z → ys[i]? = some y → Same H H' → Pure te (((wipe σ vs).set j1 (some x)).set j2 (some z)) H' y) (hd : ∀ D H', H D = none → Same H H' → H' D = some (.lst ys) → Q (.ref D) H') :
    ZipOf K (.ref a) (.ref b) H (lcG (gTup K 2 (gCons (gName j1) (gCons (gName j2) gNil))) tYes te vs σ Q) := by
  refine ⟨a, b, xs, zs, rfl, rfl, .inr ⟨.of ha, .of hb, lc_zipR (It0 := ItzT K a b) (xs := xs) (zs := zs) (fun H' => H' a = some (.tup xs) ∧ H' b = some (.tup zs)) (fun i H' x z h e1 e2 => ⟨xs, zs, x, z, .of h.1, .of h.2, e1, e2⟩) (fun i H' x z v H2 h e1 e2 hv => ?_)
    (fun i H' h hi => ⟨xs, zs, .of h.1, .of h.2, .inl hi⟩) (fun H' e => ⟨e _ _ ha, e _ _ hb⟩) hlen ys hy hl hw hs hd⟩⟩
  obtain ⟨T, x', z', rfl, hT, rfl, f1, f2⟩ := hv
  have q1 : x' = x := Option.some.inj ((f1 _ (.of h.1)).symm.trans e1)
  have q2 : z' = z := Option.some.inj ((f2 _ (.of h.2)).symm.trans e2)
  subst q1 q2
  exact ⟨T, rfl, hT, rfl⟩
theorem lc_zipL {a b : Addr} {xs zs : List V} {j1 j2 : Nat} (ys : List V) (ha : H a = some (.lst xs)) (hb : H b = some (.lst zs)) (hlen : xs.length = zs.length) (hy : ys.length = xs.length) (hl : ys.length < 100000)
    (hw : ∀ x z, wipe (((wipe σ vs).set j1 (some x)).set j2 (some z)) vs = wipe σ vs)
    (hs : ∀ (i : Nat) x z y H', xs[i]? = some x → zs[i]? = some z → ys[i]? = some y → Same H H' → Pure te (((wipe σ vs).set j1 (some x)).set j2 (some z)) H' y) (hd : ∀ D H', H D = none → Same H H' → H' D = some (.lst ys) → Q (.ref D) H') :
    ZipOf K (.ref a) (.ref b) H (lcG (gTup K 2 (gCons (gName j1) (gCons (gName j2) gNil))) tYes te vs σ Q) := by
  refine ⟨a, b, xs, zs, rfl, rfl, .inl ⟨.of ha, .of hb, lc_zipR (It0 := Itz K a b) (xs := xs) (zs := zs) (fun H' => H' a = some (.lst xs) ∧ H' b = some (.lst zs)) (fun i H' x z h e1 e2 => ⟨xs, zs, x, z, .of h.1, .of h.2, e1, e2⟩) (fun i H' x z v H2 h e1 e2 hv => ?_)
    (fun i H' h hi => ⟨xs, zs, .of h.1, .of h.2, .inl hi⟩) (fun H' e => ⟨e _ _ ha, e _ _ hb⟩) hlen ys hy hl hw hs hd⟩⟩
  obtain ⟨T, x', z', rfl, hT, rfl, f1, f2⟩ := hv
  have q1 : x' = x := Option.some.inj ((f1 _ (.of h.1)).symm.trans e1)
  have q2 : z' = z := Option.some.inj ((f2 _ (.of h.2)).symm.trans e2)
  subst q1 q2
  exact ⟨T, rfl, hT, rfl⟩
/-- while, by a word with its measure -/
theorem while_go {c : TT} (W : Nat → L2.St → Hp → Prop) (m : Nat) (h0 : W m σ H) (turn : ∀ m σ H, W m σ H → c σ H fun b H1 => if b = true then ∃ N : L2.St → Hp → Prop, (∀ σ' H', N σ' H' → ∃ m', m' < m ∧ W m' σ' H') ∧ tb ⟨N, rt, nx, N⟩ σ H1 else nx σ H1) : tWhile c tb ⟨nx, rt, bk, ct⟩ σ H :=
  ⟨W, ⟨m, h0⟩, turn⟩
theorem while_turn {W : Nat → L2.St → Hp → Prop} {m : Nat} (h : tb ⟨fun σ' H' => ∃ m', m' < m ∧ W m' σ' H', rt, nx, fun σ' H' => ∃ m', m' < m ∧ W m' σ' H'⟩ σ H) :
    ∃ N : L2.St → Hp → Prop, (∀ σ' H', N σ' H' → ∃ m', m' < m ∧ W m' σ' H') ∧ tb ⟨N, rt, nx, N⟩ σ H := ⟨_, fun _ _ n => n, h⟩
end

/-! ### more steps -/
section
variable {σ : L2.St} {H : Hp} {Q : VK} {K : PySem.W.Frag} {a b l p : Addr} {v x y : V}
/-- what comes of a thing that is made, of a call that changes nothing, of one that draws -/
def NewQ (H : Hp) (R : Addr → Prop) : Prop := ∀ p, H p = none → R p
def SameQ (H : Hp) (o : HO) (R : Addr → Hp → Prop) : Prop := ∀ a H', Same H H' → H' a = some o → R a H'
def SmQ (H : Hp) (R : Hp → Prop) : Prop := ∀ H', Same H H' → R H'
def GsQ (s : Addr) (H : Hp) (R : Hp → Prop) : Prop := ∀ H', Gs s H H' → R H'
/-- what comes of a draw below n -/
def NextQ (s : Addr) (n : Int) (H : Hp) (R : Int → Hp → Prop) : Prop := ∀ y r : Int, 0 ≤ r → r < n → R r (upd H s (.lst [.int y]))
theorem in_next {n : Int} {R : Int → Hp → Prop} (h : ∀ y r : Int, 0 ≤ r → r < n → R r (upd H l (.lst [.int y]))) : NextQ l n H R := h
/-- what comes of a number that is drawn -/
def NumQ (s : Addr) (H : Hp) (R : Int → Hp → Prop) : Prop := ∀ (z : Int) H', -1000000000 ≤ z → z ≤ 1000000000 → Gs s H H' → R z H'
theorem in_num {R : Int → Hp → Prop} (h : ∀ (z : Int) H', -1000000000 ≤ z → z ≤ 1000000000 → Gs l H H' → R z H') : NumQ l H R := h
/-- what comes of a thing that is drawn -/
def DrwQ {α : Type} (s : Addr) (H : Hp) (F : α → V → Hp → Prop) (R : α → V → Hp → Prop) : Prop := ∀ a v H', Gs s H H' → F a v H' → R a v H'
theorem in_drw {α : Type} {F R : α → V → Hp → Prop} (h : ∀ a v H', Gs l H H' → F a v H' → R a v H') : DrwQ l H F R := h
/-- what comes of a thing that is made -/
def MadQ {α : Type} (H : Hp) (F : α → V → Hp → Prop) (R : α → V → Hp → Prop) : Prop := ∀ a v H', Same H H' → F a v H' → R a v H'
theorem in_mad {α : Type} {F R : α → V → Hp → Prop} (h : ∀ a v H', Same H H' → F a v H' → R a v H') : MadQ H F R := h
/-- the script: known to its object, or the top's own -/
def Scr (K : PySem.W.Frag) (H : Hp) (a : Addr) (ns : List Int) : Prop := (∃ o, H a = some (.frz o (.lst (ns.map V.int)))) ∨ ∀ H', SqL K H' a (ns.map V.int)
theorem Scr.sq {ns : List Int} (h : Scr K H a ns) : SqL K H a (ns.map V.int) := by
  rcases h with ⟨o, h⟩ | h
  · exact .inl (.inr ⟨o, h⟩)
  · exact h H
theorem Scr.le1 {H' : Hp} {ns : List Int} (h : Scr K H a ns) (e : Le H H') : Scr K H' a ns := by
  rcases h with ⟨o, h⟩ | h
  · exact .inl ⟨o, e _ _ h (fun x z => by cases z)⟩
  · exact .inr h
theorem Scr.of {ns : List Int} (o : Only H) (h : SqL K H a (ns.map V.int)) : Scr K H a ns := by
  rcases h with (h | h) | h
  · rcases o a with z | ⟨ob, xs, z⟩
    · rw [h] at z; cases z
    · rw [h] at z; cases z
  · exact .inl h
  · exact .inr fun _ => .inr h
def IntQ (R : Int → Prop) : Prop := ∀ z : Int, R z
theorem in_int {R : Int → Prop} (h : ∀ z : Int, R z) : IntQ R := h
def MixQ (R : Int → Prop) : Prop := ∀ z : Int, 0 ≤ z → z < 2147483647 → R z
theorem in_mix {R : Int → Prop} (h : ∀ z : Int, 0 ≤ z → z < 2147483647 → R z) : MixQ R := h
theorem ex_scr {ns : List Int} {S : List Int → Prop} (h : Scr K H a ns) (s : S ns) : ∃ ns, Scr K H a ns ∧ S ns := ⟨ns, h, s⟩
theorem in_same {o : HO} {R : Addr → Hp → Prop} (h : ∀ a H', Same H H' → H' a = some o → R a H') : SameQ H o R := h
theorem in_new {R : Addr → Prop} (h : ∀ a, H a = none → R a) : NewQ H R := h
theorem in_sm {R : Hp → Prop} (h : ∀ H', Same H H' → R H') : SmQ H R := h
theorem in_gs {R : Hp → Prop} (h : ∀ H', Gs l H H' → R H') : GsQ l H R := h
theorem ex_o {R : HO → Prop} {o : HO} (h : H a = some o) (r : R o) : ∃ o, H a = some o ∧ R o := ⟨o, h, r⟩
theorem ex_xs {R : List V → Prop} {xs : List V} (h : H a = some (.lst xs)) (r : R xs) : ∃ xs, H a = some (.lst xs) ∧ R xs := ⟨xs, h, r⟩
theorem ex_bs {R : List Bool → Prop} {xs : List Bool} (h : H a = some (.lst (xs.map V.bl))) (r : R xs) : ∃ xs : List Bool, H a = some (.lst (xs.map V.bl)) ∧ R xs := ⟨xs, h, r⟩
theorem ex_ns {R : List Int → Prop} {xs : List Int} (h : H a = some (.lst (xs.map V.int))) (r : R xs) : ∃ xs : List Int, H a = some (.lst (xs.map V.int)) ∧ R xs := ⟨xs, h, r⟩
instance : Step (rAll K [.ref a] H Q) (∃ bs : List Bool, H a = some (.lst (bs.map V.bl)) ∧ Q (.bl (bs.all id)) H) := ⟨fun ⟨bs, h, q⟩ => ⟨a, bs, rfl, .of h, q⟩⟩
instance : Step (rAny K [.ref a] H Q) (∃ bs : List Bool, H a = some (.lst (bs.map V.bl)) ∧ Q (.bl (bs.any id)) H) := ⟨fun ⟨bs, h, q⟩ => ⟨a, bs, rfl, .of h, q⟩⟩
instance : Step (rSum K [.ref a] H Q) (∃ ns : List Int, H a = some (.lst (ns.map V.int)) ∧ Q (.int ns.sum) H) := ⟨fun ⟨bs, h, q⟩ => ⟨a, bs, rfl, .of h, q⟩⟩
instance : Step (rSortedI K [.ref a] H Q) (∃ ns : List Int, H a = some (.lst (ns.map V.int)) ∧ ∀ (ns' : List Int) (p : Addr), ns'.Perm ns → ns'.Pairwise (· ≤ ·) → H p = none → Q (.ref p) (upd H p (.lst (ns'.map V.int)))) := ⟨fun ⟨bs, h, q⟩ => ⟨a, bs, rfl, .of h, q⟩⟩
/-- slices -/
def SlQ (o : HO) (lo hi : Option Int) (H : Hp) (Q : VK) : Prop := match o with
  | .tup xs => ∀ a H', Same H H' → H' a = some (.tup (cutV xs lo hi)) → Q (.ref a) H'
  | .lst xs => ∀ a, H a = none → Q (.ref a) (upd H a (.lst (cutV xs lo hi)))
  | _ => False
theorem cut_whole {xs : List V} {lo hi : Option Int} (h : HT.sIx xs.length 0 lo = 0 ∧ HT.sIx xs.length xs.length hi = xs.length) : cutV xs lo hi = xs := by
  unfold cutV
  rw [h.1, h.2, Nat.sub_zero, List.drop_zero, List.take_length]
instance {lo hi : Option Int} : Step (uSl K (.ref a) lo hi H Q) (∃ o, H a = some o ∧ SlQ o lo hi H Q) := ⟨fun ⟨o, h, q⟩ => by
  cases o <;> first | exact q.elim | skip
  · exact .inl ⟨a, _, rfl, .of h, q⟩
  · refine .inr (.inl ⟨a, _, rfl, .of h, fun w => ?_, fun w p hp => ?_⟩)
    · exact q a H (.refl _) (by rw [cut_whole w]; exact h)
    · exact q p _ (Same.new (.refl _) hp) upd_same⟩
instance {z : Str} {lo hi : Option Int} : Step (uSl K (.str z) lo hi H Q) (z.length ≤ sizeLine ∧ Q (.str (cutS z lo hi)) H) := ⟨fun h => .inr (.inr ⟨z, rfl, h.1, h.2⟩)⟩
instance {xs : List V} {lo hi : Option Int} : Step (SlQ (.tup xs) lo hi H Q) (SameQ H (.tup (cutV xs lo hi)) fun a H' => Q (.ref a) H') := ⟨fun h => h⟩
instance {xs : List V} {lo hi : Option Int} : Step (SlQ (.lst xs) lo hi H Q) (NewQ H fun a => Q (.ref a) (upd H a (.lst (cutV xs lo hi)))) := ⟨fun h => h⟩
/-- + -/
def CatQ (o u : HO) (H : Hp) (Q : VK) : Prop := match o, u with
  | .tup xs, .tup ys => xs.length + ys.length ≤ sizeLine ∧ ∀ a H', Same H H' → H' a = some (.tup (xs ++ ys)) → Q (.ref a) H'
  | .lst xs, .lst ys => xs.length + ys.length ≤ sizeLine ∧ ∀ a, H a = none → Q (.ref a) (upd H a (.lst (xs ++ ys)))
  | _, _ => False
instance : Step (uAdd K (.ref a) (.ref b) H Q) (∃ o, H a = some o ∧ ∃ u, H b = some u ∧ CatQ o u H Q) := ⟨fun ⟨o, h, u, k, q⟩ => by
  cases o <;> cases u <;> first | exact q.elim | skip
  · exact q_addL h k q.1 q.2
  · rename_i xs ys
    refine q_addT h k q.1 (fun e => ?_) (fun e1 e2 => ?_) fun _ _ p hp => q.2 p _ (Same.new (.refl _) hp) upd_same
    · exact q.2 b H (.refl _) (by rw [e]; exact k)
    · exact q.2 a H (.refl _) (by rw [e2, List.append_nil]; exact h)⟩
instance {xs ys : List V} : Step (CatQ (.tup xs) (.tup ys) H Q) (xs.length + ys.length ≤ sizeLine ∧ SameQ H (.tup (xs ++ ys)) fun a H' => Q (.ref a) H') := ⟨fun h => h⟩
instance {xs ys : List V} : Step (CatQ (.lst xs) (.lst ys) H Q) (xs.length + ys.length ≤ sizeLine ∧ NewQ H fun a => Q (.ref a) (upd H a (.lst (xs ++ ys)))) := ⟨fun h => h⟩
/-- list * n -/
instance {n : Int} : Step (uMul (.ref a) (.int n) H Q) (∃ xs, H a = some (.lst xs) ∧ (-(2 ^ 63) ≤ n ∧ n < 2 ^ 63 ∧ xs.length * n.toNat ≤ sizeLine) ∧ NewQ H fun p => Q (.ref p) (upd H p (.lst (List.replicate n.toNat xs).flatten))) := ⟨fun ⟨xs, h, k, q⟩ => ⟨a, n, xs, rfl, rfl, h, k.1, k.2.1, k.2.2, q⟩⟩
/-- list(x), tuple(x) -/
def LstQ (o : HO) (H : Hp) (Q : VK) : Prop := match o with
  | .tup xs => ∀ a, H a = none → Q (.ref a) (upd H a (.lst xs))
  | .lst xs => ∀ a, H a = none → Q (.ref a) (upd H a (.lst xs))
  | _ => False
def TupQ (o : HO) (H : Hp) (Q : VK) : Prop := match o with
  | .tup xs => ∀ a H', Same H H' → H' a = some (.tup xs) → Q (.ref a) H'
  | .lst xs => ∀ a H', Same H H' → H' a = some (.tup xs) → Q (.ref a) H'
  | _ => False
instance : Step (uLst K [.ref a] H Q) (∃ o, H a = some o ∧ LstQ o H Q) := ⟨fun ⟨o, h, q⟩ => by
  cases o <;> first | exact q.elim | skip
  · exact ⟨a, _, rfl, .inl (.of h), q⟩
  · exact ⟨a, _, rfl, .inr (.of h), q⟩⟩
instance : Step (uTup K [.ref a] H Q) (∃ o, H a = some o ∧ TupQ o H Q) := ⟨fun ⟨o, h, q⟩ => by
  cases o <;> first | exact q.elim | skip
  · exact ⟨a, _, rfl, .inl ⟨.of h, fun l hl => q l _ (Same.new (.refl _) hl) upd_same⟩⟩
  · exact ⟨a, _, rfl, .inr ⟨.of h, q a H (.refl _) h⟩⟩⟩
instance {xs : List V} : Step (LstQ (.tup xs) H Q) (NewQ H fun a => Q (.ref a) (upd H a (.lst xs))) := ⟨fun h => h⟩
instance {xs : List V} : Step (LstQ (.lst xs) H Q) (NewQ H fun a => Q (.ref a) (upd H a (.lst xs))) := ⟨fun h => h⟩
instance {xs : List V} : Step (TupQ (.tup xs) H Q) (SameQ H (.tup xs) fun a H' => Q (.ref a) H') := ⟨fun h => h⟩
instance {xs : List V} : Step (TupQ (.lst xs) H Q) (SameQ H (.tup xs) fun a H' => Q (.ref a) H') := ⟨fun h => h⟩
/-- methods of lists -/
instance : Step (rAppend (.ref l) [y] H Q) (∃ xs, H l = some (.lst xs) ∧ xs.length < sizeLine ∧ Q .non (upd H l (.lst (xs ++ [y])))) := ⟨fun ⟨xs, h, k, q⟩ => ⟨l, xs, y, rfl, rfl, h, k, q⟩⟩
instance : Step (rPop (.ref l) [] H Q) (∃ xs, H l = some (.lst xs) ∧ ∃ y, xs[xs.length - 1]? = some y ∧ Q y (upd H l (.lst xs.dropLast))) := ⟨fun ⟨xs, h, y, k, q⟩ => ⟨l, xs, y, rfl, rfl, h, k, q⟩⟩
instance : Step (rReverse (.ref l) [] H Q) (∃ xs, H l = some (.lst xs) ∧ Q .non (upd H l (.lst xs.reverse))) := ⟨fun ⟨xs, h, q⟩ => ⟨l, xs, rfl, rfl, h, q⟩⟩
instance : Step (rClear (.ref l) [] H Q) (∃ xs, H l = some (.lst xs) ∧ Q .non (upd H l (.lst []))) := ⟨fun ⟨xs, h, q⟩ => ⟨l, xs, rfl, rfl, h, q⟩⟩
instance {k : Int} {R : Hp → Prop} : Step (rSetL (.ref l) (.int k) v H R) (∃ xs, H l = some (.lst xs) ∧ ∃ j, ixN xs.length k = some j ∧ R (upd H l (.lst (xs.set j v)))) := ⟨fun ⟨xs, h, j, k, q⟩ => ⟨l, xs, _, j, rfl, rfl, h, k, q⟩⟩
theorem ex_j {o : Option Nat} {R : Nat → Prop} {j : Nat} (h : o = some j) (r : R j) : ∃ j, o = some j ∧ R j := ⟨j, h, r⟩
theorem ty_list (h : H l = some (.lst xs)) : tyV K "list" (.ref l) H := .inl ⟨rfl, _, .of h⟩
end

/-! ### ways that meet -/
theorem meet {t u : TS} {nx bk ct : L2.St → Hp → Prop} {rt : VK} {σ : L2.St} {H : Hp} (M : L2.St → Hp → Prop) (h1 : t ⟨M, rt, bk, ct⟩ σ H) (h2 : ∀ σ' H', M σ' H' → u ⟨nx, rt, bk, ct⟩ σ' H') : tCutF t u ⟨nx, rt, bk, ct⟩ σ H := ⟨M, h1, h2⟩
/-! ### items at a drawn place -/
theorem atI_range {α : Type} {xs : List α} {i : Int} (h0 : 0 ≤ i) (h1 : i < xs.length) : ∃ v, atI xs i = some v ∧ xs[i.toNat]? = some v ∧ v ∈ xs := by
  have e : i = ((i.toNat : Nat) : Int) := by omega
  have hl : i.toNat < xs.length := by omega
  have q : xs[i.toNat]? = some xs[i.toNat] := List.getElem?_eq_getElem hl
  refine ⟨xs[i.toNat], ?_, q, List.getElem_mem hl⟩
  have z := atI_nat q
  rw [← e] at z
  exact z
theorem ex_pick {xs : List V} {i : Int} {R : V → Prop} (F : V → Prop) (h0 : 0 ≤ i) (h1 : i < xs.length) (all : ∀ v ∈ xs, F v) (k : ∀ v, F v → R v) : ∃ v, atI xs i = some v ∧ R v := by
  obtain ⟨v, e, _, hm⟩ := atI_range h0 h1
  exact ⟨v, e, k v (all v hm)⟩
theorem four {r : Int} (h0 : 0 ≤ r) (h1 : r < 4) : r = 0 ∨ r = 1 ∨ r = 2 ∨ r = 3 := by omega
theorem three {r : Int} (h0 : 0 ≤ r) (h1 : r < 3) : r = 0 ∨ r = 1 ∨ r = 2 := by omega
theorem two {r : Int} (h0 : 0 ≤ r) (h1 : r < 2) : r = 0 ∨ r = 1 := by omega
/-! ### cuts -/
theorem cut_init (xs : List V) : cutV xs none (some (-1)) = xs.take (xs.length - 1) := by
  unfold cutV HT.sIx
  simp only [List.drop_zero]
  rw [if_pos (by decide), show ((-1 : Int) + (xs.length : Int)).toNat = xs.length - 1 by omega, Nat.sub_zero]
theorem cut_from (xs : List V) (k : Nat) : cutV xs (some (k : Int)) none = xs.drop k := by
  unfold cutV HT.sIx
  simp only []
  rw [if_neg (by omega), Int.toNat_natCast]
  by_cases h : k ≤ xs.length
  · rw [Nat.min_eq_left h, List.take_of_length_le (by rw [List.length_drop]; exact Nat.le_refl _)]
  · rw [Nat.min_eq_right (by omega), List.drop_eq_nil_of_le (Nat.le_refl _), List.drop_eq_nil_of_le (by omega), List.take_nil]
theorem cut_from1 (xs : List V) (k : Nat) : cutV xs (some ((k : Int) + 1)) none = xs.drop (k + 1) := cut_from xs (k + 1)
theorem cut_tail (xs : List V) : cutV xs (some 1) none = xs.drop 1 := cut_from xs 1
theorem cut_to (xs : List V) (k : Nat) : cutV xs none (some (k : Int)) = xs.take k := by
  unfold cutV HT.sIx
  simp only [List.drop_zero]
  rw [if_neg (by omega), Int.toNat_natCast, Nat.sub_zero]
  by_cases h : k ≤ xs.length
  · rw [Nat.min_eq_left h]
  · rw [Nat.min_eq_right (by omega), List.take_length, List.take_of_length_le (by omega)]
/-! ### data, piece by piece -/
theorem AtAll.nil {H : Hp} : AtAll H [] [] := rfl
theorem AtAll.cons {H : Hp} {d : PyData} {v : V} {ds : List PyData} {vs : List V} (h : At H d v) (t : AtAll H ds vs) : AtAll H (d :: ds) (v :: vs) := ⟨v, vs, rfl, h, t⟩
theorem at_tup {H : Hp} {a : Addr} {ds : List PyData} {vs : List V} (h : H a = some (.tup vs)) (r : AtAll H ds vs) : At H (.tuple ds) (.ref a) := ⟨a, _, rfl, h, r⟩
theorem at_lst {H : Hp} {a : Addr} {ds : List PyData} {vs : List V} (h : H a = some (.lst vs)) (n : ∀ x, vs ≠ [.int x]) (r : AtAll H ds vs) : At H (.list ds) (.ref a) := ⟨a, _, rfl, h, n, r⟩
end Fl

/-! words of my own, for the steps -/
-- what stands at an address
local macro_rules | `(tactic| walk_at "ne") => `(tactic| first
  | with_reducible assumption
  | (apply Ne.symm; with_reducible assumption)
  | (apply Fl.ne1; · with_reducible assumption
     · walk_at "hp")
  | (apply Fl.ne2; · with_reducible assumption
     · walk_at "hp"))
local macro_rules | `(tactic| walk_at "hp") => `(tactic| first
  | with_reducible assumption
  | with_reducible apply L2.upd_same
  | ((with_reducible apply Fl.hp_new); · with_reducible assumption
     · walk_at "hp")
  | ((with_reducible apply Fl.hp_put); · ((fail_if_success (apply Or.inl; with_reducible assumption)); exact Or.inr True.intro)
     · walk_at "ne"
     · walk_at "hp")
  | ((with_reducible apply Fl.hp_same); · with_reducible assumption
     · walk_at "hp")
  | ((with_reducible apply Fl.hp_gs); · with_reducible assumption
     · walk_at "ne"
     · walk_at "hp"))
-- heaps that grow
local macro_rules | `(tactic| walk_at "fr") => `(tactic| first
  | with_reducible assumption
  | (apply Fl.Same.free1; · with_reducible assumption
     · walk_at "sm")
  | (apply Fl.Gs.free1; · with_reducible assumption
     · walk_at "gs"
     · walk_at "ne"))
local macro_rules | `(tactic| walk_at "sm") => `(tactic| first
  | with_reducible assumption
  | with_reducible apply L2.Same.refl
  | ((with_reducible apply Fl.Same.new1); · with_reducible assumption
     · walk_at "sm")
  | ((with_reducible apply Fl.Same.mut); · walk_at "sm"
     · walk_at "fr")
  | ((with_reducible apply Fl.Same.trans1); · with_reducible assumption
     · walk_at "sm"))
local macro_rules | `(tactic| walk_at "gs") => `(tactic| first
  | with_reducible assumption
  | ((with_reducible apply Fl.Gs.refl); · walk_at "hp")
  | ((with_reducible apply Fl.Gs.put1); · walk_at "gs")
  | ((with_reducible apply Fl.Gs.new1); · with_reducible assumption
     · walk_at "gs")
  | ((with_reducible apply Fl.Gs.trans1); · with_reducible assumption
     · walk_at "gs")
  | ((with_reducible apply Fl.Gs.then1); · with_reducible assumption
     · walk_at "gs")
  | ((with_reducible apply Fl.Gs.mut1); · walk_at "fr"
     · walk_at "ne"
     · walk_at "gs"))
local macro_rules | `(tactic| walk_at "le") => `(tactic| first
  | with_reducible assumption
  | with_reducible apply Fl.Le.refl
  | ((with_reducible apply Fl.Le.new1); · with_reducible assumption
     · walk_at "le")
  | ((with_reducible apply Fl.Le.same1); · with_reducible assumption
     · walk_at "le")
  | ((with_reducible apply Fl.Le.gs1); · with_reducible assumption
     · walk_at "hp"
     · walk_at "le")
  | ((with_reducible apply Fl.Le.put1); · walk_at "hp"
     · walk_at "le"))
local macro_rules | `(tactic| walk_at "lt") => `(tactic| first
  | with_reducible assumption
  | with_reducible apply Fl.LeT.refl
  | ((with_reducible apply Fl.LeT.new1); · with_reducible assumption
     · walk_at "lt")
  | ((with_reducible apply Fl.LeT.same1); · with_reducible assumption
     · walk_at "lt")
  | ((with_reducible apply Fl.LeT.gs1); · with_reducible assumption
     · walk_at "hp"
     · walk_at "lt")
  | ((with_reducible apply Fl.LeT.put1); · walk_at "hp"
     · walk_at "lt"))
local macro_rules | `(tactic| walk_at "at") => `(tactic| first
  | with_reducible assumption
  | with_reducible apply Fl.at_int
  | with_reducible apply Fl.at_bl
  | with_reducible apply Fl.at_str
  | with_reducible apply Fl.at_non
  | ((with_reducible apply Fl.At.le1); · with_reducible assumption
     · walk_at "le"))
local macro_rules | `(tactic| walk_at "scr") => `(tactic| first
  | with_reducible assumption
  | ((with_reducible apply Fl.Scr.le1); · with_reducible assumption
     · walk_at "le"))
-- one step of a reading
local macro_rules | `(tactic| walk_at "cm") => `(tactic| first | exact Or.inr ⟨by decide, by decide⟩ | exact Or.inl ⟨by decide, by decide⟩ | (refine Or.inr ⟨?_, ?_⟩ <;> omega) | (refine Or.inl ⟨?_, ?_⟩ <;> omega) | (refine ⟨?_, ?_, ?_⟩ <;> (first | omega | (simp; done) | (apply Fl.small_of; simp; omega))))
local macro_rules | `(tactic| walk_at "side") => `(tactic| first
  | exact ⟨_, rfl⟩
  | with_reducible assumption
  | ((with_reducible apply Fl.ty_list); walk_at "hp")
  | ((with_reducible apply Fl.small_lt); first | (simp; done) | (simp; omega) | omega)
  | ((with_reducible apply Fl.small_of); first | (simp; done) | (simp; omega) | omega)
  | decide
  | omega
  | exact ⟨by decide, by decide⟩
  | (refine ⟨?_, ?_⟩ <;> omega)
  | walk_at "cm")
local macro_rules | `(tactic| walk_at "sq") => `(tactic| first
  | with_reducible assumption
  | ((with_reducible apply Fl.sq_o); · walk_at "hp"
     · rfl))
local macro_rules | `(tactic| walk_at "typ") => `(tactic| first
  | with_reducible assumption
  | ((with_reducible apply Fl.typ_at); · walk_at "at")
  | ((with_reducible apply Fl.typ_o); · walk_at "hp"
     · rfl))
local macro_rules | `(tactic| walk_at "s1") => `(tactic| first
  | with_reducible apply Fl.step
  | ((with_reducible apply Fl.r_var); · rfl)
  | ((with_reducible apply Fl.and_new); · (apply Fl.small_of; simp; done)
     intro _ _)
  | ((with_reducible apply Fl.ex_sq); · walk_at "sq")
  | ((with_reducible apply Fl.ex_v); · rfl)
  | ((with_reducible apply Fl.ex_typ); · walk_at "typ")
  | ((with_reducible apply Fl.ex_xs); · walk_at "hp")
  | ((with_reducible apply Fl.ex_bs); · walk_at "hp")
  | ((with_reducible apply Fl.ex_ns); · walk_at "hp")
  | ((with_reducible apply Fl.ex_o); · walk_at "hp")
  | ((with_reducible apply Fl.ex_at); · walk_at "at")
  | ((with_reducible apply Fl.ex_j); · rfl)
  | ((with_reducible apply And.intro); · walk_at "side")
  | ((with_reducible apply Fl.in_same); intro _ _ _ _)
  | ((with_reducible apply Fl.in_new); intro _ _)
  | ((with_reducible apply Fl.in_sm); intro _ _)
  | ((with_reducible apply Fl.in_gs); intro _ _; obtain ⟨_, _⟩ := Fl.Gs.st (by with_reducible assumption : Fl.Gs _ _ _))
  | ((with_reducible apply Fl.in_num); intro _ _ _ _ _; obtain ⟨_, _⟩ := Fl.Gs.st (by with_reducible assumption : Fl.Gs _ _ _))
  | ((with_reducible apply Fl.in_drw); intro _ _ _ _ _; obtain ⟨_, _⟩ := Fl.Gs.st (by with_reducible assumption : Fl.Gs _ _ _))
  | ((with_reducible apply Fl.in_mad); intro _ _ _ _ _)
  | ((with_reducible apply Fl.in_mix); intro _ _ _)
  | ((with_reducible apply Fl.in_int); intro _)
  | ((with_reducible apply Fl.ex_scr); · walk_at "scr")
  | ((with_reducible apply Fl.in_next); intro _ _ _ _)
  | ((with_reducible apply Fl.if_t); · rfl)
  | ((with_reducible apply Fl.if_f); · rfl))
local macro_rules | `(tactic| walk_at "s") => `(tactic| repeat walk_at "s1")
-- an if whose answer omega knows
local macro_rules | `(tactic| walk_at "yes") => `(tactic| first | refine Fl.if_dt (by first | with_reducible assumption | omega | decide) ?_ | refine Fl.if_nt (by first | with_reducible assumption | omega | decide) ?_)
local macro_rules | `(tactic| walk_at "no") => `(tactic| first | refine Fl.if_df (by first | with_reducible assumption | omega | decide) ?_ | refine Fl.if_nf (by first | with_reducible assumption | omega | decide) ?_)
-- data, piece by piece
local macro_rules | `(tactic| walk_at "at2") => `(tactic| first
  | walk_at "at"
  | ((with_reducible apply Fl.at_tup); · walk_at "hp"
     · walk_at "al")
  | ((with_reducible apply Fl.at_lst); · walk_at "hp"
     · intro z hz; simp at hz; done
     · walk_at "al"))
local macro_rules | `(tactic| walk_at "al") => `(tactic| first
  | with_reducible assumption
  | exact Fl.AtAll.nil
  | ((with_reducible apply Fl.AtAll.cons); · walk_at "at2"
     · walk_at "al")
  | ((with_reducible apply Fl.AtAll.le1); · with_reducible assumption
     · walk_at "le"))
/-! the text by places -/
namespace Fl
open PySem PySem.Spec PyProof.Rows L2
def topS (i : Nat) : Stmt := PySem.Challenge.pw_formlines_k11_whole_least.main.body.getD i (.Pass ⟨0, 0, 0, 0⟩)
end Fl
-- after:
namespace Fl
open PySem PySem.Spec PyProof.Rows L2 RZ
/-! ### what the tables' defs say -/
def isWhole (d : PyData) (lo hi : Int) : Bool := match d with
  | .int i => decide (lo ≤ i) && decide (i ≤ hi)
  | _ => false
def big : Int := 1000000000
def isNumber (d : PyData) : Bool := isWhole d (-1000000000) 1000000000
section
variable {P : Program} {w : World} {K : PySem.W.Frag} {mg : Str → Option Value} {base : Heap}
abbrev s_is_whole : Stmt := topS 15
theorem sc_is_whole : FnScope ["thing", "least", "most"] ["thing", "least", "most"] (defScope s_is_whole) := ⟨rfl, rfl, rfl, by decide +kernel, rfl, by decide +kernel, by decide +kernel⟩
def sp_is_whole : Sp3 := fun a b c H Q _ => ∃ d lo hi, At H d a ∧ b = .int lo ∧ c = .int hi ∧ Q (.bl (isWhole d lo hi)) H
theorem ok_is_whole (M : Mg mg) (D : DefAt K mg "is_whole" s_is_whole ["thing", "least", "most"]) : Has P w K mg base "is_whole" ["thing", "least", "most"] 1 (sp3 sp_is_whole) := by
  refine .mk3 D sc_is_whole fun f cdv A outer s H a b c Q E hr h => ⟨_, (pss_one (ps_ret (pe_and (pe_callB (k_isi K rfl) (by rfl) M.isinstance (by decide +kernel) (pa_cons (pv 0) (pa_cons (pe_bltn (v := .ty "int") (by rfl) M.int (by decide +kernel) rfl) pa_nil))) (pe_and (pe_not (pe_callB (k_isi K rfl) (by rfl) M.isinstance (by decide +kernel) (pa_cons (pv 0) (pa_cons (pe_bltn (v := .ty "bool") (by rfl) M.bool (by decide +kernel) rfl) pa_nil)))) (pe_one (pe_chain o_le o_le (pv 1) (pv 0) (pv 2))))))), ?_⟩
  obtain ⟨d, lo, hi, hd, rfl, rfl, q⟩ := h
  refine Fl.go_start (σ0 := [some _, some _, some _]) rfl ?_
  cases d <;> first | exact hd.elim | skip
  all_goals try (cases (show _ = _ from hd))
  case int =>
    rename_i i
    walk_at "s"
    refine if_d (fun c1 => ?_) (fun c1 => ?_)
    · walk_at "s"
      have e : isWhole (.int i) lo hi = decide (i ≤ hi) := by simp [isWhole, c1]
      rw [e] at q
      exact q
    · have e : isWhole (.int i) lo hi = false := by simp [isWhole, c1]
      rw [e] at q
      exact q
  all_goals (walk_at "s"; exact q)
instance {H : Hp} {Q : VK} {E : XK} {v : V} {lo hi : Int} : Step (sp_is_whole v (.int lo) (.int hi) H Q E) (∃ d, At H d v ∧ Q (.bl (isWhole d lo hi)) H) := ⟨fun ⟨d, h, q⟩ => ⟨d, _, _, h, rfl, rfl, q⟩⟩
abbrev s_is_number : Stmt := topS 16
theorem sc_is_number : FnScope ["thing"] ["thing"] (defScope s_is_number) := ⟨rfl, rfl, rfl, by decide +kernel, rfl, by decide +kernel, by decide +kernel⟩
def sp_is_number : Sp1 := fun a H Q _ => ∃ d, At H d a ∧ Q (.bl (isNumber d)) H
theorem ok_is_number (M : Mg mg) (c_GREATEST : ∃ t, mg "GREATEST" = some (.int 1000000000 t)) (G_is_whole : Has P w K mg base "is_whole" ["thing", "least", "most"] 1 (sp3 sp_is_whole)) (D : DefAt K mg "is_number" s_is_number ["thing"]) :
    Has P w K mg base "is_number" ["thing"] 2 (sp1 sp_is_number) := by
  refine .mk1 D sc_is_number fun f cdv A outer s H a Q E hr h => ⟨_, (pss_one (ps_ret (pe_own G_is_whole (hr.mono (by first | decide | omega)) (by rfl) p_body (pa_cons (pv 0) (pa_cons (pe_un o_neg (pe_gi (by rfl) c_GREATEST)) (pa_cons (pe_gi (by rfl) c_GREATEST) pa_nil)))))), ?_⟩
  obtain ⟨d, hd, q⟩ := h
  refine Fl.go_start (σ0 := [some _]) rfl ?_
  walk_at "s"
  exact q
instance {H : Hp} {Q : VK} {E : XK} {v : V} : Step (sp_is_number v H Q E) (∃ d, At H d v ∧ Q (.bl (isNumber d)) H) := ⟨fun h => h⟩
end
end Fl

-- after:
namespace Fl
open PySem PySem.Spec PyProof.Rows L2 RZ
/-! ### texts, walked; lists against the empty list -/
section
variable {σ : L2.St} {H : Hp} {nx bk ct : L2.St → Hp → Prop} {rt : VK} {Q : VK} {te : TE} {tb : TS} {g : TG} {tt : TT} {K : PySem.W.Frag} {vs : List Nat}
def uInSign : R2 := fun x y H Q => match x, y with
  | .str a, .str z => ∃ c : Nat, a = ⟨#[c]⟩ ∧ Q (.bl (decide (c ∈ z.cps.toList))) H
  | _, _ => False
theorem o_in_sign {X : Cx} : OpR X (compareOp .In) uInSign := by
  intro pins s σ H x y v u Q I rx ry h
  cases x <;> first | exact h.elim | skip
  cases y <;> first | exact h.elim | skip
  obtain ⟨c, rfl, q⟩ := h
  exact op_in_sign pins s σ H _ _ v u Q I rx ry ⟨c, _, rfl, rfl, q⟩
def uNotInSign : R2 := fun x y H Q => match x, y with
  | .str a, .str z => ∃ c : Nat, a = ⟨#[c]⟩ ∧ Q (.bl (!decide (c ∈ z.cps.toList))) H
  | _, _ => False
theorem o_notIn_sign {X : Cx} : OpR X (compareOp .NotIn) uNotInSign := by
  intro pins s σ H x y v u Q I rx ry h
  cases x <;> first | exact h.elim | skip
  cases y <;> first | exact h.elim | skip
  obtain ⟨c, rfl, q⟩ := h
  exact op_notIn_sign pins s σ H _ _ v u Q I rx ry ⟨c, _, rfl, rfl, q⟩
instance {c : Nat} {z : Str} : Step (uInSign (.str ⟨#[c]⟩) (.str z) H Q) (Q (.bl (decide (c ∈ z.cps.toList))) H) := ⟨fun h => ⟨c, rfl, h⟩⟩
instance {c : Nat} {z : Str} : Step (uNotInSign (.str ⟨#[c]⟩) (.str z) H Q) (Q (.bl (!decide (c ∈ z.cps.toList))) H) := ⟨fun h => ⟨c, rfl, h⟩⟩
/-- a list against the empty list, at any depth -/
def uNeE (K : PySem.W.Frag) : R2 := fun x y H Q => ∃ a b ds vs, x = .ref a ∧ y = .ref b ∧ H b = some (.lst []) ∧ H a = some (.lst vs) ∧ DpAll K H vs ds ∧ PyData.canLayAll0 ds = true ∧ Q (.bl (!vs.isEmpty)) H
theorem eqv_nil (ds : List PyData) : PyData.eqv (.list ds) (.list []) = ds.isEmpty := by
  cases ds <;> simp [PyData.eqv, PyData.eqvAll]
theorem dpAll_empty {vs : List V} {ds : List PyData} (h : DpAll K H vs ds) : vs.isEmpty = ds.isEmpty := by
  cases h <;> rfl
theorem k_neE (K : PySem.W.Frag) {X : Cx} (h : X.K = K) {k : Nat} (hr : Room k X.A) : OpR X (compareOp .NotEq) (uNeE K) := by
  subst h
  intro pins s σ H x y v u Q I rx ry h
  obtain ⟨a, b, ds, vs, rfl, rfl, hb, ha, hd, hl, q⟩ := h
  obtain ⟨as, r1⟩ := Dp.reads I (.list ds) (.ref a) v (.lst (.of ha) hd) rx
  obtain ⟨bs, r2⟩ := Dp.reads I (.list []) (.ref b) u (.lst (.of hb) .nil) ry
  have hu := hr.units
  refine SeqAt.compareNe_reads r1 r2 (by simpa [PyData.canLay0] using hl) (by simp [PyData.canLay0, PyData.canLayAll0]) ?_ ⟨.bl _, H, I, rfl, ?_⟩
  · have : min (PyData.depth (.list ds)) (PyData.depth (.list [])) ≤ PyData.depth (.list []) := Nat.min_le_right _ _
    have e : PyData.depth (.list []) = 1 := by simp [PyData.depth, PyData.depthAll]
    omega
  · rw [eqv_nil, ← dpAll_empty hd]
    exact q
theorem ne_e {a b : Addr} {ds : List PyData} {vs : List V} (hb : H b = some (.lst [])) (ha : H a = some (.lst vs)) (hd : DpAll K H vs ds) (hl : PyData.canLayAll0 ds = true) (q : Q (.bl (!vs.isEmpty)) H) : uNeE K (.ref a) (.ref b) H Q :=
  ⟨a, b, ds, vs, rfl, rfl, hb, ha, hd, hl, q⟩
def uEqE (K : PySem.W.Frag) : R2 := fun x y H Q => ∃ a b ds vs, x = .ref a ∧ y = .ref b ∧ H b = some (.lst []) ∧ H a = some (.lst vs) ∧ DpAll K H vs ds ∧ PyData.canLayAll0 ds = true ∧ Q (.bl vs.isEmpty) H
theorem k_eqE (K : PySem.W.Frag) {X : Cx} (h : X.K = K) {k : Nat} (hr : Room k X.A) : OpR X (compareOp .Eq) (uEqE K) := by
  subst h
  intro pins s σ H x y v u Q I rx ry h
  obtain ⟨a, b, ds, vs, rfl, rfl, hb, ha, hd, hl, q⟩ := h
  obtain ⟨as, r1⟩ := Dp.reads I (.list ds) (.ref a) v (.lst (.of ha) hd) rx
  obtain ⟨bs, r2⟩ := Dp.reads I (.list []) (.ref b) u (.lst (.of hb) .nil) ry
  have hu := hr.units
  refine SeqAt.compareEq_reads r1 r2 (by simpa [PyData.canLay0] using hl) (by simp [PyData.canLay0, PyData.canLayAll0]) ?_ ⟨.bl _, H, I, rfl, ?_⟩
  · have : min (PyData.depth (.list ds)) (PyData.depth (.list [])) ≤ PyData.depth (.list []) := Nat.min_le_right _ _
    have e : PyData.depth (.list []) = 1 := by simp [PyData.depth, PyData.depthAll]
    omega
  · rw [eqv_nil, ← dpAll_empty hd]
    exact q
theorem eq_e {a b : Addr} {ds : List PyData} {vs : List V} (hb : H b = some (.lst [])) (ha : H a = some (.lst vs)) (hd : DpAll K H vs ds) (hl : PyData.canLayAll0 ds = true) (q : Q (.bl vs.isEmpty) H) : uEqE K (.ref a) (.ref b) H Q :=
  ⟨a, b, ds, vs, rfl, rfl, hb, ha, hd, hl, q⟩
theorem dpAll_ints : ∀ ns : List Int, DpAll K H (ns.map V.int) (ns.map PyData.int)
  | [] => .nil
  | n :: r => .cons (.int n) (dpAll_ints r)
theorem lay_ints : ∀ ns : List Int, PyData.canLayAll0 (ns.map PyData.int) = true
  | [] => rfl
  | n :: r => by simp [PyData.canLayAll0, PyData.canLay0, lay_ints r]
theorem eq_eI {a b : Addr} {ns : List Int} (hb : H b = some (.lst [])) (ha : H a = some (.lst (ns.map V.int))) (q : Q (.bl ns.isEmpty) H) : uEqE K (.ref a) (.ref b) H Q :=
  eq_e hb ha (dpAll_ints ns) (lay_ints ns) (by rw [List.isEmpty_map]; exact q)
theorem ne_eI {a b : Addr} {ns : List Int} (hb : H b = some (.lst [])) (ha : H a = some (.lst (ns.map V.int))) (q : Q (.bl (!ns.isEmpty)) H) : uNeE K (.ref a) (.ref b) H Q :=
  ne_e hb ha (dpAll_ints ns) (lay_ints ns) (by rw [List.isEmpty_map]; exact q)
instance {z : Str} {S : Str → Prop} : Step (∃ x, V.str z = .str x ∧ S x) (S z) := ⟨fun h => ⟨_, rfl, h⟩⟩
theorem atI_0 {x : V} {xs : List V} : atI (x :: xs) 0 = some x := atI_nat (j := 0) rfl
theorem atI_1 {x y : V} {xs : List V} : atI (x :: y :: xs) 1 = some y := atI_nat (j := 1) rfl
theorem atI_2 {x y z : V} {xs : List V} : atI (x :: y :: z :: xs) 2 = some z := atI_nat (j := 2) rfl
theorem atI_3 {x y z u : V} {xs : List V} : atI (x :: y :: z :: u :: xs) 3 = some u := atI_nat (j := 3) rfl
instance {x : V} {xs : List V} {S : V → Prop} : Step (∃ v, atI (x :: xs) 0 = some v ∧ S v) (S x) := ⟨fun h => ⟨_, atI_0, h⟩⟩
instance {x y : V} {xs : List V} {S : V → Prop} : Step (∃ v, atI (x :: y :: xs) 1 = some v ∧ S v) (S y) := ⟨fun h => ⟨_, atI_1, h⟩⟩
instance {x y z : V} {xs : List V} {S : V → Prop} : Step (∃ v, atI (x :: y :: z :: xs) 2 = some v ∧ S v) (S z) := ⟨fun h => ⟨_, atI_2, h⟩⟩
instance {x y z u : V} {xs : List V} {S : V → Prop} : Step (∃ v, atI (x :: y :: z :: u :: xs) 3 = some v ∧ S v) (S u) := ⟨fun h => ⟨_, atI_3, h⟩⟩
instance {n : Nat} {t : TGs} {a : Addr} {R : L2.St → Hp → Prop} : Step (gTup K n t (.ref a) σ H R) (∃ o, H a = some o ∧ ∃ xs, o = .tup xs ∧ xs.length = n ∧ t xs σ H R) := ⟨fun ⟨o, h, xs, e, l, q⟩ => ⟨a, xs, rfl, .of (by rw [h, e]), l, q⟩⟩
instance {xs : List V} {S : List V → Prop} : Step (∃ ys, HO.tup xs = HO.tup ys ∧ S ys) (S xs) := ⟨fun h => ⟨_, rfl, h⟩⟩
instance {t : TG} {u : TGs} {v : V} {r : List V} {R : L2.St → Hp → Prop} : Step (gCons t u (v :: r) σ H R) (t v σ H fun σ' H' => u r σ' H' R) := ⟨fun h => ⟨v, r, rfl, h⟩⟩
instance {R : L2.St → Hp → Prop} : Step (gNil [] σ H R) (R σ H) := ⟨fun h => ⟨rfl, h⟩⟩
instance {R : It → Hp → Prop} : Step (iStr te σ H R) (te σ H fun v H1 => ∃ x, v = .str x ∧ R (Its x) H1) := ⟨fun h => h⟩
theorem for_str {x : Str} (Pv : Nat → L2.St → Hp → Prop) (h0 : Pv 0 σ H)
    (hs : ∀ (i c : Nat) σ H, x.cps[i]? = some c → Pv i σ H → g (.str ⟨#[c]⟩) σ H fun σ2 H2 => tb ⟨Pv (i + 1), rt, nx, Pv (i + 1)⟩ σ2 H2) (hd : ∀ σ H, Pv x.cps.size σ H → nx σ H) : forG g tb ⟨nx, rt, bk, ct⟩ σ (Its x) H := by
  refine ⟨fun i m σ H => m = x.cps.size - i ∧ i ≤ x.cps.size ∧ Pv i σ H, ⟨x.cps.size, by simp, Nat.zero_le _, h0⟩, ?_⟩
  rintro i m σ H ⟨rfl, hi, p⟩
  by_cases hlt : i < x.cps.size
  · refine .inr ⟨hlt, Pv (i + 1), fun σ' H' p' => ⟨x.cps.size - (i + 1), by omega, rfl, hlt, p'⟩, fun y H' z => ?_⟩
    obtain ⟨e, c, ec, z⟩ := z
    subst e z
    exact hs i c σ _ ec p
  · have e : i = x.cps.size := by omega
    subst e
    exact .inl ⟨Nat.le_refl _, hd σ H p⟩
theorem lc_str {x : Str} (Pv : Addr → Nat → Hp → Prop) (h0 : ∀ D, H D = none → Pv D 0 (upd H D (.lst [])))
    (hs : ∀ D (i c : Nat) H', H D = none → x.cps[i]? = some c → Pv D i H' → g (.str ⟨#[c]⟩) (wipe σ vs) H' fun σ2 H2 => wipe σ2 vs = wipe σ vs ∧ tt σ2 H2 fun b H3 =>
      if b = true then te σ2 H3 fun y H4 => ∃ acc, H4 D = some (.lst acc) ∧ acc.length < sizeLine ∧ Pv D (i + 1) (upd H4 D (.lst (acc ++ [y]))) else Pv D (i + 1) H3)
    (hd : ∀ D H', H D = none → Pv D x.cps.size H' → Q (.ref D) H') : lcG g tt te vs σ Q (Its x) H := by
  intro D hD
  refine ⟨fun i m H => m = x.cps.size - i ∧ i ≤ x.cps.size ∧ Pv D i H, ⟨x.cps.size, by simp, Nat.zero_le _, h0 D hD⟩, ?_⟩
  rintro i m H' ⟨rfl, hi, p⟩
  by_cases hlt : i < x.cps.size
  · refine .inr ⟨hlt, Pv D (i + 1), fun H' p' => ⟨x.cps.size - (i + 1), by omega, rfl, hlt, p'⟩, fun y H' z => ?_⟩
    obtain ⟨e, c, ec, z⟩ := z
    subst e z
    exact hs D i c _ hD ec p
  · have e : i = x.cps.size := by omega
    subst e
    exact .inl ⟨Nat.le_refl _, hd D H' hD p⟩
theorem lc_seqS {x : Str} {j : Nat} (ys : List V) (hy : ys.length = x.cps.size) (hl : ys.length < 100000) (hw : ∀ x, wipe ((wipe σ vs).set j (some x)) vs = wipe σ vs)
    (hs : ∀ (i c : Nat) y H', x.cps[i]? = some c → ys[i]? = some y → Same H H' → Pure te ((wipe σ vs).set j (some (.str ⟨#[c]⟩))) H' y) (hd : ∀ D H', H D = none → Same H H' → H' D = some (.lst ys) → Q (.ref D) H') : lcG (gName j) tYes te vs σ Q (Its x) H := by
  refine lc_str (fun D i H' => H' D = some (.lst (ys.take i)) ∧ Same H H') (fun D hD => ⟨upd_same, Same.new (.refl _) hD⟩) (fun D i c H' hD e p => ?_) fun D H' hD p => ?_
  · have hi : i < ys.length := by
      rw [hy]
      exact (Array.getElem?_eq_some_iff.mp e).1
    exact pure_step hl hw hD (List.getElem?_eq_getElem hi) p (hs i c _ H' e (List.getElem?_eq_getElem hi) p.2)
  · refine hd D H' hD p.2 ?_
    rw [← hy, List.take_length] at p
    exact p.1
/-- min, max of two; list(range(..)) -/
def uMin2 : List V → Hp → VK → Prop := fun xs H Q => ∃ i j, xs = [.int i, .int j] ∧ Q (.int (if j < i then j else i)) H
theorem c_min2 {X : Cx} (hc : X.calm = true) : CallR X (.builtin "min") uMin2 := call_min2 hc
instance {i j : Int} : Step (uMin2 [.int i, .int j] H Q) (Q (.int (if j < i then j else i)) H) := ⟨fun h => ⟨_, _, rfl, h⟩⟩
def uMax2 : List V → Hp → VK → Prop := fun xs H Q => ∃ i j, xs = [.int i, .int j] ∧ Q (.int (if j > i then j else i)) H
theorem c_max2 {X : Cx} (hc : X.calm = true) : CallR X (.builtin "max") uMax2 := call_max2 hc
instance {i j : Int} : Step (uMax2 [.int i, .int j] H Q) (Q (.int (if j > i then j else i)) H) := ⟨fun h => ⟨_, _, rfl, h⟩⟩
instance {tr : L2.St → Hp → (Int → Int → Hp → Prop) → Prop} : Step (tLstRg tr σ H Q) (tr σ H fun a b H1 => RgOk a b ∧ ∀ q, H1 q = none → Q (.ref q) (upd H1 q (.lst (rgV a b)))) := ⟨fun h => h⟩
instance {R : Int → Int → Hp → Prop} : Step (tRg1 te σ H R) (te σ H fun x H1 => ∃ n, x = .int n ∧ R 0 n H1) := ⟨fun h => h⟩
instance {tf : TE} {R : Int → Int → Hp → Prop} : Step (tRg2 te tf σ H R) (te σ H fun x H1 => tf σ H1 fun y H2 => ∃ i j, x = .int i ∧ y = .int j ∧ R i j H2) := ⟨fun h => h⟩
/-- a statement that is never come to -/
def tNo : TS := fun _ _ _ => False
theorem ps_no {X : Cx} {st : Stmt} : PS X st tNo := ⟨fun _ _ _ _ _ _ h => h.elim⟩
end
end Fl

-- after: wn.tpl ext.tpl
namespace Fl
open PySem PySem.Spec PyProof.Rows L2 RZ
/-! ### rules as data -/
def letters : Str := "abcdefghijklmnopqrstuvwxyz"
def isWord : PyData → Bool
  | .str x => decide (1 ≤ x.length) && decide (x.length ≤ 8) && x.cps.toList.all fun c => decide (c ∈ letters.cps.toList)
  | _ => false
/-! data of short texts -/
mutual
def okD : PyData → Bool
  | .none | .bool _ | .int _ => true
  | .str x => (PyData.str x).canLay0 && decide (x.length ≤ 1000)
  | .list ds | .tuple ds => okAll ds
  | .dict _ => false
def okAll : List PyData → Bool
  | [] => true
  | d :: ds => okD d && okAll ds
end
mutual
theorem okD_lay : ∀ d : PyData, okD d = true → d.canLay0 = true
  | .none, _ | .bool _, _ | .int _, _ => by simp [PyData.canLay0]
  | .str x, h => by
    simp only [okD, Bool.and_eq_true] at h
    exact h.1
  | .list ds, h | .tuple ds, h => by
    simp only [okD] at h
    simp only [PyData.canLay0]
    exact okAll_lay ds h
  | .dict _, h => by simp [okD] at h
theorem okAll_lay : ∀ ds : List PyData, okAll ds = true → PyData.canLayAll0 ds = true
  | [], _ => rfl
  | d :: ds, h => by
    simp only [okAll, Bool.and_eq_true] at h
    simp only [PyData.canLayAll0, Bool.and_eq_true]
    exact ⟨okD_lay d h.1, okAll_lay ds h.2⟩
end
theorem okAll_mem {ds : List PyData} (h : okAll ds = true) {d : PyData} (m : d ∈ ds) : okD d = true := by
  induction ds with
  | nil => cases m
  | cons e r ih =>
    simp only [okAll, Bool.and_eq_true] at h
    rcases List.mem_cons.mp m with z | z
    · rw [z]; exact h.1
    · exact ih h.2 z
theorem okAll_of {ds : List PyData} (h : ∀ d ∈ ds, okD d = true) : okAll ds = true := by
  induction ds with
  | nil => rfl
  | cons e r ih =>
    simp only [okAll, Bool.and_eq_true]
    exact ⟨h e (List.mem_cons_self ..), ih fun d m => h d (List.mem_cons_of_mem _ m)⟩
theorem okD_len {x : Str} (h : okD (.str x) = true) : x.length ≤ 1000 := by
  simp only [okD, Bool.and_eq_true] at h
  exact of_decide_eq_true h.2
/-- which parts of a rule are rules (counted in the whole, the word being 0) -/
def placesOf (T C : Int) (w : Str) (ds : List PyData) : Option (List Int) :=
  if (w = "add" ∨ w = "take" ∨ w = "least" ∨ w = "most") ∧ ds.length = 2 then some [1, 2]
  else if w = "part" ∧ ds.length = 2 ∧ isWhole (ds.getD 1 .none) 0 100 = true then some [1]
  else if w = "table" ∧ ds.length = 2 ∧ isWhole (ds.getD 0 .none) 0 (T - 1) = true then some [2]
  else if w = "where" ∧ ds.length = 3 then some [1, 2, 3]
  else if w = "choose" ∧ ds.length = 3 ∧ isWhole (ds.getD 0 .none) 0 (C - 1) = true then some [2, 3]
  else none
def isPlain (L : Int) (w : Str) (ds : List PyData) : Bool :=
  if w = "number" then decide (ds.length = 1) && isNumber (ds.getD 0 .none)
  else if w = "paper" then decide (ds.length = 1) && isWord (ds.getD 0 .none)
  else (decide (w = "line") || decide (w = "earlier")) && decide (ds.length = 1) && isWhole (ds.getD 0 .none) 0 (L - 1)
theorem inV_str {w a : Str} {xs : List V} : inV (.str w) (.str a :: xs) = (decide (w = a) || inV (.str w) xs) := by
  have e : (a == w) = decide (w = a) := by
    by_cases h : w = a
    · subst h; simp
    · rw [decide_eq_false h]
      exact beq_false_of_ne (Ne.symm h)
  show (eqV (.str a) (.str w) || inV (.str w) xs) = _
  rw [← e]
  rfl
theorem inV_nil {x : V} : inV x [] = false := rfl
section
variable {P : Program} {w : World} {K : PySem.W.Frag} {mg : Str → Option Value} {base : Heap}
instance {H : Hp} {Q : VK} {w : Str} {p : Addr} : Step (uIn K (.str w) (.ref p) H Q) (∃ xs, IsSq K H p xs ∧ xs.all flatV = true ∧ Q (.bl (inV (.str w) xs)) H) := ⟨fun ⟨xs, h, f, q⟩ => .inl ⟨p, xs, rfl, h, rfl, f, q⟩⟩
instance {H : Hp} {Q : VK} {w : Str} {p : Addr} : Step (uNotIn K (.str w) (.ref p) H Q) (∃ xs, IsSq K H p xs ∧ xs.all flatV = true ∧ Q (.bl (!inV (.str w) xs)) H) := ⟨fun ⟨xs, h, f, q⟩ => .inl ⟨p, xs, rfl, h, rfl, f, q⟩⟩
abbrev s_is_word : Stmt := topS 24
theorem sc_is_word : FnScope ["thing", "sign"] ["thing"] (defScope s_is_word) := ⟨rfl, rfl, rfl, by decide +kernel, rfl, by decide +kernel, by decide +kernel⟩
def sp_is_word : Sp1 := fun a H Q _ => ∃ d, At H d a ∧ okD d = true ∧ ∀ H', Same H H' → Q (.bl (isWord d)) H'
instance {H : Hp} {Q : VK} {E : XK} {v : V} : Step (sp_is_word v H Q E) (∃ d, At H d v ∧ okD d = true ∧ SmQ H fun H' => Q (.bl (isWord d)) H') := ⟨fun h => h⟩
theorem ok_is_word (M : Mg mg) (c_LONGEST : ∃ t, mg "LONGEST" = some (.int 8 t)) (c_LETTERS : ∃ t, mg "LETTERS" = some (.str letters t)) (D : DefAt K mg "is_word" s_is_word ["thing"]) :
    Has P w K mg base "is_word" ["thing"] 1 (sp1 sp_is_word) := by
  refine .mk1 D sc_is_word fun f cdv A outer s H a Q E hr h => ⟨_, (pss_cons (ps_if (PW.pt (pw_or (pt_not (pt_val (pe_callB (k_isi K rfl) (by rfl) M.isinstance (by decide +kernel) (pa_cons (pv 0) (pa_cons (pe_bltn (v := .ty "str") (by rfl) M.str (by decide +kernel) rfl) pa_nil))))) (pw_or (pt_cmpR o_lt (pe_callB (k_len K rfl) (by rfl) M.len (by decide +kernel) (pa_cons (pv 0) pa_nil)) pe_int (nomark _)) (pw_or1 (pt_cmpR o_gt (pe_callB (k_len K rfl) (by rfl) M.len (by decide +kernel) (pa_cons (pv 0) pa_nil)) (pe_gi (by rfl) c_LONGEST) (nomark _)))))) (pss_one (ps_ret pe_bl)) pss_nil)
    (pss_one (ps_ret (pe_callB (k_all K rfl rfl) (by rfl) M.all (by decide +kernel) (pa_cons (pe_lc (own := [("sign", 1)]) (g := gName 1) (by rfl) sc_is_word.nd (pi_str (pv 0)) (blkOk_by (N := ["thing", "sign"]) (sc := (defScope s_is_word)) (own := [("sign", 1)]) (by decide +kernel)) (fun _ _ _ _ _ => (pg_name (i := 1) sc_is_word.nd rfl (by first | exact Or.inl rfl | exact Or.inr rfl))) (fun _ _ _ _ _ => pts_nil) (fun _ _ _ _ _ => (pe_cmpR o_in_sign (pv 1) (pe_gs (by rfl) c_LETTERS) (by rfl)))) pa_nil))))), ?_⟩
  obtain ⟨d, hd, ok, q⟩ := h
  refine Fl.go_start (σ0 := [some _, none]) rfl ?_
  cases d <;> first | exact hd.elim | skip
  all_goals try (cases (show _ = _ from hd))
  case str =>
    rename_i x
    have l := okD_len ok
    have l2 : x.length ≤ sizeLine := small_of (by omega)
    walk_at "s"
    refine if_d (fun c => ?_) (fun c => ?_)
    · walk_at "s"
      have e : isWord (.str x) = false := by simp [isWord, show ¬ 1 ≤ x.length by omega]
      rw [e] at q
      exact q _ (.refl _)
    walk_at "s"
    refine if_d (fun c => ?_) (fun c => ?_)
    · walk_at "s"
      have e : isWord (.str x) = false := by simp [isWord, show ¬ x.length ≤ 8 by omega]
      rw [e] at q
      exact q _ (.refl _)
    walk_at "s"
    have lx : x.length = x.cps.toList.length := by simp [Str.length]
    refine lc_seqS ((x.cps.toList.map fun c => decide (c ∈ letters.cps.toList)).map V.bl) (by simp) (by simp; simp at lx; omega) (fun _ => rfl) (fun i c y H' ex ey sm R hR => ?_) (fun D1 H1 hD1 sm1 eD1 => ?_)
    · have e : y = .bl (decide (c ∈ letters.cps.toList)) := by
        rw [List.getElem?_map, List.getElem?_map, Array.getElem?_toList, ex] at ey
        exact (Option.some.inj ey).symm
      subst e
      walk_at "s"
      exact hR _ (.refl _)
    walk_at "s"
    have e : isWord (.str x) = (x.cps.toList.map fun c => decide (c ∈ letters.cps.toList)).all id := by
      simp [isWord, show 1 ≤ x.length by omega, show x.length ≤ 8 by omega, List.all_map]
    rw [e] at q
    exact q _ sm1
  all_goals (walk_at "s"; exact q _ (.refl _))
abbrev s_is_plain : Stmt := topS 25
theorem sc_is_plain : FnScope ["rule", "lines"] ["rule", "lines"] (defScope s_is_plain) := ⟨rfl, rfl, rfl, by decide +kernel, rfl, by decide +kernel, by decide +kernel⟩
/-- a tuple with a text first -/
def WRule (H : Hp) (a : V) (w : Str) (ds : List PyData) : Prop := ∃ p vs, a = .ref p ∧ H p = some (.tup (.str w :: vs)) ∧ AtAll H ds vs ∧ okAll ds = true
def sp_is_plain : Sp2 := fun a b H Q _ => ∃ w ds L, WRule H a w ds ∧ b = .int L ∧ ∀ H', Same H H' → Q (.bl (isPlain L w ds)) H'
theorem ok_is_plain (M : Mg mg) (G_is_whole : Has P w K mg base "is_whole" ["thing", "least", "most"] 1 (sp3 sp_is_whole)) (G_is_number : Has P w K mg base "is_number" ["thing"] 2 (sp1 sp_is_number)) (G_is_word : Has P w K mg base "is_word" ["thing"] 1 (sp1 sp_is_word))
    (D : DefAt K mg "is_plain" s_is_plain ["rule", "lines"]) : Has P w K mg base "is_plain" ["rule", "lines"] 3 (sp2 sp_is_plain) := by
  refine .mk2 D sc_is_plain fun f cdv A outer s H a b Q E hr h => ⟨_, (pss_cons (ps_if (pt_cmpR (k_eq K rfl hr) (pe_ix (k_ix K rfl) (pv 0) pe_int (fun _ _ => rfl)) pe_str (nomark _)) (pss_one (ps_ret (pe_and (pe_cmpR (k_eq K rfl hr) (pe_callB (k_len K rfl) (by rfl) M.len (by decide +kernel) (pa_cons (pv 0) pa_nil)) pe_int (nomark _)) (pe_one (pe_own G_is_number (hr.mono (by first | decide | omega)) (by rfl) p_body (pa_cons (pe_ix (k_ix K rfl) (pv 0) pe_int (fun _ _ => rfl)) pa_nil)))))) pss_nil)
    (pss_cons (ps_if (pt_cmpR (k_eq K rfl hr) (pe_ix (k_ix K rfl) (pv 0) pe_int (fun _ _ => rfl)) pe_str (nomark _)) (pss_one (ps_ret (pe_and (pe_cmpR (k_eq K rfl hr) (pe_callB (k_len K rfl) (by rfl) M.len (by decide +kernel) (pa_cons (pv 0) pa_nil)) pe_int (nomark _)) (pe_one (pe_own G_is_word (hr.mono (by first | decide | omega)) (by rfl) p_body (pa_cons (pe_ix (k_ix K rfl) (pv 0) pe_int (fun _ _ => rfl)) pa_nil)))))) pss_nil)
    (pss_one (ps_ret (pe_and (pe_cmpR (k_in K rfl hr) (pe_ix (k_ix K rfl) (pv 0) pe_int (fun _ _ => rfl)) (pe_lst (pa_cons pe_str (pa_cons pe_str pa_nil))) (by rfl)) (pe_and (pe_cmpR (k_eq K rfl hr) (pe_callB (k_len K rfl) (by rfl) M.len (by decide +kernel) (pa_cons (pv 0) pa_nil)) pe_int (nomark _)) (pe_one (pe_own G_is_whole (hr.mono (by first | decide | omega)) (by rfl) p_body (pa_cons (pe_ix (k_ix K rfl) (pv 0) pe_int (fun _ _ => rfl)) (pa_cons pe_int (pa_cons (pe_op o_sub (pv 1) pe_int) pa_nil))))))))))), ?_⟩
  obtain ⟨w, ds, L, ⟨p, vs, rfl, hp, hvs, ok⟩, rfl, q⟩ := h
  have l := hvs.length
  refine Fl.go_start (σ0 := [some _, some _]) rfl ?_
  walk_at "s"
  refine if_d (fun c => ?_) (fun c => ?_)
  · walk_at "s"
    refine if_d (fun c1 => ?_) (fun c1 => ?_)
    · obtain ⟨d0, v0, rfl, rfl, h0⟩ := hvs.ex1 (by simp at c1; omega)
      walk_at "s"
      have e : isPlain L w [d0] = isNumber d0 := by simp [isPlain, c]
      rw [e] at q
      exact q _ (.refl _)
    · walk_at "s"
      have e : isPlain L w ds = false := by
        have : ¬ ds.length = 1 := by simp at c1; omega
        simp [isPlain, c, this]
      rw [e] at q
      exact q _ (.refl _)
  walk_at "s"
  refine if_d (fun c0 => ?_) (fun c0 => ?_)
  · walk_at "s"
    refine if_d (fun c1 => ?_) (fun c1 => ?_)
    · obtain ⟨d0, v0, rfl, rfl, h0⟩ := hvs.ex1 (by simp at c1; omega)
      have ok0 : okD d0 = true := okAll_mem ok (List.mem_singleton.mpr rfl)
      walk_at "s"
      have e : isPlain L w [d0] = isWord d0 := by unfold isPlain; rw [if_neg c, if_pos c0]; simp
      rw [e] at q
      exact q _ (by walk_at "sm")
    · walk_at "s"
      have e : isPlain L w ds = false := by
        have : ¬ ds.length = 1 := by simp at c1; omega
        unfold isPlain; rw [if_neg c, if_pos c0]; simp [this]
      rw [e] at q
      exact q _ (.refl _)
  walk_at "s"
  rename_i pl hpl
  rw [inV_str, inV_str, inV_nil, Bool.or_false]
  refine if_b (fun c2 => ?_) (fun c2 => ?_)
  · walk_at "s"
    refine if_d (fun c1 => ?_) (fun c1 => ?_)
    · obtain ⟨d0, v0, rfl, rfl, h0⟩ := hvs.ex1 (by simp at c1; omega)
      walk_at "s"
      have e : isPlain L w [d0] = isWhole d0 0 (L - 1) := by simp [isPlain, c, c0, c2]
      rw [e] at q
      exact q _ (by walk_at "sm")
    · walk_at "s"
      have e : isPlain L w ds = false := by
        have : ¬ ds.length = 1 := by simp at c1; omega
        simp [isPlain, c, c0, this]
      rw [e] at q
      exact q _ (by walk_at "sm")
  · walk_at "s"
    have e : isPlain L w ds = false := by
      simp [isPlain, c, c0, c2]
    rw [e] at q
    exact q _ (by walk_at "sm")
instance {H : Hp} {Q : VK} {E : XK} {a : V} {L : Int} : Step (sp_is_plain a (.int L) H Q E) (∃ w ds, WRule H a w ds ∧ SmQ H fun H' => Q (.bl (isPlain L w ds)) H') := ⟨fun ⟨w, ds, h, q⟩ => ⟨w, ds, L, h, rfl, q⟩⟩
abbrev s_places_of : Stmt := topS 26
theorem sc_places_of : FnScope ["rule", "tables", "choices"] ["rule", "tables", "choices"] (defScope s_places_of) := ⟨rfl, rfl, rfl, by decide +kernel, rfl, by decide +kernel, by decide +kernel⟩
/-- what places_of hands back -/
def PlQ (o : Option (List Int)) (H : Hp) (Q : V → Hp → Prop) : Prop := match o with
  | none => ∀ H', Same H H' → Q .non H'
  | some ns => ∀ p H', Same H H' → H' p = some (.lst (ns.map V.int)) → Q (.ref p) H'
theorem plq_none {H H' : Hp} {Q : V → Hp → Prop} (q : PlQ none H Q) (e : Same H H') : Q .non H' := q _ e
theorem plq_some {H H' : Hp} {Q : V → Hp → Prop} {ns : List Int} {p : Addr} {vs : List V} (q : PlQ (some ns) H Q) (e : Same H H') (h : H' p = some (.lst vs)) (z : vs = ns.map V.int) : Q (.ref p) H' := q p _ e (by rw [h, z])
def sp_places_of : Sp3 := fun a b c H Q _ => ∃ w ds T C, WRule H a w ds ∧ b = .int T ∧ c = .int C ∧ PlQ (placesOf T C w ds) H Q
theorem ok_places_of (M : Mg mg) (G_is_whole : Has P w K mg base "is_whole" ["thing", "least", "most"] 1 (sp3 sp_is_whole)) (D : DefAt K mg "places_of" s_places_of ["rule", "tables", "choices"]) : Has P w K mg base "places_of" ["rule", "tables", "choices"] 2 (sp3 sp_places_of) := by
  refine .mk3 D sc_places_of fun f cdv A outer s H a b c Q E hr h => ⟨_, (pss_cons (ps_if (PW.pt (pw_and (pt_cmpR (k_in K rfl hr) (pe_ix (k_ix K rfl) (pv 0) pe_int (fun _ _ => rfl)) (pe_lst (pa_cons pe_str (pa_cons pe_str (pa_cons pe_str (pa_cons pe_str pa_nil))))) (by rfl)) (pw_and1 (pt_cmpR (k_eq K rfl hr) (pe_callB (k_len K rfl) (by rfl) M.len (by decide +kernel) (pa_cons (pv 0) pa_nil)) pe_int (nomark _))))) (pss_one (ps_ret (pe_lst (pa_cons pe_int (pa_cons pe_int pa_nil))))) pss_nil)
    (pss_cons (ps_if (PW.pt (pw_and (pt_cmpR (k_eq K rfl hr) (pe_ix (k_ix K rfl) (pv 0) pe_int (fun _ _ => rfl)) pe_str (nomark _)) (pw_and (pt_cmpR (k_eq K rfl hr) (pe_callB (k_len K rfl) (by rfl) M.len (by decide +kernel) (pa_cons (pv 0) pa_nil)) pe_int (nomark _)) (pw_and1 (pt_val (pe_own G_is_whole (hr.mono (by first | decide | omega)) (by rfl) p_body (pa_cons (pe_ix (k_ix K rfl) (pv 0) pe_int (fun _ _ => rfl)) (pa_cons pe_int (pa_cons pe_int pa_nil))))))))) (pss_one (ps_ret (pe_lst (pa_cons pe_int pa_nil)))) pss_nil)
    (pss_cons (ps_if (PW.pt (pw_and (pt_cmpR (k_eq K rfl hr) (pe_ix (k_ix K rfl) (pv 0) pe_int (fun _ _ => rfl)) pe_str (nomark _)) (pw_and (pt_cmpR (k_eq K rfl hr) (pe_callB (k_len K rfl) (by rfl) M.len (by decide +kernel) (pa_cons (pv 0) pa_nil)) pe_int (nomark _)) (pw_and1 (pt_val (pe_own G_is_whole (hr.mono (by first | decide | omega)) (by rfl) p_body (pa_cons (pe_ix (k_ix K rfl) (pv 0) pe_int (fun _ _ => rfl)) (pa_cons pe_int (pa_cons (pe_op o_sub (pv 1) pe_int) pa_nil))))))))) (pss_one (ps_ret (pe_lst (pa_cons pe_int pa_nil)))) pss_nil)
    (pss_cons (ps_if (PW.pt (pw_and (pt_cmpR (k_eq K rfl hr) (pe_ix (k_ix K rfl) (pv 0) pe_int (fun _ _ => rfl)) pe_str (nomark _)) (pw_and1 (pt_cmpR (k_eq K rfl hr) (pe_callB (k_len K rfl) (by rfl) M.len (by decide +kernel) (pa_cons (pv 0) pa_nil)) pe_int (nomark _))))) (pss_one (ps_ret (pe_lst (pa_cons pe_int (pa_cons pe_int (pa_cons pe_int pa_nil)))))) pss_nil)
    (pss_cons (ps_if (PW.pt (pw_and (pt_cmpR (k_eq K rfl hr) (pe_ix (k_ix K rfl) (pv 0) pe_int (fun _ _ => rfl)) pe_str (nomark _)) (pw_and (pt_cmpR (k_eq K rfl hr) (pe_callB (k_len K rfl) (by rfl) M.len (by decide +kernel) (pa_cons (pv 0) pa_nil)) pe_int (nomark _)) (pw_and1 (pt_val (pe_own G_is_whole (hr.mono (by first | decide | omega)) (by rfl) p_body (pa_cons (pe_ix (k_ix K rfl) (pv 0) pe_int (fun _ _ => rfl)) (pa_cons pe_int (pa_cons (pe_op o_sub (pv 2) pe_int) pa_nil))))))))) (pss_one (ps_ret (pe_lst (pa_cons pe_int (pa_cons pe_int pa_nil))))) pss_nil)
    (pss_one (ps_ret pe_non))))))), ?_⟩
  obtain ⟨w, ds, T, C, ⟨p, vs, rfl, hp, hvs, ok⟩, rfl, rfl, q⟩ := h
  have l := hvs.length
  unfold placesOf at q
  refine Fl.go_start (σ0 := [some _, some _, some _]) rfl ?_
  walk_at "s"
  rename_i p1 hp1
  rw [inV_str, inV_str, inV_str, inV_str, inV_nil, Bool.or_false]
  have w1 : (decide (w = "add") || (decide (w = "take") || (decide (w = "least") || decide (w = "most")))) = decide (w = "add" ∨ w = "take" ∨ w = "least" ∨ w = "most") := by simp
  rw [w1]
  by_cases g1 : (w = "add" ∨ w = "take" ∨ w = "least" ∨ w = "most")
  · have n1 : ¬ w = "part" := by rintro rfl; exact absurd g1 (by decide +kernel)
    have n2 : ¬ w = "table" := by rintro rfl; exact absurd g1 (by decide +kernel)
    have n3 : ¬ w = "where" := by rintro rfl; exact absurd g1 (by decide +kernel)
    have n4 : ¬ w = "choose" := by rintro rfl; exact absurd g1 (by decide +kernel)
    refine if_d (fun _ => ?_) (fun c => absurd g1 c)
    walk_at "s"
    refine if_d (fun c2 => ?_) (fun c2 => ?_)
    · have l2 : ds.length = 2 := by simp at c2; omega
      rw [if_pos ⟨g1, l2⟩] at q
      walk_at "s"
      exact plq_some q (by walk_at "sm") (by walk_at "hp") (by rfl)
    · have l2 : ¬ ds.length = 2 := by simp at c2; omega
      simp only [l2, n1, n2, n3, n4, and_false, false_and, if_false] at q
      walk_at "s"
      walk_at "no"
      walk_at "s"
      walk_at "no"
      walk_at "s"
      walk_at "no"
      walk_at "s"
      walk_at "no"
      walk_at "s"
      exact plq_none q (by walk_at "sm")
  refine if_d (fun c => absurd c g1) (fun _ => ?_)
  simp only [g1, false_and, if_false] at q
  walk_at "s"
  by_cases g2 : w = "part"
  · have n2 : ¬ w = "table" := by rw [g2]; decide +kernel
    have n3 : ¬ w = "where" := by rw [g2]; decide +kernel
    have n4 : ¬ w = "choose" := by rw [g2]; decide +kernel
    walk_at "yes"
    walk_at "s"
    simp only [g2, n2, n3, n4, true_and, false_and, if_false] at q
    refine if_d (fun c2 => ?_) (fun c2 => ?_)
    · obtain ⟨d0, d1, v0, v1, rfl, rfl, h0, h1⟩ := hvs.ex2 (by simp at c2; omega)
      walk_at "s"
      simp only [List.getD_cons_succ, List.getD_cons_zero, List.length_cons, List.length_nil, true_and] at q
      refine if_b (fun c3 => ?_) (fun c3 => ?_)
      · rw [if_pos c3] at q
        walk_at "s"
        exact plq_some q (by walk_at "sm") (by walk_at "hp") (by rfl)
      rw [c3] at q
      simp only [if_false, Bool.false_eq_true] at q
      walk_at "s"
      walk_at "no"
      walk_at "s"
      walk_at "no"
      walk_at "s"
      walk_at "no"
      walk_at "s"
      exact plq_none q (by walk_at "sm")
    have l2 : ¬ ds.length = 2 := by simp at c2; omega
    simp only [l2, and_false, false_and, if_false] at q
    walk_at "s"
    walk_at "no"
    walk_at "s"
    walk_at "no"
    walk_at "s"
    walk_at "no"
    walk_at "s"
    exact plq_none q (by walk_at "sm")
  walk_at "no"
  simp only [g2, false_and, if_false] at q
  walk_at "s"
  by_cases g3 : w = "table"
  · have n3 : ¬ w = "where" := by rw [g3]; decide +kernel
    have n4 : ¬ w = "choose" := by rw [g3]; decide +kernel
    walk_at "yes"
    walk_at "s"
    simp only [g3, n3, n4, true_and, false_and, if_false] at q
    refine if_d (fun c2 => ?_) (fun c2 => ?_)
    · obtain ⟨d0, d1, v0, v1, rfl, rfl, h0, h1⟩ := hvs.ex2 (by simp at c2; omega)
      walk_at "s"
      simp only [List.getD_cons_succ, List.getD_cons_zero, List.length_cons, List.length_nil, true_and] at q
      refine if_b (fun c3 => ?_) (fun c3 => ?_)
      · rw [if_pos c3] at q
        walk_at "s"
        exact plq_some q (by walk_at "sm") (by walk_at "hp") (by rfl)
      rw [c3] at q
      simp only [if_false, Bool.false_eq_true] at q
      walk_at "s"
      walk_at "no"
      walk_at "s"
      walk_at "no"
      walk_at "s"
      exact plq_none q (by walk_at "sm")
    have l2 : ¬ ds.length = 2 := by simp at c2; omega
    simp only [l2, and_false, false_and, if_false] at q
    walk_at "s"
    walk_at "no"
    walk_at "s"
    walk_at "no"
    walk_at "s"
    exact plq_none q (by walk_at "sm")
  walk_at "no"
  simp only [g3, false_and, if_false] at q
  walk_at "s"
  by_cases g4 : w = "where"
  · have n4 : ¬ w = "choose" := by rw [g4]; decide +kernel
    walk_at "yes"
    walk_at "s"
    simp only [g4, n4, true_and, false_and, if_false] at q
    refine if_d (fun c2 => ?_) (fun c2 => ?_)
    · have l2 : ds.length = 3 := by simp at c2; omega
      rw [if_pos l2] at q
      walk_at "s"
      exact plq_some q (by walk_at "sm") (by walk_at "hp") (by rfl)
    have l2 : ¬ ds.length = 3 := by simp at c2; omega
    simp only [l2, and_false, false_and, if_false] at q
    walk_at "s"
    walk_at "no"
    walk_at "s"
    exact plq_none q (by walk_at "sm")
  walk_at "no"
  simp only [g4, false_and, if_false] at q
  walk_at "s"
  by_cases g5 : w = "choose"
  · walk_at "yes"
    walk_at "s"
    simp only [g5, true_and] at q
    refine if_d (fun c2 => ?_) (fun c2 => ?_)
    · obtain ⟨d0, d1, d2, v0, v1, v2, rfl, rfl, h0, h1, h2⟩ := hvs.ex3 (by simp at c2; omega)
      walk_at "s"
      simp only [List.getD_cons_succ, List.getD_cons_zero, List.length_cons, List.length_nil, true_and] at q
      refine if_b (fun c3 => ?_) (fun c3 => ?_)
      · rw [if_pos c3] at q
        walk_at "s"
        exact plq_some q (by walk_at "sm") (by walk_at "hp") (by rfl)
      rw [c3] at q
      simp only [if_false, Bool.false_eq_true] at q
      walk_at "s"
      exact plq_none q (by walk_at "sm")
    have l2 : ¬ ds.length = 3 := by simp at c2; omega
    simp only [l2, and_false, false_and, if_false] at q
    walk_at "s"
    exact plq_none q (by walk_at "sm")
  walk_at "no"
  simp only [g5, false_and, if_false] at q
  walk_at "s"
  exact plq_none q (by walk_at "sm")
instance {H : Hp} {Q : VK} {E : XK} {a : V} {T C : Int} : Step (sp_places_of a (.int T) (.int C) H Q E) (∃ w ds, WRule H a w ds ∧ PlQ (placesOf T C w ds) H Q) := ⟨fun ⟨w, ds, h, q⟩ => ⟨w, ds, T, C, h, rfl, rfl, q⟩⟩
end
end Fl

-- after: rl.tpl
namespace Fl
open PySem PySem.Spec PyProof.Rows L2 RZ
/-! ### is_rule -/
mutual
def sz : PyData → Nat
  | .tuple ds | .list ds => 1 + szAll ds
  | _ => 1
def szAll : List PyData → Nat
  | [] => 0
  | d :: ds => sz d + szAll ds
end
theorem sz_pos (d : PyData) : 1 ≤ sz d := by cases d <;> simp [sz]
/-- the parts of a rule that are rules -/
def kids (ds : List PyData) (ps : List Int) : List PyData := ps.map fun i => ds.getD (i.toNat - 1) .none
def isR1 (L T C : Int) (k : PyData → Bool) : PyData → Bool
  | .tuple (.str w :: ds) => decide (1 ≤ ds.length) && match placesOf T C w ds with
    | none => isPlain L w ds
    | some ps => (kids ds ps).all k
  | _ => false
def isR (L T C : Int) : Nat → PyData → Bool
  | 0, _ => false
  | n + 1, d => isR1 L T C (isR L T C n) d
theorem isR_none {L T C : Int} {n : Nat} {d : PyData} (h : ∀ w ds, d ≠ .tuple (.str w :: ds)) : isR L T C n d = false := by
  cases n with
  | zero => rfl
  | succ n =>
    unfold isR isR1
    split
    · exact absurd rfl (h _ _)
    · rfl
theorem isR_short {L T C : Int} {n : Nat} {ds : List PyData} (h : ds.length < 2) : isR L T C n (.tuple ds) = false := by
  cases n with
  | zero => rfl
  | succ n =>
    cases ds with
    | nil => rfl
    | cons d r =>
      have e : r = [] := List.eq_nil_of_length_eq_zero (by simp at h; omega)
      subst e
      cases d <;> rfl
theorem places_cases {T C : Int} {w : Str} {ds : List PyData} {ps : List Int} (h : placesOf T C w ds = some ps) :
    (ps = [1, 2] ∧ ∃ a b, ds = [a, b]) ∨ (ps = [1] ∧ ∃ a b, ds = [a, b]) ∨ (ps = [2] ∧ ∃ a b, ds = [a, b]) ∨ (ps = [1, 2, 3] ∧ ∃ a b c, ds = [a, b, c]) ∨ (ps = [2, 3] ∧ ∃ a b c, ds = [a, b, c]) := by
  have two : ds.length = 2 → ∃ a b, ds = [a, b] := fun l => by
    match ds, l with
    | [a, b], _ => exact ⟨a, b, rfl⟩
  have three : ds.length = 3 → ∃ a b c, ds = [a, b, c] := fun l => by
    match ds, l with
    | [a, b, c], _ => exact ⟨a, b, c, rfl⟩
  unfold placesOf at h
  split at h
  · rename_i g
    exact .inl ⟨(Option.some.inj h).symm, two g.2⟩
  split at h
  · rename_i g
    exact .inr (.inl ⟨(Option.some.inj h).symm, two g.2.1⟩)
  split at h
  · rename_i g
    exact .inr (.inr (.inl ⟨(Option.some.inj h).symm, two g.2.1⟩))
  split at h
  · rename_i g
    exact .inr (.inr (.inr (.inl ⟨(Option.some.inj h).symm, three g.2⟩)))
  split at h
  · rename_i g
    exact .inr (.inr (.inr (.inr ⟨(Option.some.inj h).symm, three g.2.1⟩)))
  · cases h
theorem kids_sz {T C : Int} {w : Str} {ds : List PyData} {ps : List Int} (h : placesOf T C w ds = some ps) : szAll (kids ds ps) < sz (.tuple (.str w :: ds)) := by
  rcases places_cases h with ⟨rfl, a, b, rfl⟩ | ⟨rfl, a, b, rfl⟩ | ⟨rfl, a, b, rfl⟩ | ⟨rfl, a, b, c, rfl⟩ | ⟨rfl, a, b, c, rfl⟩ <;> simp [kids, sz, szAll] <;> omega
theorem kids_mem {T C : Int} {w : Str} {ds : List PyData} {ps : List Int} (h : placesOf T C w ds = some ps) {d : PyData} (m : d ∈ kids ds ps) : d ∈ ds := by
  rcases places_cases h with ⟨rfl, a, b, rfl⟩ | ⟨rfl, a, b, rfl⟩ | ⟨rfl, a, b, rfl⟩ | ⟨rfl, a, b, c, rfl⟩ | ⟨rfl, a, b, c, rfl⟩ <;> simp [kids] at m ⊢ <;> grind
theorem place_at {T C : Int} {w : Str} {ds : List PyData} {ns : List Int} {H : Hp} {us : List V} {i : Nat} {n : Int} (h : placesOf T C w ds = some ns) (e : ns[i]? = some n) (a : AtAll H ds us) :
    ∃ u, atI (.str w :: us) n = some u ∧ At H (ds.getD (n.toNat - 1) .none) u := by
  have m := List.mem_of_getElem? e
  have l := a.length
  rcases places_cases h with ⟨rfl, x, y, rfl⟩ | ⟨rfl, x, y, rfl⟩ | ⟨rfl, x, y, rfl⟩ | ⟨rfl, x, y, z, rfl⟩ | ⟨rfl, x, y, z, rfl⟩
  iterate 3
    · obtain ⟨u0, t, rfl, h0, u1, t', rfl, h1, h2⟩ := a
      simp only [List.mem_cons, List.not_mem_nil, or_false] at m
      first
        | (rcases m with rfl | rfl; exact ⟨u0, atI_1, h0⟩; exact ⟨u1, atI_2, h1⟩)
        | (subst m; exact ⟨u0, atI_1, h0⟩)
        | (subst m; exact ⟨u1, atI_2, h1⟩)
  iterate 2
    · obtain ⟨u0, t, rfl, h0, u1, t', rfl, h1, u2, t2, rfl, h2, h3⟩ := a
      simp only [List.mem_cons, List.not_mem_nil, or_false] at m
      first
        | (rcases m with rfl | rfl | rfl; exact ⟨u0, atI_1, h0⟩; exact ⟨u1, atI_2, h1⟩; exact ⟨u2, atI_3, h2⟩)
        | (rcases m with rfl | rfl; exact ⟨u1, atI_2, h1⟩; exact ⟨u2, atI_3, h2⟩)
theorem szAll_append {a b : List PyData} : szAll (a ++ b) = szAll a + szAll b := by
  induction a with
  | nil => simp [szAll]
  | cons x r ih => simp [szAll, ih]; omega
theorem szAll_len {a : List PyData} : a.length ≤ szAll a := by
  induction a with
  | nil => simp
  | cons x r ih =>
    have := sz_pos x
    simp [szAll]; omega
/-! the work list -/
def PrOne (H0 H : Hp) (x : PyData × Nat) (v : V) : Prop := ∃ p u, v = .ref p ∧ H p = some (.tup [u, .int x.2]) ∧ At H0 x.1 u
def PrAll (H0 H : Hp) : List (PyData × Nat) → List V → Prop
  | [], vs => vs = []
  | x :: r, vs => ∃ v t, vs = v :: t ∧ PrOne H0 H x v ∧ PrAll H0 H r t
theorem PrOne.mono {H0 H H' : Hp} {x : PyData × Nat} {v : V} (h : PrOne H0 H x v) (e : ∀ p xs, H p = some (.tup xs) → H' p = some (.tup xs)) : PrOne H0 H' x v := by
  obtain ⟨p, u, q, hp, hu⟩ := h
  exact ⟨p, u, q, e _ _ hp, hu⟩
theorem PrAll.mono {H0 H H' : Hp} (e : ∀ p xs, H p = some (.tup xs) → H' p = some (.tup xs)) : ∀ {ps : List (PyData × Nat)} {vs : List V}, PrAll H0 H ps vs → PrAll H0 H' ps vs
  | [], _, h => h
  | _ :: _, _, ⟨v, t, q, h, r⟩ => ⟨v, t, q, h.mono e, PrAll.mono e r⟩
theorem PrAll.append {H0 H : Hp} : ∀ {ps qs : List (PyData × Nat)} {vs ws : List V}, PrAll H0 H ps vs → PrAll H0 H qs ws → PrAll H0 H (ps ++ qs) (vs ++ ws)
  | [], _, _, _, h, k => by rw [show _ = _ from h]; exact k
  | _ :: _, _, _, _, ⟨v, t, q, h, r⟩, k => by subst q; exact ⟨v, _, rfl, h, PrAll.append r k⟩
theorem PrAll.length {H0 H : Hp} : ∀ {ps : List (PyData × Nat)} {vs : List V}, PrAll H0 H ps vs → vs.length = ps.length
  | [], _, h => by rw [show _ = _ from h]; rfl
  | _ :: _, _, ⟨v, t, q, _, r⟩ => by rw [q, List.length_cons, List.length_cons, PrAll.length r]
theorem PrAll.last {H0 H : Hp} : ∀ {ps : List (PyData × Nat)} {vs : List V}, PrAll H0 H ps vs → vs ≠ [] → ∃ qs x ws v, ps = qs ++ [x] ∧ vs = ws ++ [v] ∧ PrAll H0 H qs ws ∧ PrOne H0 H x v
  | [], _, h, n => absurd h n
  | [x], _, ⟨v, t, q, h, r⟩, _ => ⟨[], x, [], v, rfl, by rw [q, show t = [] from r]; rfl, rfl, h⟩
  | x :: y :: l, _, ⟨v, t, q, h, r⟩, _ => by
    obtain ⟨qs, z, ws, w, e1, e2, r1, r2⟩ := PrAll.last r (by obtain ⟨_, _, z, _⟩ := r; rw [z]; simp)
    exact ⟨x :: qs, z, v :: ws, w, by rw [e1]; rfl, by rw [q, e2]; rfl, ⟨v, ws, rfl, h, r1⟩, r2⟩
theorem PrAll.dp {K : PySem.W.Frag} {H0 H : Hp} (e : Same H0 H) : ∀ {ps : List (PyData × Nat)} {vs : List V}, PrAll H0 H ps vs → DpAll K H vs (ps.map fun x => .tuple [x.1, .int x.2])
  | [], _, h => by rw [show _ = _ from h]; exact .nil
  | x :: _, _, ⟨v, t, q, ⟨p, u, z, hp, hu⟩, r⟩ => by
    subst z q
    exact .cons (.tup (.of hp) (.cons (At.dp (hu.le (Same.le e))) (.cons (.int _) .nil))) (PrAll.dp e r)
theorem PrAll.lay {ps : List (PyData × Nat)} (h : ∀ x ∈ ps, okD x.1 = true) : PyData.canLayAll0 (ps.map fun x => .tuple [x.1, .int x.2]) = true := by
  induction ps with
  | nil => rfl
  | cons x r ih =>
    simp only [List.map_cons, PyData.canLayAll0, PyData.canLay0, Bool.and_true, Bool.and_eq_true]
    exact ⟨okD_lay _ (h x (List.mem_cons_self ..)), ih fun y m => h y (List.mem_cons_of_mem _ m)⟩
section
variable {P : Program} {w : World} {K : PySem.W.Frag} {mg : Str → Option Value} {base : Heap}
abbrev s_is_rule : Stmt := topS 27
theorem sc_is_rule : FnScope ["thing", "lines", "tables", "choices", "rest", "rule", "deep", "places", "place"] ["thing", "lines", "tables", "choices"] (defScope s_is_rule) := ⟨rfl, rfl, rfl, by decide +kernel, rfl, by decide +kernel, by decide +kernel⟩
def sp_is_rule : Sp4 := fun a b c e H Q _ => ∃ d L T C, At H d a ∧ (okD d = true ∧ sz d ≤ 50000) ∧ b = .int L ∧ c = .int T ∧ e = .int C ∧ ∀ H', Same H H' → Q (.bl (isR L T C 8 d)) H'
theorem ok_is_rule (M : Mg mg) (c_DEEPEST : ∃ t, mg "DEEPEST" = some (.int 8 t)) (G_places_of : Has P w K mg base "places_of" ["rule", "tables", "choices"] 2 (sp3 sp_places_of)) (G_is_plain : Has P w K mg base "is_plain" ["rule", "lines"] 3 (sp2 sp_is_plain))
    (D : DefAt K mg "is_rule" s_is_rule ["thing", "lines", "tables", "choices"]) : Has P w K mg base "is_rule" ["thing", "lines", "tables", "choices"] 4 (sp4 sp_is_rule) := by
  refine .mk4 D sc_is_rule fun f cdv A outer s H a b c e Q E hr h => ⟨_, (pss_cons (ps_set (i := 4) sc_is_rule.nd rfl (by first | exact Or.inl rfl | exact Or.inr rfl) (pe_lst (pa_cons (pe_tup (pa_cons (pv 0) (pa_cons pe_int pa_nil))) pa_nil)))
    (pss_cons (ps_while own_p (pt_cmpR (k_neE K rfl hr) (pv 4) (pe_lst pa_nil) (nomark _)) (pss_cons (ps_asg (k_bm0 K rfl PySem.F.plainAttrs_list PySem.F.slot_list_pop PySem.F.type_list_pop mt_pop (pv 4)) (pg_tup (by rfl) (pgs_cons (pg_name (i := 5) sc_is_rule.nd rfl (by first | exact Or.inl rfl | exact Or.inr rfl)) (pgs_cons (pg_name (i := 6) sc_is_rule.nd rfl (by first | exact Or.inl rfl | exact Or.inr rfl)) pgs_nil))))
    (pss_cons (ps_if (PW.pt (pw_or (pt_not (pt_val (pe_callB (k_isi K rfl) (by rfl) M.isinstance (by decide +kernel) (pa_cons (pv 5) (pa_cons (pe_bltn (v := .ty "tuple") (by rfl) M.tuple (by decide +kernel) rfl) pa_nil))))) (pw_or (pt_cmpR o_lt (pe_callB (k_len K rfl) (by rfl) M.len (by decide +kernel) (pa_cons (pv 5) pa_nil)) pe_int (nomark _)) (pw_or (pt_cmpR o_gt (pv 6) (pe_gi (by rfl) c_DEEPEST) (nomark _)) (pw_or1 (pt_not (pt_val (pe_callB (k_isi K rfl) (by rfl) M.isinstance (by decide +kernel) (pa_cons (pe_ix (k_ix K rfl) (pv 5) pe_int (fun _ _ => rfl)) (pa_cons (pe_bltn (v := .ty "str") (by rfl) M.str (by decide +kernel) rfl) pa_nil)))))))))) (pss_one (ps_ret pe_bl)) pss_nil)
    (pss_cons (ps_set (i := 7) sc_is_rule.nd rfl (by first | exact Or.inl rfl | exact Or.inr rfl) (pe_own G_places_of (hr.mono (by first | decide | omega)) (by rfl) p_body (pa_cons (pv 5) (pa_cons (pv 2) (pa_cons (pv 3) pa_nil)))))
    (pss_cons (ps_if (PW.pt (pw_and (pt_cmpR op_isN (pv 7) pe_non (nomark _)) (pw_and1 (pt_not (pt_val (pe_own G_is_plain (hr.mono (by first | decide | omega)) (by rfl) p_body (pa_cons (pv 5) (pa_cons (pv 1) pa_nil)))))))) (pss_one (ps_ret pe_bl)) pss_nil)
    (pss_one (ps_if (pt_cmpR op_notN (pv 7) pe_non (nomark _)) (pss_one (ps_set (i := 4) sc_is_rule.nd rfl (by first | exact Or.inl rfl | exact Or.inr rfl) (pe_op (k_add K rfl) (pv 4) (pe_lc (own := [("place", 8)]) (g := gName 8) (by rfl) sc_is_rule.nd (k_pi K rfl (pv 7)) (blkOk_by (N := ["thing", "lines", "tables", "choices", "rest", "rule", "deep", "places", "place"]) (sc := (defScope s_is_rule)) (own := [("place", 8)]) (by decide +kernel)) (fun _ _ _ _ _ => (pg_name (i := 8) sc_is_rule.nd rfl (by first | exact Or.inl rfl | exact Or.inr rfl))) (fun _ _ _ _ _ => pts_nil) (fun _ _ _ _ _ => (pe_tup (pa_cons (pe_ix (k_ix K rfl) (pv 5) (pv 8) (fun _ _ => rfl)) (pa_cons (pe_op (k_add K rfl) (pv 6) pe_int) pa_nil)))))))) pss_nil)))))))
    (pss_one (ps_ret pe_bl)))), ?_⟩
  obtain ⟨d, L, T, C, hd, ⟨ok, hsz⟩, rfl, rfl, rfl, q⟩ := h
  refine Fl.go_start (σ0 := [some _, some _, some _, some _, none, none, none, none, none]) rfl ?_
  walk_at "s"
  rename_i p0 hp0 r0 hr0
  refine while_go (fun m σ' H' => ∃ (r : Addr) (ps : List (PyData × Nat)) (vs : List V) (x1 x2 x3 x4 : Option V), σ' = [some a, some (.int L), some (.int T), some (.int C), some (.ref r), x1, x2, x3, x4] ∧
    m = szAll (ps.map (·.1)) ∧ H' r = some (.lst vs) ∧ H r = none ∧ Same H H' ∧ PrAll H H' ps vs ∧ (∀ x ∈ ps, okD x.1 = true ∧ 1 ≤ x.2) ∧ szAll (ps.map (·.1)) ≤ 50000 ∧ isR L T C 8 d = ps.all fun x => isR L T C (9 - x.2) x.1) (sz d)
    ⟨r0, [(d, 1)], [.ref p0], none, none, none, none, rfl, by simp [szAll], by walk_at "hp", L2.Same.free (Same.new (.refl _) hp0) hr0, by walk_at "sm", ⟨_, _, rfl, ⟨p0, a, rfl, (by show _ = some (HO.tup [a, V.int 1]); walk_at "hp"), hd⟩, rfl⟩, by simp [ok], by simp [szAll]; omega, by simp⟩ ?_
  rintro m σ' H' ⟨r, ps, vs, x1, x2, x3, x4, rfl, rfl, hrv, hrf, sm, hps, hok, hle, hres⟩
  walk_at "s"
  rename_i pe hpe
  have tupN : ∀ p xs, H' p = some (.tup xs) → (upd H' pe (.lst [])) p = some (.tup xs) := fun p xs h => Same.new (.refl _) hpe _ _ h
  refine ne_e (by walk_at "hp") (by walk_at "hp") ((hps.mono tupN).dp (by walk_at "sm")) (PrAll.lay fun x m => (hok x m).1) ?_
  walk_at "s"
  by_cases hv : vs = []
  · subst hv
    have e : ps = [] := List.eq_nil_of_length_eq_zero (hps.length.symm)
    subst e
    walk_at "s"
    rw [hres] at q
    exact q _ (by walk_at "sm")
  have hv' : vs.isEmpty = false := by simpa using hv
  rw [hv']
  walk_at "s"
  refine while_turn ?_
  obtain ⟨qs, x, ws, v, rfl, rfl, hq, ⟨p1, u, rfl, hp1, hu⟩⟩ := hps.last hv
  obtain ⟨d1, k⟩ := x
  dsimp only at hp1 hu
  walk_at "s"
  refine ex_v (v := .ref p1) (by simp) ?_
  rw [List.dropLast_concat]
  have hne : p1 ≠ r := fun z => by rw [z, hrv] at hp1; cases hp1
  have hper : pe ≠ r := fun z => by rw [z, hrv] at hpe; cases hpe
  have tup2 : ∀ p xs, H' p = some (.tup xs) → (upd (upd H' pe (.lst [])) r (.lst ws)) p = some (.tup xs) := fun p xs h => by
    rw [upd_ne (fun z => by rw [z, hrv] at h; cases h)]
    exact tupN p xs h
  have q2 := hq.mono tup2
  have h2r : (upd (upd H' pe (.lst [])) r (.lst ws)) r = some (.lst ws) := upd_same
  have h2p := tup2 _ _ hp1
  have sm2 : Same H (upd (upd H' pe (.lst [])) r (.lst ws)) := by walk_at "sm"
  generalize upd (upd H' pe (.lst [])) r (.lst ws) = H2 at *
  have ok1 := (hok (d1, k) (by simp)).1
  have k1 := (hok (d1, k) (by simp)).2
  dsimp only at ok1 k1
  have no : isR L T C (9 - k) d1 = false → isR L T C 8 d = false := fun z => by
    rw [hres, List.all_append]
    simp [z]
  have hok' : ∀ x ∈ qs, okD x.1 = true ∧ 1 ≤ x.2 := fun x m => hok x (List.mem_append_left _ m)
  have szq : szAll (qs.map (·.1)) + sz d1 = szAll ((qs ++ [(d1, k)]).map (·.1)) := by
    rw [List.map_append, szAll_append]
    simp [szAll]
  walk_at "s"
  refine ⟨rfl, ?_⟩
  cases d1 <;> first | exact hu.elim | skip
  all_goals try (cases (show _ = _ from hu))
  case tuple =>
    rename_i ds
    obtain ⟨t, us, rfl, ht, hus⟩ := id hu
    have lu := hus.length
    have ht2 := sm2 _ _ ht
    walk_at "s"
    refine if_d (fun c => ?_) (fun c => ?_)
    · walk_at "s"
      have z := no (isR_short (by omega))
      rw [z] at q
      exact q _ (by walk_at "sm")
    walk_at "s"
    refine if_d (fun c2 => ?_) (fun c2 => ?_)
    · walk_at "s"
      have z := no (by
        rw [show 9 - k = 0 by omega]
        rfl)
      rw [z] at q
      exact q _ (by walk_at "sm")
    cases ds with
    | nil => simp at lu; simp [lu] at c
    | cons d0 ds' =>
    obtain ⟨u0, us', rfl, h0, hus'⟩ := hus
    have okd : okD d0 = true ∧ okAll ds' = true := by simpa [okD, okAll] using ok1
    have hd0 : (∃ w, d0 = .str w) ∨ ∀ w, d0 ≠ .str w := by cases d0 <;> simp
    rcases hd0 with ⟨w, rfl⟩ | hn
    · cases (show _ = _ from h0)
      have l' := hus'.length
      have eR : isR L T C (9 - k) (.tuple (.str w :: ds')) = match placesOf T C w ds' with | none => isPlain L w ds' | some ps => (kids ds' ps).all (isR L T C (9 - (k + 1))) := by
        rw [show 9 - k = (8 - k) + 1 by omega, show 9 - (k + 1) = 8 - k by omega]
        simp only [List.length_cons] at c
        show (decide (1 ≤ ds'.length) && _) = _
        rw [decide_eq_true (by omega), Bool.true_and]
      walk_at "s"
      refine ⟨w, ds', ⟨t, us', rfl, ht2, hus'.le (Same.le sm2), okd.2⟩, ?_⟩
      cases hp : placesOf T C w ds' with
      | none =>
        rw [hp] at eR
        intro H3 sm3
        walk_at "s"
        refine ⟨w, ds', ⟨t, us', rfl, sm3 _ _ ht2, hus'.le (Same.le (L2.Same.trans sm2 sm3)), okd.2⟩, ?_⟩
        walk_at "s"
        rename_i H4 sm4
        cases hpl : isPlain L w ds' with
        | false =>
          have z := no (eR.trans hpl)
          rw [z] at q
          walk_at "s"
          exact q _ (L2.Same.trans sm2 (L2.Same.trans sm3 sm4))
        | true =>
          walk_at "s"
          have lt := sz_pos (.tuple (.str w :: ds'))
          refine ⟨_, ?_, r, qs, ws, _, _, _, _, rfl, rfl, sm4 _ _ (sm3 _ _ h2r), hrf, L2.Same.trans sm2 (L2.Same.trans sm3 sm4), q2.mono (fun p xs h => sm4 _ _ (sm3 _ _ h)), hok', by omega, ?_⟩
          · omega
          · rw [hres, List.all_append]
            simp [eR, hpl]
      | some ns =>
        rw [hp] at eR
        intro pp H3 sm3 hpp
        walk_at "s"
        refine lc_lst (fun D i H' => ∃ acc, H' D = some (.lst acc) ∧ Same H3 H' ∧ PrAll H H' (((kids ds' ns).map fun y => (y, k + 1)).take i) acc) hpp (fun D hD => ⟨[], upd_same, Same.new (.refl _) hD, rfl⟩) (fun D i H' _ _ ⟨_, _, e, _⟩ => e _ _ hpp) (fun D i x H' hD ex ⟨acc, hacc, smD, pacc⟩ => ?_) (fun D H4 hD ⟨acc, hacc, smD, pacc⟩ => ?_)
        · obtain ⟨n, en, rfl⟩ : ∃ n, ns[i]? = some n ∧ x = .int n := by
            rw [List.getElem?_map] at ex
            cases e : ns[i]? with
            | none => rw [e] at ex; cases ex
            | some n => rw [e] at ex; exact ⟨n, rfl, (Option.some.inj ex).symm⟩
          obtain ⟨u, hu1, hu2⟩ := place_at hp en hus'
          have smA : Same H2 H' := L2.Same.trans sm3 smD
          have ht3 := smA _ _ ht2
          walk_at "s"
          refine ⟨rfl, ?_⟩
          walk_at "s"
          refine ex_v hu1 ?_
          walk_at "s"
          rename_i pn hpn
          have la := pacc.length
          rw [List.length_take, List.length_map] at la
          have lk := szAll_len (a := kids ds' ns)
          have ks := kids_sz hp
          have hpD : pn ≠ D := fun z => by rw [z, hacc] at hpn; cases hpn
          have tupF : ∀ p xs, H' p = some (.tup xs) → (upd (upd H' pn (.tup [u, .int (k + 1)])) D (.lst (acc ++ [.ref pn]))) p = some (.tup xs) := fun p xs h => by
            rw [upd_ne (fun z => by rw [z, hacc] at h; cases h)]
            exact Same.new (.refl _) hpn _ _ h
          have ek : ((kids ds' ns).map fun y => (y, k + 1))[i]? = some (ds'.getD (n.toNat - 1) .none, k + 1) := by
            simp [kids, en]
          refine ⟨small_lt (by omega), _, upd_same, Same.mut (Same.new smD hpn) hD, ?_⟩
          rw [← take_snoc ek]
          exact PrAll.append (pacc.mono tupF) ⟨_, [], rfl, ⟨pn, u, rfl, by rw [upd_ne hpD]; exact upd_same, hu2⟩, rfl⟩
        · have la := pacc.length
          have lw := q2.length
          have ek : ((kids ds' ns).map fun y => (y, k + 1)).take (ns.map V.int).length = (kids ds' ns).map fun y => (y, k + 1) := List.take_of_length_le (by simp [kids])
          rw [ek] at pacc la
          rw [List.length_map] at la
          have lk := szAll_len (a := kids ds' ns)
          have lq := szAll_len (a := qs.map (·.1))
          rw [List.length_map] at lq
          have ks := kids_sz hp
          have smA : Same H2 H4 := L2.Same.trans sm3 smD
          walk_at "s"
          rename_i rn hrn
          have eqm : szAll ((qs ++ (kids ds' ns).map fun y => (y, k + 1)).map (·.1)) = szAll (qs.map (·.1)) + szAll (kids ds' ns) := by
            rw [List.map_append, szAll_append, List.map_map]
            simp [Function.comp_def]
          have tupF : ∀ p xs, H4 p = some (.tup xs) → (upd H4 rn (.lst (ws ++ acc))) p = some (.tup xs) := fun p xs h => Same.new (.refl _) hrn _ _ h
          refine ⟨_, ?_, rn, qs ++ (kids ds' ns).map fun y => (y, k + 1), ws ++ acc, _, _, _, _, rfl, rfl, upd_same, L2.Same.free (L2.Same.trans sm2 smA) hrn, Same.new (L2.Same.trans sm2 smA) hrn, PrAll.append (q2.mono fun p xs h => tupF _ _ (smA _ _ h)) (pacc.mono tupF), ?_, ?_, ?_⟩
          · rw [eqm]
            omega
          · intro x hx
            rcases List.mem_append.mp hx with z | z
            · exact hok' x z
            · obtain ⟨y, hy, rfl⟩ := List.mem_map.mp z
              exact ⟨okAll_mem okd.2 (kids_mem hp hy), by simp⟩
          · rw [eqm]
            omega
          · rw [hres, List.all_append, List.all_append, List.all_map]
            simp [eR, Function.comp_def]
    cases d0 <;> first | exact h0.elim | exact absurd rfl (hn _) | skip
    all_goals try (cases (show _ = _ from h0))
    all_goals
      walk_at "s"
      have z := no (isR_none fun w ds h => by simp at h)
      rw [z] at q
      exact q _ (by walk_at "sm")
  all_goals
    walk_at "s"
    have z := no (isR_none fun w ds h => by simp at h)
    rw [z] at q
    exact q _ (by walk_at "sm")
end
end Fl

-- after: r2.tpl
namespace Fl
open PySem PySem.Spec PyProof.Rows L2 RZ
/-! ### named -/
section
variable {P : Program} {w : World} {K : PySem.W.Frag} {mg : Str → Option Value} {base : Heap}
abbrev s_inner_rules : Stmt := topS 28
theorem sc_inner_rules : FnScope ["rule", "part"] ["rule"] (defScope s_inner_rules) := ⟨rfl, rfl, rfl, by decide +kernel, rfl, by decide +kernel, by decide +kernel⟩
def sp_inner_rules : Sp1 := fun a H Q _ => ∃ H0 t v0 vs ds, Same H0 H ∧ a = .ref t ∧ H t = some (.tup (v0 :: vs)) ∧ AtAll H0 ds vs ∧ vs.length ≤ 60000 ∧ ∀ p H' ws, Same H H' → H' p = some (.lst ws) → AtAll H0 (ds.filter isTupD) ws → Q (.ref p) H'
theorem ok_inner_rules (M : Mg mg) (D : DefAt K mg "inner_rules" s_inner_rules ["rule"]) : Has P w K mg base "inner_rules" ["rule"] 1 (sp1 sp_inner_rules) := by
  refine .mk1 D sc_inner_rules fun f cdv A outer s H a Q E hr h => ⟨_, (pss_one (ps_ret (pe_lc (own := [("part", 1)]) (g := gName 1) (by rfl) sc_inner_rules.nd (k_pi K rfl (pe_slice (k_sl K rfl) (pv 0) (po_some pe_int) po_none)) (blkOk_by (N := ["rule", "part"]) (sc := (defScope s_inner_rules)) (own := [("part", 1)]) (by decide +kernel)) (fun _ _ _ _ _ => (pg_name (i := 1) sc_inner_rules.nd rfl (by first | exact Or.inl rfl | exact Or.inr rfl))) (fun _ _ _ _ _ => (pts_one (pt_val (pe_callB (k_isi K rfl) (by rfl) M.isinstance (by decide +kernel) (pa_cons (pv 1) (pa_cons (pe_bltn (v := .ty "tuple") (by rfl) M.tuple (by decide +kernel) rfl) pa_nil)))))) (fun _ _ _ _ _ => (pv 1))))), ?_⟩
  obtain ⟨H0, t, v0, vs, ds, sm0, rfl, ht, hvs, l, q⟩ := h
  have lv := hvs.length
  refine Fl.go_start (σ0 := [some _, none]) rfl ?_
  walk_at "s"
  rename_i p1 H1 sm1 e1
  rw [cut_tail] at e1
  refine lc_tpl (fun D i H' => ∃ acc, H' D = some (.lst acc) ∧ Same H1 H' ∧ AtAll H0 ((ds.take i).filter isTupD) acc) e1 (fun D hD => ⟨[], upd_same, Same.new (.refl _) hD, rfl⟩) (fun D i H' _ _ ⟨_, _, e, _⟩ => e _ _ e1) (fun D i x H' hD ex ⟨acc, hacc, smD, pacc⟩ => ?_) (fun D H4 hD ⟨acc, hacc, smD, pacc⟩ => ?_)
  · obtain ⟨d, ed, hd⟩ := hvs.ix ex
    have la := pacc.length
    have lf := List.length_filter_le isTupD (ds.take i)
    rw [List.length_take] at lf
    refine ⟨rfl, ?_⟩
    rw [← take_snoc ed, List.filter_append]
    cases d <;> first | exact hd.elim | skip
    case tuple =>
      obtain ⟨b, us, rfl, hb, hus⟩ := id hd
      have hb' := smD _ _ (sm1 _ _ (sm0 _ _ hb))
      walk_at "s"
      exact ⟨Same.mut smD hD, pacc.append (AtAll.one hd)⟩
    all_goals try (cases (show _ = _ from hd))
    case list =>
      obtain ⟨b, us, rfl, hb, hus⟩ := id hd
      have hb' := smD _ _ (sm1 _ _ (sm0 _ _ hb))
      walk_at "s"
      simpa [isTupD] using pacc
    all_goals
      walk_at "s"
      simpa [isTupD] using pacc
  · rw [show (List.drop 1 (v0 :: vs)).length = ds.length by simp [lv], List.take_length] at pacc
    walk_at "s"
    exact q _ _ _ (L2.Same.trans sm1 smD) hacc pacc
def InnQ (H0 H : Hp) (ds : List PyData) (R : Addr → Hp → Prop) : Prop := ∀ p H' ws, Same H H' → H' p = some (.lst ws) → AtAll H0 (ds.filter isTupD) ws → R p H'
instance {H : Hp} {Q : VK} {E : XK} {a : V} : Step (sp_inner_rules a H Q E) (∃ H0 t v0 vs ds, Same H0 H ∧ a = .ref t ∧ H t = some (.tup (v0 :: vs)) ∧ AtAll H0 ds vs ∧ vs.length ≤ 60000 ∧ InnQ H0 H ds fun p H' => Q (.ref p) H') := ⟨fun h => h⟩
end
end Fl

-- after: r3.tpl
namespace Fl
open PySem PySem.Spec PyProof.Rows L2 RZ
theorem places_none {T C : Int} {w : Str} {ds : List PyData} (h1 : ¬ (w = "add" ∨ w = "take" ∨ w = "least" ∨ w = "most")) (h2 : ¬ w = "part") (h3 : ¬ w = "table") (h4 : ¬ w = "where") (h5 : ¬ w = "choose") : placesOf T C w ds = none := by
  simp only [placesOf, h1, h2, h3, h4, h5, false_and, if_false]
theorem places_part {T C : Int} {ds : List PyData} : placesOf T C "part" ds = if ds.length = 2 ∧ isWhole (ds.getD 1 .none) 0 100 = true then some [1] else none := by
  have n1 : ¬ ((("part" : Str) = "add" ∨ ("part" : Str) = "take" ∨ ("part" : Str) = "least" ∨ ("part" : Str) = "most")) := by decide +kernel
  have n3 : ¬ ("part" : Str) = "table" := by decide +kernel
  have n4 : ¬ ("part" : Str) = "where" := by decide +kernel
  have n5 : ¬ ("part" : Str) = "choose" := by decide +kernel
  simp only [placesOf, n1, n3, n4, n5, eq_self, true_and, false_and, if_false]
theorem places_table {T C : Int} {ds : List PyData} : placesOf T C "table" ds = if ds.length = 2 ∧ isWhole (ds.getD 0 .none) 0 (T - 1) = true then some [2] else none := by
  have n1 : ¬ ((("table" : Str) = "add" ∨ ("table" : Str) = "take" ∨ ("table" : Str) = "least" ∨ ("table" : Str) = "most")) := by decide +kernel
  have n2 : ¬ ("table" : Str) = "part" := by decide +kernel
  have n4 : ¬ ("table" : Str) = "where" := by decide +kernel
  have n5 : ¬ ("table" : Str) = "choose" := by decide +kernel
  simp only [placesOf, n1, n2, n4, n5, eq_self, true_and, false_and, if_false]
theorem places_choose {T C : Int} {ds : List PyData} : placesOf T C "choose" ds = if ds.length = 3 ∧ isWhole (ds.getD 0 .none) 0 (C - 1) = true then some [2, 3] else none := by
  have n1 : ¬ ((("choose" : Str) = "add" ∨ ("choose" : Str) = "take" ∨ ("choose" : Str) = "least" ∨ ("choose" : Str) = "most")) := by decide +kernel
  have n2 : ¬ ("choose" : Str) = "part" := by decide +kernel
  have n3 : ¬ ("choose" : Str) = "table" := by decide +kernel
  have n4 : ¬ ("choose" : Str) = "where" := by decide +kernel
  simp only [placesOf, n1, n2, n3, n4, eq_self, true_and, false_and, if_false]
theorem places_where {T C : Int} {ds : List PyData} : placesOf T C "where" ds = if ds.length = 3 then some [1, 2, 3] else none := by
  have n1 : ¬ ((("where" : Str) = "add" ∨ ("where" : Str) = "take" ∨ ("where" : Str) = "least" ∨ ("where" : Str) = "most")) := by decide +kernel
  have n2 : ¬ ("where" : Str) = "part" := by decide +kernel
  have n3 : ¬ ("where" : Str) = "table" := by decide +kernel
  have n5 : ¬ ("where" : Str) = "choose" := by decide +kernel
  simp only [placesOf, n1, n2, n3, n5, eq_self, true_and, false_and, if_false]
theorem places_four {T C : Int} {w : Str} {ds : List PyData} (h : (w = "add" ∨ w = "take" ∨ w = "least" ∨ w = "most")) : placesOf T C w ds = if ds.length = 2 then some [1, 2] else none := by
  have n2 : ¬ w = "part" := by rcases h with h | h | h | h <;> (rw [h]; decide +kernel)
  have n3 : ¬ w = "table" := by rcases h with h | h | h | h <;> (rw [h]; decide +kernel)
  have n4 : ¬ w = "where" := by rcases h with h | h | h | h <;> (rw [h]; decide +kernel)
  have n5 : ¬ w = "choose" := by rcases h with h | h | h | h <;> (rw [h]; decide +kernel)
  simp only [placesOf, h, n2, n3, n4, n5, true_and, false_and, if_false]
theorem whole_cases (d : PyData) : (∃ i, d = .int i) ∨ ((isIntD d && !isBoolD d) = false ∧ ∀ lo hi, isWhole d lo hi = false) := by
  cases d <;> simp [isIntD, isBoolD, isWhole]
end Fl

-- after: rq.tpl
namespace Fl
open PySem PySem.Spec PyProof.Rows L2 RZ
/-! ### values of one kind, sorted: whole numbers (false), texts (true) -/
def okK : Bool → V → Prop
  | false, v => ∃ i, v = .int i
  | true, v => ∃ s, v = .str s
def leV : V → V → Prop
  | .int i, .int j => i ≤ j
  | .str x, .str y => x.cps.toList ≤ y.cps.toList
  | _, _ => False
theorem leV_antisymm {b : Bool} {x y : V} (hx : okK b x) (hy : okK b y) (h1 : leV x y) (h2 : leV y x) : x = y := by
  cases b with
  | false =>
    obtain ⟨i, rfl⟩ := hx
    obtain ⟨j, rfl⟩ := hy
    exact congrArg V.int (Int.le_antisymm h1 h2)
  | true =>
    obtain ⟨i, rfl⟩ := hx
    obtain ⟨j, rfl⟩ := hy
    have e : i.cps.toList = j.cps.toList := List.le_antisymm h1 h2
    have e2 : i.cps = j.cps := Array.toList_inj.mp e
    obtain ⟨i⟩ := i
    obtain ⟨j⟩ := j
    exact congrArg V.str (congrArg Str.mk e2)
/-- the one sorted list without doubles of these values -/
structure Canon (b : Bool) (ys vs : List V) : Prop where
  ok : ∀ v ∈ ys, okK b v
  up : ys.Pairwise leV
  nd : ys.Nodup
  mem : ∀ v, v ∈ ys ↔ v ∈ vs
theorem sorted_eq {b : Bool} : ∀ {xs ys : List V}, (∀ v ∈ xs, okK b v) → xs.Pairwise leV → ys.Pairwise leV → xs.Nodup → ys.Nodup → (∀ v, v ∈ xs ↔ v ∈ ys) → xs = ys
  | [], ys, _, _, _, _, _, m => by
    cases ys with
    | nil => rfl
    | cons y r => exact absurd ((m y).mpr (List.mem_cons_self ..)) (List.not_mem_nil)
  | x :: r, [], _, _, _, _, _, m => absurd ((m x).mp (List.mem_cons_self ..)) (List.not_mem_nil)
  | x :: r, y :: t, ok, u1, u2, n1, n2, m => by
    have oy : okK b y := ok y ((m y).mpr (List.mem_cons_self ..))
    have ox := ok x (List.mem_cons_self ..)
    have u1' := List.pairwise_cons.mp u1
    have u2' := List.pairwise_cons.mp u2
    have n1' := List.nodup_cons.mp n1
    have n2' := List.nodup_cons.mp n2
    have e : x = y := by
      rcases List.mem_cons.mp ((m x).mp (List.mem_cons_self ..)) with z | z
      · exact z
      rcases List.mem_cons.mp ((m y).mpr (List.mem_cons_self ..)) with z' | z'
      · exact z'.symm
      exact leV_antisymm ox oy (u1'.1 y z') (u2'.1 x z)
    subst e
    refine congrArg (x :: ·) (sorted_eq (fun v hv => ok v (List.mem_cons_of_mem _ hv)) u1'.2 u2'.2 n1'.2 n2'.2 fun v => ?_)
    constructor
    · intro hv
      rcases List.mem_cons.mp ((m v).mp (List.mem_cons_of_mem _ hv)) with z | z
      · exact absurd (z ▸ hv) n1'.1
      · exact z
    · intro hv
      rcases List.mem_cons.mp ((m v).mpr (List.mem_cons_of_mem _ hv)) with z | z
      · exact absurd (z ▸ hv) n2'.1
      · exact z
theorem Canon.eq {b : Bool} {xs ys vs : List V} (h : Canon b xs vs) (k : Canon b ys vs) : xs = ys :=
  sorted_eq h.ok h.up k.up h.nd k.nd fun v => (h.mem v).trans (k.mem v).symm
theorem risingS_pw : ∀ {l : List Str} {p : Str}, risingS p l = true → (p :: l).Pairwise (fun a b => a.cps.toList ≤ b.cps.toList)
  | [], _, _ => List.pairwise_singleton _ _
  | x :: r, p, h => by
    have h' : (!ltCps x.cps.toList p.cps.toList && risingS x r) = true := h
    rw [Bool.and_eq_true, ltCps_eq] at h'
    have h1 : p.cps.toList ≤ x.cps.toList := by
      have := h'.1
      simp at this
      exact this
    have ih := risingS_pw h'.2
    refine List.pairwise_cons.mpr ⟨fun y hy => ?_, ih⟩
    rcases List.mem_cons.mp hy with rfl | hy
    · exact h1
    · exact List.le_trans h1 ((List.pairwise_cons.mp ih).1 y hy)
theorem sortedS_pw {l : List Str} (h : sortedS l = true) : l.Pairwise (fun a b => a.cps.toList ≤ b.cps.toList) := by
  cases l with
  | nil => exact List.Pairwise.nil
  | cons x r => exact risingS_pw h
def uSort (K : PySem.W.Frag) : List V → Hp → VK → Prop := fun vs H Q => rSortedI K vs H Q ∨ rSortedS K vs H Q
theorem k_sortU (K : PySem.W.Frag) {X : Cx} (h : X.K = K) : CallR X (.builtin "sorted") (uSort K) := by
  subst h
  intro pins s σ H vs us Q I r h
  rcases h with h | h
  · exact cr_sortedI pins s σ H vs us Q I r h
  · exact cr_sortedS pins s σ H vs us Q I r h
theorem ints_of {xs : List V} (h : ∀ v ∈ xs, okK false v) : ∃ ns : List Int, xs = ns.map V.int := by
  induction xs with
  | nil => exact ⟨[], rfl⟩
  | cons x r ih =>
    obtain ⟨i, rfl⟩ := h x (List.mem_cons_self ..)
    obtain ⟨ns, rfl⟩ := ih fun v hv => h v (List.mem_cons_of_mem _ hv)
    exact ⟨i :: ns, rfl⟩
theorem strs_of {xs : List V} (h : ∀ v ∈ xs, okK true v) : ∃ ns : List Str, xs = ns.map V.str := by
  induction xs with
  | nil => exact ⟨[], rfl⟩
  | cons x r ih =>
    obtain ⟨i, rfl⟩ := h x (List.mem_cons_self ..)
    obtain ⟨ns, rfl⟩ := ih fun v hv => h v (List.mem_cons_of_mem _ hv)
    exact ⟨i :: ns, rfl⟩
theorem sort_k {K : PySem.W.Frag} {H : Hp} {Q : VK} {a : Addr} {xs vs : List V} {b : Bool} (ha : H a = some (.lst xs)) (ok : ∀ v ∈ xs, okK b v) (nd : xs.Nodup) (few : b = true → xs.length < 64) (mem : ∀ v, v ∈ xs ↔ v ∈ vs)
    (q : ∀ (ys : List V) (p : Addr), Canon b ys vs → H p = none → Q (.ref p) (upd H p (.lst ys))) : uSort K [.ref a] H Q := by
  cases b with
  | false =>
    obtain ⟨ns, rfl⟩ := ints_of ok
    refine .inl ⟨a, ns, rfl, .of ha, fun ns' p pm up hp => q _ p ⟨fun v hv => ?_, ?_, ?_, fun v => ?_⟩ hp⟩
    · obtain ⟨i, _, rfl⟩ := List.mem_map.mp hv
      exact ⟨i, rfl⟩
    · exact List.pairwise_map.mpr up
    · exact (pm.map V.int).nodup_iff.mpr nd
    · exact ((pm.map V.int).mem_iff).trans (mem v)
  | true =>
    obtain ⟨ns, rfl⟩ := strs_of ok
    refine .inr ⟨a, ns, rfl, .of ha, by simpa using few rfl, fun ns' p pm up hp => q _ p ⟨fun v hv => ?_, ?_, ?_, fun v => ?_⟩ hp⟩
    · obtain ⟨i, _, rfl⟩ := List.mem_map.mp hv
      exact ⟨i, rfl⟩
    · exact List.pairwise_map.mpr (sortedS_pw up)
    · exact (pm.map V.str).nodup_iff.mpr nd
    · exact ((pm.map V.str).mem_iff).trans (mem v)
theorem eqV_k {b : Bool} {x y : V} (hx : okK b x) (hy : okK b y) : eqV y x = decide (x = y) := by
  cases b with
  | false =>
    obtain ⟨i, rfl⟩ := hx
    obtain ⟨j, rfl⟩ := hy
    show (j == i) = _
    by_cases h : i = j
    · subst h; simp
    · simp [h, Ne.symm h]
  | true =>
    obtain ⟨i, rfl⟩ := hx
    obtain ⟨j, rfl⟩ := hy
    show (j == i) = _
    by_cases h : i = j
    · subst h; simp
    · simp [h, Ne.symm h]
theorem inV_k {b : Bool} {x : V} {xs : List V} (hx : okK b x) (h : ∀ v ∈ xs, okK b v) : inV x xs = decide (x ∈ xs) := by
  induction xs with
  | nil => simp [inV]
  | cons y r ih =>
    show (eqV y x || inV x r) = _
    rw [eqV_k hx (h y (List.mem_cons_self ..)), ih fun v hv => h v (List.mem_cons_of_mem _ hv)]
    simp [List.mem_cons]
end Fl

-- after: r5.tpl
namespace Fl
open PySem PySem.Spec PyProof.Rows L2 RZ
/-! ### the values that a word names in a good rule -/
def vOf : PyData → V
  | .int i => .int i
  | .str s => .str s
  | _ => .non
def vals (word : Str) : Nat → PyData → List V
  | 0, _ => []
  | n + 1, d => match d with
    | .tuple (.str w :: ds) => (if w = word then [vOf (ds.getD 0 .none)] else []) ++ (ds.filter isTupD).flatMap (vals word n)
    | _ => []
def fiveW (b : Bool) (w : Str) : Prop := (b = true ∧ w = "paper") ∨ (b = false ∧ (w = "line" ∨ w = "earlier" ∨ w = "table" ∨ w = "choose"))
theorem isWhole_int {d : PyData} {lo hi : Int} (h : isWhole d lo hi = true) : ∃ i, d = .int i := by
  cases d <;> simp [isWhole] at h
  exact ⟨_, rfl⟩
theorem isWord_str {d : PyData} (h : isWord d = true) : ∃ s, d = .str s := by
  cases d <;> simp [isWord] at h
  exact ⟨_, rfl⟩
theorem good_shape {L T C : Int} {n : Nat} {d : PyData} (h : isR L T C n d = true) : ∃ m w ds, n = m + 1 ∧ d = .tuple (.str w :: ds) ∧ 1 ≤ ds.length ∧ (match placesOf T C w ds with | none => isPlain L w ds | some ps => (kids ds ps).all (isR L T C m)) = true := by
  cases n with
  | zero => cases h
  | succ m =>
    unfold isR isR1 at h
    split at h
    · rename_i w ds
      rw [Bool.and_eq_true] at h
      exact ⟨m, w, ds, rfl, rfl, of_decide_eq_true h.1, h.2⟩
    · cases h
theorem isR_tup {L T C : Int} {n : Nat} {d : PyData} (h : isR L T C n d = true) : isTupD d = true := by
  obtain ⟨m, w, ds, _, rfl, _⟩ := good_shape h
  rfl
theorem plain_one {L : Int} {w : Str} {ds : List PyData} (h : isPlain L w ds = true) : (∃ i, ds = [.int i]) ∨ ∃ s, ds = [.str s] := by
  unfold isPlain at h
  split at h
  · rw [Bool.and_eq_true] at h
    have l := of_decide_eq_true h.1
    match ds, l with
    | [x], _ =>
      obtain ⟨i, e⟩ := isWhole_int (show isWhole x _ _ = true from h.2)
      exact .inl ⟨i, by rw [e]⟩
  split at h
  · rw [Bool.and_eq_true] at h
    have l := of_decide_eq_true h.1
    match ds, l with
    | [x], _ =>
      obtain ⟨i, e⟩ := isWord_str (show isWord x = true from h.2)
      exact .inr ⟨i, by rw [e]⟩
  · rw [Bool.and_eq_true, Bool.and_eq_true] at h
    have l := of_decide_eq_true h.1.2
    match ds, l with
    | [x], _ =>
      obtain ⟨i, e⟩ := isWhole_int (show isWhole x _ _ = true from h.2)
      exact .inl ⟨i, by rw [e]⟩
theorem tups_kids {T C : Int} {w : Str} {ds : List PyData} {ps : List Int} (h : placesOf T C w ds = some ps) {d : PyData} (m : d ∈ ds) (t : isTupD d = true) : d ∈ kids ds ps := by
  have no : ∀ {x : PyData} {lo hi : Int}, isWhole x lo hi = true → ¬ isTupD x = true := fun hx ht => by
    obtain ⟨i, rfl⟩ := isWhole_int hx
    cases ht
  have hc := places_cases h
  unfold placesOf at h
  rcases hc with ⟨rfl, a, b, rfl⟩ | ⟨rfl, a, b, rfl⟩ | ⟨rfl, a, b, rfl⟩ | ⟨rfl, a, b, c, rfl⟩ | ⟨rfl, a, b, c, rfl⟩
  · simpa [kids] using m
  · have hb : isWhole b 0 100 = true := by
      simp only [List.length_cons, List.length_nil, List.getD_cons_zero, List.getD_cons_succ] at h
      split at h
      · simp at h
      split at h
      · rename_i g
        exact g.2.2
      split at h
      · simp at h
      split at h
      · simp at h
      split at h
      · simp at h
      · cases h
    simp only [List.mem_cons, List.not_mem_nil, or_false] at m
    rcases m with rfl | rfl
    · simp [kids]
    · exact absurd t (no hb)
  · have hb : isWhole a 0 (T - 1) = true := by
      simp only [List.length_cons, List.length_nil, List.getD_cons_zero, List.getD_cons_succ] at h
      split at h
      · simp at h
      split at h
      · simp at h
      split at h
      · rename_i g
        exact g.2.2
      split at h
      · simp at h
      split at h
      · simp at h
      · cases h
    simp only [List.mem_cons, List.not_mem_nil, or_false] at m
    rcases m with rfl | rfl
    · exact absurd t (no hb)
    · simp [kids]
  · simpa [kids] using m
  · have hb : isWhole a 0 (C - 1) = true := by
      simp only [List.length_cons, List.length_nil, List.getD_cons_zero, List.getD_cons_succ] at h
      split at h
      · simp at h
      split at h
      · simp at h
      split at h
      · simp at h
      split at h
      · simp at h
      split at h
      · rename_i g
        exact g.2.2
      · cases h
    simp only [List.mem_cons, List.not_mem_nil, or_false] at m
    rcases m with rfl | rfl | rfl
    · exact absurd t (no hb)
    · simp [kids]
    · simp [kids]
/-- the parts of a good rule -/
theorem good_tups {L T C : Int} {m : Nat} {w : Str} {ds : List PyData} (h : isR L T C (m + 1) (.tuple (.str w :: ds)) = true) {d : PyData} (hd : d ∈ ds) (t : isTupD d = true) : isR L T C m d = true := by
  obtain ⟨m', w', ds', e1, e2, _, h⟩ := good_shape h
  cases e1
  cases e2
  cases hp : placesOf T C w ds with
  | none =>
    rw [hp] at h
    rcases plain_one h with ⟨i, rfl⟩ | ⟨i, rfl⟩
    · rw [List.mem_singleton.mp hd] at t
      cases t
    · rw [List.mem_singleton.mp hd] at t
      cases t
  | some ps =>
    rw [hp] at h
    exact List.all_eq_true.mp h d (tups_kids hp hd t)
theorem good_val {L T C : Int} {m : Nat} {b : Bool} {w : Str} {ds : List PyData} (h : isR L T C (m + 1) (.tuple (.str w :: ds)) = true) (f : fiveW b w) : okK b (vOf (ds.getD 0 .none)) := by
  obtain ⟨m', w', ds', e1, e2, _, h⟩ := good_shape h
  cases e1
  cases e2
  rcases f with ⟨rfl, rfl⟩ | ⟨rfl, f⟩
  · rw [places_none (by decide +kernel) (by decide +kernel) (by decide +kernel) (by decide +kernel) (by decide +kernel)] at h
    have h' : isPlain L "paper" ds = true := h
    unfold isPlain at h'
    rw [if_neg (by decide +kernel), if_pos rfl, Bool.and_eq_true] at h'
    obtain ⟨s, e⟩ := isWord_str h'.2
    exact ⟨s, by rw [e]; rfl⟩
  · rcases f with rfl | rfl | rfl | rfl
    · rw [places_none (by decide +kernel) (by decide +kernel) (by decide +kernel) (by decide +kernel) (by decide +kernel)] at h
      have h' : isPlain L "line" ds = true := h
      unfold isPlain at h'
      rw [if_neg (by decide +kernel), if_neg (by decide +kernel), Bool.and_eq_true] at h'
      obtain ⟨s, e⟩ := isWhole_int h'.2
      exact ⟨s, by rw [e]; rfl⟩
    · rw [places_none (by decide +kernel) (by decide +kernel) (by decide +kernel) (by decide +kernel) (by decide +kernel)] at h
      have h' : isPlain L "earlier" ds = true := h
      unfold isPlain at h'
      rw [if_neg (by decide +kernel), if_neg (by decide +kernel), Bool.and_eq_true] at h'
      obtain ⟨s, e⟩ := isWhole_int h'.2
      exact ⟨s, by rw [e]; rfl⟩
    · rw [places_table] at h
      by_cases c : ds.length = 2 ∧ isWhole (ds.getD 0 .none) 0 (T - 1) = true
      · obtain ⟨s, e⟩ := isWhole_int c.2
        exact ⟨s, by rw [e]; rfl⟩
      · rw [if_neg c] at h
        have h' : isPlain L "table" ds = true := h
        unfold isPlain at h'
        rw [if_neg (by decide +kernel), if_neg (by decide +kernel), show (decide (("table" : Str) = "line") || decide (("table" : Str) = "earlier")) = false by decide +kernel] at h'
        simp at h'
    · rw [places_choose] at h
      by_cases c : ds.length = 3 ∧ isWhole (ds.getD 0 .none) 0 (C - 1) = true
      · obtain ⟨s, e⟩ := isWhole_int c.2
        exact ⟨s, by rw [e]; rfl⟩
      · rw [if_neg c] at h
        have h' : isPlain L "choose" ds = true := h
        unfold isPlain at h'
        rw [if_neg (by decide +kernel), if_neg (by decide +kernel), show (decide (("choose" : Str) = "line") || decide (("choose" : Str) = "earlier")) = false by decide +kernel] at h'
        simp at h'
theorem vals_ok {L T C : Int} {b : Bool} {w : Str} (f : fiveW b w) : ∀ {n : Nat} {d : PyData}, isR L T C n d = true → ∀ v ∈ vals w n d, okK b v
  | 0, _, h => by cases h
  | n + 1, d, h => by
    obtain ⟨m', w', ds, e1, rfl, _, _⟩ := good_shape h
    intro v hv
    simp only [vals, List.mem_append, List.mem_flatMap] at hv
    rcases hv with hv | ⟨e, he, hv⟩
    · by_cases c : w' = w
      · subst c
        rw [if_pos rfl] at hv
        rw [List.mem_singleton.mp hv]
        exact good_val h f
      · rw [if_neg c] at hv
        cases hv
    · obtain ⟨he1, he2⟩ := List.mem_filter.mp he
      exact vals_ok f (good_tups h he1 he2) v hv
end Fl

-- after: rl.tpl
namespace Fl
open PySem PySem.Spec PyProof.Rows L2 RZ
/-! ### short texts that are made -/
def OkT (n : Nat) (s : Str) : Prop := (∀ c ∈ s.cps.toList, c < 1114112) ∧ s.length ≤ n
theorem OkT.mono {n k : Nat} {s : Str} (h : OkT n s) (l : n ≤ k) : OkT k s := ⟨h.1, Nat.le_trans h.2 l⟩
theorem OkT.append {n k : Nat} {s t : Str} (h : OkT n s) (g : OkT k t) : OkT (n + k) (s ++ t) := by
  refine ⟨fun c hc => ?_, ?_⟩
  · have e : (s ++ t).cps = s.cps ++ t.cps := rfl
    rw [e, Array.toList_append, List.mem_append] at hc
    exact hc.elim (h.1 c) (g.1 c)
  · have e : (s ++ t).length = s.length + t.length := by
      show (s.cps ++ t.cps).size = _
      rw [Array.size_append]
      rfl
    have h2 := h.2
    have g2 := g.2
    omega
theorem OkT.ok {n : Nat} {s : Str} (h : OkT n s) (l : n ≤ 1000) : okD (.str s) = true := by
  simp only [okD, Bool.and_eq_true, PyData.canLay0]
  refine ⟨?_, decide_eq_true (Nat.le_trans h.2 l)⟩
  show s.cps.all (fun c => decide (c < 0x110000)) = true
  rw [Array.all_eq_true']
  intro c hc
  exact decide_eq_true (h.1 c (by simpa using hc))
theorem letters_ok : ∀ c ∈ letters.cps.toList, c < 1114112 := by decide +kernel
theorem OkT.sign {c : Nat} (h : c ∈ letters.cps.toList) : OkT 1 ⟨#[c]⟩ := ⟨fun d hd => by
  have e : d = c := by simpa using hd
  rw [e]
  exact letters_ok c h, Nat.le_refl _⟩
theorem OkT.cut {n : Nat} {s : Str} (h : OkT n s) (lo hi : Option Int) : OkT n (cutS s lo hi) :=
  ⟨fun c hc => h.1 c (by
    have hc' : c ∈ ((s.cps.toList.drop (HT.sIx s.length 0 lo)).take (HT.sIx s.length s.length hi - HT.sIx s.length 0 lo)) := by simpa [cutS] using hc
    exact List.mem_of_mem_drop (List.mem_of_mem_take hc')), Nat.le_trans (cutS_length s lo hi) h.2⟩
theorem atI_letter {r : Int} (h0 : 0 ≤ r) (h1 : r < 26) : ∃ c, atI letters.cps.toList r = some c ∧ c ∈ letters.cps.toList := by
  obtain ⟨v, h, _, m⟩ := atI_range (xs := letters.cps.toList) h0 (by
    have : letters.cps.toList.length = 26 := by decide +kernel
    omega)
  exact ⟨v, h, m⟩
end Fl

-- after: r9.tpl
namespace Fl
open PySem PySem.Spec PyProof.Rows L2 RZ
/-! every text of d lies in the pool -/
mutual
def inP (pool : List Str) : PyData → Bool
  | .none | .bool _ | .int _ => true
  | .str x => decide (x ∈ pool)
  | .list ds | .tuple ds => inPs pool ds
  | .dict _ => false
def inPs (pool : List Str) : List PyData → Bool
  | [] => true
  | d :: ds => inP pool d && inPs pool ds
end
mutual
theorem inP_ok {pool : List Str} (hp : ∀ s ∈ pool, OkT 1000 s) : ∀ d : PyData, inP pool d = true → okD d = true
  | .none, _ | .bool _, _ | .int _, _ => rfl
  | .str x, h => by
    simp only [inP] at h
    exact (hp x (of_decide_eq_true h)).ok (Nat.le_refl _)
  | .list ds, h | .tuple ds, h => by
    simp only [inP] at h
    simp only [okD]
    exact inPs_ok hp ds h
  | .dict _, h => by simp [inP] at h
theorem inPs_ok {pool : List Str} (hp : ∀ s ∈ pool, OkT 1000 s) : ∀ ds : List PyData, inPs pool ds = true → okAll ds = true
  | [], _ => rfl
  | d :: ds, h => by
    simp only [inPs, Bool.and_eq_true] at h
    simp only [okAll, Bool.and_eq_true]
    exact ⟨inP_ok hp d h.1, inPs_ok hp ds h.2⟩
end
theorem inPs_mem {pool : List Str} {ds : List PyData} (h : inPs pool ds = true) {d : PyData} (m : d ∈ ds) : inP pool d = true := by
  induction ds with
  | nil => cases m
  | cons e r ih =>
    simp only [inPs, Bool.and_eq_true] at h
    rcases List.mem_cons.mp m with z | z
    · rw [z]; exact h.1
    · exact ih h.2 z
end Fl

-- after: r6.tpl r11.tpl
namespace Fl
open PySem PySem.Spec PyProof.Rows L2 RZ
/-! ### rules as trees -/
inductive Rule where
  | num (n : Int)
  | paper (w : Str)
  | line (k : Int)
  | earl (k : Int)
  | two (w : Str) (a b : Rule)
  | part (a : Rule) (p : Int)
  | table (k : Int) (a : Rule)
  | wher (a b c : Rule)
  | choo (k : Int) (a b : Rule)
def Rule.d : Rule → PyData
  | .num n => .tuple [.str "number", .int n]
  | .paper w => .tuple [.str "paper", .str w]
  | .line k => .tuple [.str "line", .int k]
  | .earl k => .tuple [.str "earlier", .int k]
  | .two w a b => .tuple [.str w, a.d, b.d]
  | .part a p => .tuple [.str "part", a.d, .int p]
  | .table k a => .tuple [.str "table", .int k, a.d]
  | .wher a b c => .tuple [.str "where", a.d, b.d, c.d]
  | .choo k a b => .tuple [.str "choose", .int k, a.d, b.d]
/-- what the rules of a form are drawn from -/
structure Sg where
  L : Int
  T : Int
  C : Int
  seen : List Int
  pool : List Str
def op4 (w : Str) : Prop := w = "add" ∨ w = "take" ∨ w = "least" ∨ w = "most"
def Rule.ok (g : Sg) : Nat → Rule → Prop
  | 0, _ => False
  | _ + 1, .num k => -1000000000 ≤ k ∧ k ≤ 1000000000
  | _ + 1, .paper w => w ∈ g.pool
  | _ + 1, .line k => k ∈ g.seen
  | _ + 1, .earl k => 0 ≤ k ∧ k < g.L
  | n + 1, .two w a b => op4 w ∧ a.ok g n ∧ b.ok g n
  | n + 1, .part a p => (0 ≤ p ∧ p ≤ 100) ∧ a.ok g n
  | n + 1, .table k a => (0 ≤ k ∧ k < g.T) ∧ a.ok g n
  | n + 1, .wher a b c => a.ok g n ∧ b.ok g n ∧ c.ok g n
  | n + 1, .choo k a b => (0 ≤ k ∧ k < g.C) ∧ a.ok g n ∧ b.ok g n
theorem Rule.ok_succ {g : Sg} : ∀ {n : Nat} {r : Rule}, r.ok g n → r.ok g (n + 1)
  | 0, _, h => h.elim
  | _ + 1, .num _, h => h
  | _ + 1, .paper _, h => h
  | _ + 1, .line _, h => h
  | _ + 1, .earl _, h => h
  | _ + 1, .two _ _ _, h => ⟨h.1, ok_succ h.2.1, ok_succ h.2.2⟩
  | _ + 1, .part _ _, h => ⟨h.1, ok_succ h.2⟩
  | _ + 1, .table _ _, h => ⟨h.1, ok_succ h.2⟩
  | _ + 1, .wher _ _ _, h => ⟨ok_succ h.1, ok_succ h.2.1, ok_succ h.2.2⟩
  | _ + 1, .choo _ _ _, h => ⟨h.1, ok_succ h.2.1, ok_succ h.2.2⟩
theorem Rule.ok_mono {g : Sg} {r : Rule} {n m : Nat} (l : n ≤ m) (h : r.ok g n) : r.ok g m := by
  induction l with
  | refl => exact h
  | step _ ih => exact ok_succ ih
/-- .. with more lines that may be named -/
theorem Rule.ok_seen {g : Sg} {xs : List Int} (hx : ∀ k ∈ g.seen, k ∈ xs) : ∀ {n : Nat} {r : Rule}, r.ok g n → r.ok { g with seen := xs } n
  | 0, _, h => h.elim
  | _ + 1, .num _, h => h
  | _ + 1, .paper _, h => h
  | _ + 1, .line _, h => hx _ h
  | _ + 1, .earl _, h => h
  | _ + 1, .two _ _ _, h => ⟨h.1, ok_seen hx h.2.1, ok_seen hx h.2.2⟩
  | _ + 1, .part _ _, h => ⟨h.1, ok_seen hx h.2⟩
  | _ + 1, .table _ _, h => ⟨h.1, ok_seen hx h.2⟩
  | _ + 1, .wher _ _ _, h => ⟨ok_seen hx h.1, ok_seen hx h.2.1, ok_seen hx h.2.2⟩
  | _ + 1, .choo _ _ _, h => ⟨h.1, ok_seen hx h.2.1, ok_seen hx h.2.2⟩
/-- which it names behind a word -/
def Rule.lines : Rule → List Int
  | .line k => [k]
  | .num _ | .paper _ | .earl _ => []
  | .two _ a b => a.lines ++ b.lines
  | .part a _ => a.lines
  | .table _ a => a.lines
  | .wher a b c => a.lines ++ b.lines ++ c.lines
  | .choo _ a b => a.lines ++ b.lines
/-- the words that are none of the data's own -/
def kw : List Str := ["number", "paper", "line", "earlier", "add", "take", "least", "most", "part", "table", "where", "choose"]
theorem op4_kw {w : Str} (h : op4 w) : w ∈ kw := by
  rcases h with rfl | rfl | rfl | rfl <;> simp [kw]
theorem Rule.tup (r : Rule) : isTupD r.d = true := by cases r <;> rfl
/-- all texts of a rule lie in its words and those of the pool -/
theorem Rule.inP {g : Sg} : ∀ {n : Nat} {r : Rule}, r.ok g n → Fl.inP (kw ++ g.pool) r.d = true
  | 0, _, h => h.elim
  | _ + 1, .num _, _ => by simp [Rule.d, Fl.inP, inPs, kw]
  | _ + 1, .paper _, h => by
    have h' := show _ ∈ g.pool from h
    simp [Rule.d, Fl.inP, inPs, kw, h']
  | _ + 1, .line _, _ => by simp [Rule.d, Fl.inP, inPs, kw]
  | _ + 1, .earl _, _ => by simp [Rule.d, Fl.inP, inPs, kw]
  | _ + 1, .two w a b, h => by
    have e := op4_kw h.1
    simp only [Rule.d, Fl.inP, inPs, Rule.inP h.2.1, Rule.inP h.2.2, Bool.and_true]
    exact decide_eq_true (List.mem_append_left _ e)
  | _ + 1, .part a _, h => by
    simp only [Rule.d, Fl.inP, inPs, Rule.inP h.2, Bool.and_true]
    simp [kw]
  | _ + 1, .table _ a, h => by
    simp only [Rule.d, Fl.inP, inPs, Rule.inP h.2, Bool.and_true]
    simp [kw]
  | _ + 1, .wher a b c, h => by
    simp only [Rule.d, Fl.inP, inPs, Rule.inP h.1, Rule.inP h.2.1, Rule.inP h.2.2, Bool.and_true]
    simp [kw]
  | _ + 1, .choo _ a b, h => by
    simp only [Rule.d, Fl.inP, inPs, Rule.inP h.2.1, Rule.inP h.2.2, Bool.and_true]
    simp [kw]
theorem Rule.sz_le {g : Sg} : ∀ {n : Nat} {r : Rule}, r.ok g n → sz r.d ≤ 2 * 3 ^ n - 1
  | 0, _, h => h.elim
  | n + 1, r, h => by
    have e : 3 ^ (n + 1) = 3 * 3 ^ n := by rw [Nat.pow_succ]; omega
    have e0 : 0 < 3 ^ n := Nat.pow_pos (by decide)
    cases r with
    | num _ => simp only [Rule.d, sz, szAll]; omega
    | paper _ => simp only [Rule.d, sz, szAll]; omega
    | line _ => simp only [Rule.d, sz, szAll]; omega
    | earl _ => simp only [Rule.d, sz, szAll]; omega
    | two w a b =>
      have h1 := Rule.sz_le h.2.1
      have h2 := Rule.sz_le h.2.2
      simp only [Rule.d, sz, szAll]; omega
    | part a p =>
      have h1 := Rule.sz_le h.2
      simp only [Rule.d, sz, szAll]; omega
    | table k a =>
      have h1 := Rule.sz_le h.2
      simp only [Rule.d, sz, szAll]; omega
    | wher a b c =>
      have h1 := Rule.sz_le h.1
      have h2 := Rule.sz_le h.2.1
      have h3 := Rule.sz_le h.2.2
      simp only [Rule.d, sz, szAll]; omega
    | choo k a b =>
      have h1 := Rule.sz_le h.2.1
      have h2 := Rule.sz_le h.2.2
      simp only [Rule.d, sz, szAll]; omega
end Fl

-- after: ru.tpl
namespace Fl
open PySem PySem.Spec PyProof.Rows L2 RZ
structure Sg.Fine (g : Sg) : Prop where
  pool : ∀ w ∈ g.pool, isWord (.str w) = true
  seen : ∀ k ∈ g.seen, 0 ≤ k ∧ k < g.L
theorem isWhole_of {i lo hi : Int} (h1 : lo ≤ i) (h2 : i ≤ hi) : isWhole (.int i) lo hi = true := by
  simp [isWhole, h1, h2]
theorem isR_eq {L T C : Int} {n : Nat} {w : Str} {ds : List PyData} : isR L T C (n + 1) (.tuple (.str w :: ds)) = (decide (1 ≤ ds.length) && match placesOf T C w ds with | none => isPlain L w ds | some ps => (kids ds ps).all (isR L T C n)) := rfl
theorem Rule.isR {g : Sg} (f : g.Fine) : ∀ {n : Nat} {r : Rule}, r.ok g n → Fl.isR g.L g.T g.C n r.d = true
  | 0, _, h => h.elim
  | n + 1, .num k, h => by
    have h := (show -1000000000 ≤ k ∧ k ≤ 1000000000 from h)
    rw [Rule.d, isR_eq, places_none (by decide +kernel) (by decide +kernel) (by decide +kernel) (by decide +kernel) (by decide +kernel)]
    simp [isPlain, isNumber, isWhole, h]
  | n + 1, .paper w, h => by
    rw [Rule.d, isR_eq, places_none (by decide +kernel) (by decide +kernel) (by decide +kernel) (by decide +kernel) (by decide +kernel)]
    show (true && isPlain g.L "paper" [.str w]) = true
    unfold isPlain
    rw [if_neg (by decide +kernel), if_pos rfl]
    simpa using f.pool w h
  | n + 1, .line k, h => by
    have h := f.seen k h
    rw [Rule.d, isR_eq, places_none (by decide +kernel) (by decide +kernel) (by decide +kernel) (by decide +kernel) (by decide +kernel)]
    show (true && isPlain g.L "line" [.int k]) = true
    unfold isPlain
    rw [if_neg (by decide +kernel), if_neg (by decide +kernel)]
    simp [isWhole, h.1]
    omega
  | n + 1, .earl k, h => by
    have h := (show 0 ≤ k ∧ k < g.L from h)
    rw [Rule.d, isR_eq, places_none (by decide +kernel) (by decide +kernel) (by decide +kernel) (by decide +kernel) (by decide +kernel)]
    show (true && isPlain g.L "earlier" [.int k]) = true
    unfold isPlain
    rw [if_neg (by decide +kernel), if_neg (by decide +kernel)]
    simp [isWhole, h.1]
    omega
  | n + 1, .two w a b, h => by
    rw [Rule.d, isR_eq, places_four h.1]
    simp [kids, Rule.isR f h.2.1, Rule.isR f h.2.2]
  | n + 1, .part a p, h => by
    rw [Rule.d, isR_eq, places_part]
    simp [kids, Rule.isR f h.2, isWhole, h.1.1, h.1.2]
  | n + 1, .table k a, h => by
    rw [Rule.d, isR_eq, places_table]
    have e : isWhole (.int k) 0 (g.T - 1) = true := isWhole_of h.1.1 (by have := h.1.2; omega)
    simp [kids, Rule.isR f h.2, e]
  | n + 1, .wher a b c, h => by
    rw [Rule.d, isR_eq, places_where]
    simp [kids, Rule.isR f h.1, Rule.isR f h.2.1, Rule.isR f h.2.2]
  | n + 1, .choo k a b, h => by
    rw [Rule.d, isR_eq, places_choose]
    have e : isWhole (.int k) 0 (g.C - 1) = true := isWhole_of h.1.1 (by have := h.1.2; omega)
    simp [kids, Rule.isR f h.2.1, Rule.isR f h.2.2, e]
/-- what stands behind one of the five words -/
def Rule.names (x : Str) : Rule → List V
  | .num _ => []
  | .paper w => if x = "paper" then [.str w] else []
  | .line k => if x = "line" then [.int k] else []
  | .earl k => if x = "earlier" then [.int k] else []
  | .two _ a b => a.names x ++ b.names x
  | .part a _ => a.names x
  | .table k a => (if x = "table" then [.int k] else []) ++ a.names x
  | .wher a b c => a.names x ++ (b.names x ++ c.names x)
  | .choo k a b => (if x = "choose" then [.int k] else []) ++ (a.names x ++ b.names x)
theorem five_not {b : Bool} {x w : Str} (f : fiveW b x) (h : w = "number" ∨ op4 w ∨ w = "part" ∨ w = "where") : ¬ w = x := by
  rintro rfl
  rcases f with ⟨_, rfl⟩ | ⟨_, rfl | rfl | rfl | rfl⟩ <;> (unfold op4 at h; revert h; decide +kernel)
theorem flat1 {x : Str} {n : Nat} {a : PyData} {ds : List PyData} (h : isTupD a = true) : ((a :: ds).filter isTupD).flatMap (vals x n) = vals x n a ++ (ds.filter isTupD).flatMap (vals x n) := by
  rw [List.filter_cons, h]
  rfl
theorem flat0 {x : Str} {n : Nat} {k : Int} {ds : List PyData} : ((.int k :: ds).filter isTupD).flatMap (vals x n) = (ds.filter isTupD).flatMap (vals x n) := rfl
theorem flatS {x w : Str} {n : Nat} {ds : List PyData} : ((.str w :: ds).filter isTupD).flatMap (vals x n) = (ds.filter isTupD).flatMap (vals x n) := rfl
theorem flatN {x : Str} {n : Nat} : (([] : List PyData).filter isTupD).flatMap (vals x n) = [] := rfl
theorem Rule.vals {g : Sg} {b : Bool} {x : Str} (f : fiveW b x) : ∀ {n : Nat} {r : Rule}, r.ok g n → Fl.vals x n r.d = r.names x
  | 0, _, h => h.elim
  | n + 1, .num k, h => by
    simp only [Rule.d, Fl.vals, Rule.names, flat0, flatN, if_neg (five_not f (.inl rfl))]
    rfl
  | n + 1, .paper w, h => by
    simp only [Rule.d, Fl.vals, Rule.names, flatS, flatN, List.append_nil, List.getD_cons_zero, vOf, eq_comm]
  | n + 1, .line k, h => by
    simp only [Rule.d, Fl.vals, Rule.names, flat0, flatN, List.append_nil, List.getD_cons_zero, vOf, eq_comm]
  | n + 1, .earl k, h => by
    simp only [Rule.d, Fl.vals, Rule.names, flat0, flatN, List.append_nil, List.getD_cons_zero, vOf, eq_comm]
  | n + 1, .two w a b, h => by
    simp only [Rule.d, Fl.vals, Rule.names, flat1 (Rule.tup _), flatN, if_neg (five_not f (.inr (.inl h.1))), List.append_nil, List.nil_append]
    rw [Rule.vals f h.2.1, Rule.vals f h.2.2]
  | n + 1, .part a p, h => by
    simp only [Rule.d, Fl.vals, Rule.names, flat1 (Rule.tup _), flat0, flatN, if_neg (five_not f (.inr (.inr (.inl rfl)))), List.append_nil, List.nil_append]
    rw [Rule.vals f h.2]
  | n + 1, .table k a, h => by
    simp only [Rule.d, Fl.vals, Rule.names, flat1 (Rule.tup _), flat0, flatN, List.append_nil, List.getD_cons_zero, vOf]
    rw [Rule.vals f h.2]
    simp only [eq_comm]
  | n + 1, .wher a b c, h => by
    simp only [Rule.d, Fl.vals, Rule.names, flat1 (Rule.tup _), flatN, if_neg (five_not f (.inr (.inr (.inr rfl)))), List.append_nil, List.nil_append]
    rw [Rule.vals f h.1, Rule.vals f h.2.1, Rule.vals f h.2.2]
  | n + 1, .choo k a b, h => by
    simp only [Rule.d, Fl.vals, Rule.names, flat1 (Rule.tup _), flat0, flatN, List.append_nil, List.getD_cons_zero, vOf]
    rw [Rule.vals f h.2.1, Rule.vals f h.2.2]
    simp only [eq_comm]
theorem Rule.names_line : ∀ r : Rule, r.names "line" = r.lines.map V.int := by
  intro r
  have e1 : ¬ ("line" : Str) = "paper" := by decide +kernel
  have e2 : ¬ ("line" : Str) = "earlier" := by decide +kernel
  have e3 : ¬ ("line" : Str) = "table" := by decide +kernel
  have e4 : ¬ ("line" : Str) = "choose" := by decide +kernel
  induction r <;> simp_all [Rule.names, Rule.lines]
theorem Rule.tupO : ∀ r : Rule, tupOnly r.d = true := by
  intro r
  induction r <;> simp_all [Rule.d, tupOnly, tupsOnly]
theorem rules_tupO (rs : List Rule) : tupsOnly (rs.map Rule.d) = true := tupsOnly_all fun d hd => by
  obtain ⟨r, _, rfl⟩ := List.mem_map.mp hd
  exact r.tupO
end Fl

-- after: wn.tpl
namespace Fl
open PySem PySem.Spec PyProof.Rows L2 RZ
section
variable {P : Program} {w : World} {K : PySem.W.Frag} {mg : Str → Option Value} {base : Heap}
/-! ### the law's own small defs -/
abbrev s__law_cell_at : Stmt := topS 60
theorem sc__law_cell_at : FnScope ["_law_script", "_law_k"] ["_law_script", "_law_k"] (defScope s__law_cell_at) := ⟨rfl, rfl, rfl, by decide +kernel, rfl, by decide +kernel, by decide +kernel⟩
def sp_cell_at (K : PySem.W.Frag) : Sp2 := fun a b H Q _ => ∃ (sc : Addr) (ns : List Int) (k : Int), a = .ref sc ∧ SqL K H sc (ns.map V.int) ∧ b = .int k ∧ 0 ≤ k ∧ ∀ z : Int, Q (.int z) H
theorem ok_cell_at (M : Mg mg) (D : DefAt K mg "_law_cell_at" s__law_cell_at ["_law_script", "_law_k"]) : Has P w K mg base "_law_cell_at" ["_law_script", "_law_k"] 1 (sp2 (sp_cell_at K)) := by
  refine .mk2 D sc__law_cell_at fun f cdv A outer s H a b Q E hr h => ⟨_, (pss_cons (ps_if (pt_cmpR o_lt (pv 1) (pe_callB (k_len K rfl) (by rfl) M.len (by decide +kernel) (pa_cons (pv 0) pa_nil)) (nomark _)) (pss_one (ps_ret (pe_ix (k_ix K rfl) (pv 0) (pv 1) (fun _ _ => rfl)))) pss_nil)
    (pss_one (ps_ret pe_int))), ?_⟩
  obtain ⟨sc, ns, k, rfl, hS, rfl, hk, q⟩ := h
  refine Fl.go_start (σ0 := [some _, some _]) rfl ?_
  have hS' : IsSq K H sc (ns.map V.int) := .inl hS
  walk_at "s"
  refine if_d (fun c => ?_) (fun c => ?_)
  · walk_at "s"
    obtain ⟨v, e, _, hm⟩ := atI_range hk c
    obtain ⟨z, _, rfl⟩ := List.mem_map.mp hm
    exact ⟨_, e, q z⟩
  · walk_at "s"
    exact q 0
instance {H : Hp} {Q : VK} {E : XK} {sc : Addr} {k : Int} : Step (sp_cell_at K (.ref sc) (.int k) H Q E) (∃ ns, Scr K H sc ns ∧ 0 ≤ k ∧ IntQ fun z => Q (.int z) H) := ⟨fun ⟨ns, h, hk, q⟩ => ⟨sc, ns, k, rfl, h.sq, rfl, hk, q⟩⟩
abbrev s__law_mixed : Stmt := topS 61
theorem sc__law_mixed : FnScope ["_law_cell", "_law_k"] ["_law_cell", "_law_k"] (defScope s__law_mixed) := ⟨rfl, rfl, rfl, by decide +kernel, rfl, by decide +kernel, by decide +kernel⟩
def sp_mixed : Sp2 := fun a b H Q _ => ∃ i j, a = .int i ∧ b = .int j ∧ ∀ z : Int, 0 ≤ z → z < 2147483647 → Q (.int z) H
theorem ok_mixed (M : Mg mg) (D : DefAt K mg "_law_mixed" s__law_mixed ["_law_cell", "_law_k"]) : Has P w K mg base "_law_mixed" ["_law_cell", "_law_k"] 1 (sp2 sp_mixed) := by
  refine .mk2 D sc__law_mixed fun f cdv A outer s H a b Q E hr h => ⟨_, (pss_one (ps_ret (pe_op o_mod (pe_op o_mul (pe_op (k_add K rfl) (pv 0) (pe_op o_mul pe_int (pv 1))) pe_int) pe_int))), ?_⟩
  obtain ⟨i, j, rfl, rfl, q⟩ := h
  refine Fl.go_start (σ0 := [some _, some _]) rfl ?_
  walk_at "s"
  exact q _ (Int.emod_nonneg _ (by decide)) (Int.emod_lt_of_pos _ (by decide))
instance {H : Hp} {Q : VK} {E : XK} {i j : Int} : Step (sp_mixed (.int i) (.int j) H Q E) (MixQ fun z => Q (.int z) H) := ⟨fun h => ⟨i, j, rfl, rfl, h⟩⟩
abbrev s__law_next : Stmt := topS 62
theorem sc__law_next : FnScope ["_law_state", "_law_size"] ["_law_state", "_law_size"] (defScope s__law_next) := ⟨rfl, rfl, rfl, by decide +kernel, rfl, by decide +kernel, by decide +kernel⟩
def sp_next : Sp2 := fun a b H Q _ => ∃ s n x, a = .ref s ∧ b = .int n ∧ H s = some (.lst [.int x]) ∧ 0 < n ∧ ∀ y r : Int, 0 ≤ r → r < n → Q (.int r) (upd H s (.lst [.int y]))
instance {H : Hp} {Q : VK} {E : XK} {s : Addr} {n : Int} : Step (sp_next (.ref s) (.int n) H Q E) (∃ xs, H s = some (.lst xs) ∧ (∃ x, xs = [.int x]) ∧ 0 < n ∧ NextQ s n H fun r H' => Q (.int r) H') := ⟨fun ⟨xs, h, ⟨x, e⟩, hn, q⟩ => ⟨s, n, x, rfl, rfl, by rw [← e]; exact h, hn, q⟩⟩
theorem ok_next (M : Mg mg) (D : DefAt K mg "_law_next" s__law_next ["_law_state", "_law_size"]) : Has P w K mg base "_law_next" ["_law_state", "_law_size"] 1 (sp2 sp_next) := by
  refine .mk2 D sc__law_next fun f cdv A outer s0 H a b Q E hr h => ⟨_, (pss_cons (ps_asg (pe_op o_mod (pe_op (k_add K rfl) (pe_op o_mul (pe_ix (k_ix K rfl) (pv 0) pe_int (fun _ _ => rfl)) pe_int) pe_int) pe_int) (pg_sub (pv 0) pe_int set_list))
    (pss_one (ps_ret (pe_op o_mod (pe_op o_div (pe_ix (k_ix K rfl) (pv 0) pe_int (fun _ _ => rfl)) pe_int) (pv 1))))), ?_⟩
  obtain ⟨s, n, x, rfl, rfl, hs, hn, q⟩ := h
  refine Fl.go_start (σ0 := [some _, some _]) rfl ?_
  walk_at "s"
  exact q _ _ (Int.emod_nonneg _ (by omega)) (Int.emod_lt_of_pos _ hn)
abbrev s__law_number : Stmt := topS 63
theorem sc__law_number : FnScope ["_law_state", "_law_kind"] ["_law_state"] (defScope s__law_number) := ⟨rfl, rfl, rfl, by decide +kernel, rfl, by decide +kernel, by decide +kernel⟩
def sp_number : Sp1 := fun a H Q _ => ∃ s x, a = .ref s ∧ H s = some (.lst [.int x]) ∧ ∀ (z : Int) H', -1000000000 ≤ z → z ≤ 1000000000 → Gs s H H' → Q (.int z) H'
theorem ok_number (M : Mg mg) (G__law_next : Has P w K mg base "_law_next" ["_law_state", "_law_size"] 1 (sp2 sp_next)) (D : DefAt K mg "_law_number" s__law_number ["_law_state"]) : Has P w K mg base "_law_number" ["_law_state"] 2 (sp1 sp_number) := by
  refine .mk1 D sc__law_number fun f cdv A outer s0 H a Q E hr h => ⟨_, (pss_cons (ps_set (i := 1) sc__law_number.nd rfl (by first | exact Or.inl rfl | exact Or.inr rfl) (pe_own G__law_next (hr.mono (by first | decide | omega)) (by rfl) p_body (pa_cons (pv 0) (pa_cons pe_int pa_nil))))
    (pss_cons (ps_if (pt_cmpR (k_eq K rfl hr) (pv 1) pe_int (nomark _)) (pss_one (ps_ret (pe_ix (k_ix K rfl) (pe_lst (pa_cons (pe_un o_neg (pe_op o_pow pe_int pe_int)) (pa_cons (pe_op o_pow pe_int pe_int) (pa_cons (pe_op o_sub (pe_op o_pow pe_int pe_int) pe_int) (pa_cons (pe_op o_sub pe_int (pe_op o_pow pe_int pe_int)) pa_nil))))) (pe_own G__law_next (hr.mono (by first | decide | omega)) (by rfl) p_body (pa_cons (pv 0) (pa_cons pe_int pa_nil))) (fun _ _ => rfl)))) pss_nil)
    (pss_cons (ps_if (pt_cmpR (k_eq K rfl hr) (pv 1) pe_int (nomark _)) (pss_one (ps_ret (pe_op o_sub (pe_own G__law_next (hr.mono (by first | decide | omega)) (by rfl) p_body (pa_cons (pv 0) (pa_cons pe_int pa_nil))) pe_int))) pss_nil)
    (pss_one (ps_ret (pe_op o_sub (pe_own G__law_next (hr.mono (by first | decide | omega)) (by rfl) p_body (pa_cons (pv 0) (pa_cons pe_int pa_nil))) pe_int)))))), ?_⟩
  obtain ⟨s, x, rfl, hs, q⟩ := h
  refine Fl.go_start (σ0 := [some _, none]) rfl ?_
  walk_at "s"
  rename_i y r h0 h1
  refine if_d (fun c => ?_) (fun c => ?_)
  · walk_at "s"
    rename_i p1 hp1 y2 r2 g0 g1
    have gs : Gs s H (upd (upd (upd H s (.lst [.int y])) p1 (.lst [V.int (-10 ^ Int.toNat 9), V.int (10 ^ Int.toNat 9), V.int (10 ^ Int.toNat 9 - 1), V.int (1 - 10 ^ Int.toNat 9)])) s (.lst [.int y2])) := by walk_at "gs"
    rcases four g0 g1 with rfl | rfl | rfl | rfl <;> (refine ex_v rfl ?_; exact q _ _ (by decide) (by decide) gs)
  walk_at "s"
  refine if_d (fun c => ?_) (fun c => ?_)
  · walk_at "s"
    exact q _ _ (by omega) (by omega) (by walk_at "gs")
  walk_at "s"
  exact q _ _ (by omega) (by omega) (by walk_at "gs")
instance {H : Hp} {Q : VK} {E : XK} {s : Addr} : Step (sp_number (.ref s) H Q E) (∃ xs, H s = some (.lst xs) ∧ (∃ x, xs = [.int x]) ∧ NumQ s H fun z H' => Q (.int z) H') := ⟨fun ⟨xs, h, ⟨x, e⟩, q⟩ => ⟨s, x, rfl, by rw [← e]; exact h, q⟩⟩
end
end Fl

-- after: r9.tpl gen0.tpl
namespace Fl
open PySem PySem.Spec PyProof.Rows L2 RZ
theorem len_app (s t : Str) : (s ++ t).length = s.length + t.length := by
  show (s.cps ++ t.cps).size = _
  rw [Array.size_append]
  rfl
def AlT (n : Nat) (s : Str) : Prop := (∀ c ∈ s.cps.toList, c ∈ letters.cps.toList) ∧ s.length ≤ n
theorem AlT.mono {n k : Nat} {s : Str} (h : AlT n s) (l : n ≤ k) : AlT k s := ⟨h.1, Nat.le_trans h.2 l⟩
theorem AlT.append {n k : Nat} {s t : Str} (h : AlT n s) (g : AlT k t) : AlT (n + k) (s ++ t) := by
  refine ⟨fun c hc => ?_, ?_⟩
  · have e : (s ++ t).cps = s.cps ++ t.cps := rfl
    rw [e, Array.toList_append, List.mem_append] at hc
    exact hc.elim (h.1 c) (g.1 c)
  · rw [len_app]
    have h2 := h.2
    have g2 := g.2
    omega
theorem AlT.sign {c : Nat} (h : c ∈ letters.cps.toList) : AlT 1 ⟨#[c]⟩ := ⟨fun d hd => by
  have e : d = c := by simpa using hd
  rw [e]
  exact h, Nat.le_refl _⟩
theorem cut_mem {s : Str} {lo hi : Option Int} {c : Nat} (hc : c ∈ (cutS s lo hi).cps.toList) : c ∈ s.cps.toList := by
  have hc' : c ∈ ((s.cps.toList.drop (HT.sIx s.length 0 lo)).take (HT.sIx s.length s.length hi - HT.sIx s.length 0 lo)) := by simpa [cutS] using hc
  exact List.mem_of_mem_drop (List.mem_of_mem_take hc')
theorem cut_len (s : Str) (lo hi : Option Int) : (cutS s lo hi).length = min (HT.sIx s.length s.length hi - HT.sIx s.length 0 lo) (s.length - HT.sIx s.length 0 lo) := by
  have e : (cutS s lo hi).length = ((s.cps.toList.drop (HT.sIx s.length 0 lo)).take (HT.sIx s.length s.length hi - HT.sIx s.length 0 lo)).length := by
    simp [cutS, Str.length]
  rw [e, List.length_take, List.length_drop]
  simp [Str.length]
theorem sIx_pos {n d : Nat} {i : Int} (h : 0 ≤ i) : HT.sIx n d (some i) = min i.toNat n := by
  unfold HT.sIx
  simp only []
  rw [if_neg (by omega)]
theorem AlT.cut {n : Nat} {s : Str} (h : AlT n s) (lo hi : Option Int) : ∀ c ∈ (cutS s lo hi).cps.toList, c ∈ letters.cps.toList := fun c hc => h.1 c (cut_mem hc)
/-- a word -/
def WdT (s : Str) : Prop := AlT 8 s ∧ 1 ≤ s.length
theorem WdT.word {s : Str} (h : WdT s) : isWord (.str s) = true := by
  simp only [isWord, Bool.and_eq_true, decide_eq_true_eq, List.all_eq_true]
  exact ⟨⟨h.2, h.1.2⟩, h.1.1⟩
theorem WdT.ok {s : Str} (h : WdT s) : OkT 1000 s := ⟨fun c hc => letters_ok c (h.1.1 c hc), Nat.le_trans h.1.2 (by decide)⟩
def kwords : List Str := ["line", "paper", "add"]
section
variable {P : Program} {w : World} {K : PySem.W.Frag} {mg : Str → Option Value} {base : Heap}
abbrev s__law_words : Stmt := topS 65
theorem sc__law_words : FnScope ["_law_state", "_law_letters", "_law_base", "_law_k", "_law_words_here", "_law_at"] ["_law_state"] (defScope s__law_words) := ⟨rfl, rfl, rfl, by decide +kernel, rfl, by decide +kernel, by decide +kernel⟩
def sp_words : Sp1 := fun a H Q _ => ∃ (s : Addr) (x : Int), a = .ref s ∧ H s = some (.lst [.int x]) ∧ ∀ p H' (ws : List Str), Gs s H H' → H' p = some (.lst (ws.map V.str)) → H p = none → 1 ≤ ws.length → ws.length ≤ 8 → (∀ t ∈ ws, WdT t) → Q (.ref p) H'
theorem ok_words (M : Mg mg) (G__law_next : Has P w K mg base "_law_next" ["_law_state", "_law_size"] 1 (sp2 sp_next)) (D : DefAt K mg "_law_words" s__law_words ["_law_state"]) : Has P w K mg base "_law_words" ["_law_state"] 2 (sp1 sp_words) := by
  refine .mk1 D sc__law_words fun f cdv A outer s H a Q E hr h => ⟨_, (pss_cons (ps_set (i := 1) sc__law_words.nd rfl (by first | exact Or.inl rfl | exact Or.inr rfl) pe_str)
    (pss_cons (ps_set (i := 2) sc__law_words.nd rfl (by first | exact Or.inl rfl | exact Or.inr rfl) pe_str)
    (pss_cons (ps_for own_p (by rfl) (pi_range1 (by rfl) M.range (pa_cons pe_int pa_nil)) (pg_name (i := 3) sc__law_words.nd rfl (by first | exact Or.inl rfl | exact Or.inr rfl)) (pss_one (ps_set (i := 2) sc__law_words.nd rfl (by first | exact Or.inl rfl | exact Or.inr rfl) (pe_op (k_add K rfl) (pv 2) (pe_ix (k_ix K rfl) (pv 1) (pe_own G__law_next (hr.mono (by first | decide | omega)) (by rfl) p_body (pa_cons (pv 0) (pa_cons pe_int pa_nil))) (fun _ _ => rfl))))))
    (pss_cons (ps_set (i := 4) sc__law_words.nd rfl (by first | exact Or.inl rfl | exact Or.inr rfl) (pe_lst (pa_cons (pe_slice (k_sl K rfl) (pv 2) po_none (po_some (pe_op (k_add K rfl) pe_int (pe_own G__law_next (hr.mono (by first | decide | omega)) (by rfl) p_body (pa_cons (pv 0) (pa_cons pe_int pa_nil)))))) (pa_cons (pv 2) pa_nil))))
    (pss_cons (ps_for own_p (by rfl) (pi_range1 (by rfl) M.range (pa_cons pe_int pa_nil)) (pg_name (i := 3) sc__law_words.nd rfl (by first | exact Or.inl rfl | exact Or.inr rfl)) (pss_cons (ps_set (i := 5) sc__law_words.nd rfl (by first | exact Or.inl rfl | exact Or.inr rfl) (pe_own G__law_next (hr.mono (by first | decide | omega)) (by rfl) p_body (pa_cons (pv 0) (pa_cons pe_int pa_nil))))
    (pss_one (ps_expr (k_bm K rfl PySem.F.plainAttrs_list PySem.F.slot_list_append PySem.F.type_list_append mt_append (pv 4) (pa_cons (pe_op (k_add K rfl) (pe_op (k_add K rfl) (pe_slice (k_sl K rfl) (pv 2) po_none (po_some (pv 5))) (pe_ix (k_ix K rfl) (pv 1) (pe_own G__law_next (hr.mono (by first | decide | omega)) (by rfl) p_body (pa_cons (pv 0) (pa_cons pe_int pa_nil))) (fun _ _ => rfl))) (pe_slice (k_sl K rfl) (pv 2) (po_some (pe_op (k_add K rfl) (pv 5) pe_int)) (po_some (pe_op (k_add K rfl) (pe_op (k_add K rfl) pe_int (pv 5)) (pe_own G__law_next (hr.mono (by first | decide | omega)) (by rfl) p_body (pa_cons (pv 0) (pa_cons pe_int pa_nil))))))) pa_nil))))))
    (pss_one (ps_ret (pe_op (k_add K rfl) (pv 4) (pe_slice (k_sl K rfl) (pe_lst (pa_cons pe_str (pa_cons pe_str (pa_cons pe_str pa_nil)))) po_none (po_some (pe_own G__law_next (hr.mono (by first | decide | omega)) (by rfl) p_body (pa_cons (pv 0) (pa_cons pe_int pa_nil))))))))))))), ?_⟩
  obtain ⟨st, x, rfl, hs, q⟩ := h
  refine Fl.go_start (σ0 := [some _, none, none, none, none, none]) rfl ?_
  walk_at "s"
  refine for_rng (fun i σ' H' => ∃ (z : Str) (y : Option V), σ' = [some (.ref st), some (.str letters), some (.str z), y, none, none] ∧ (AlT i z ∧ z.length = i) ∧ Gs st H H') ⟨"", none, rfl, ⟨⟨by decide +kernel, by decide +kernel⟩, by decide +kernel⟩, by walk_at "gs"⟩ ?_ ?_
  · rintro i σ' H' hi ⟨z, y, rfl, hz, gs⟩
    obtain ⟨x1, hx1⟩ := Gs.st gs
    walk_at "s"
    rename_i y1 r h0 h1
    obtain ⟨c, ec, mc⟩ := atI_letter h0 h1
    refine ⟨c, ⟨small_of (by decide +kernel), ec⟩, ?_⟩
    have hl := hz.2
    have hi8 : i < 8 := hi
    refine q_addS (show z.length + 1 ≤ sizeLine from small_of (by omega)) ?_
    exact ⟨_, _, rfl, ⟨hz.1.append (AlT.sign mc), by rw [len_app, hl]; rfl⟩, by walk_at "gs"⟩
  rintro σ' H1 ⟨z, y, rfl, ⟨hz, z8⟩, gs⟩
  obtain ⟨x1, hx1⟩ := Gs.st gs
  have hz8 : AlT 8 z := hz
  have z8 : z.length = 8 := z8
  have lz : z.length ≤ sizeLine := small_of (Nat.le_trans hz8.2 (by decide))
  walk_at "s"
  rename_i y1 r h0 h1 wa hwa
  have hwf : H wa = none := by walk_at "fr"
  have hws : wa ≠ st := fun e => by rw [e, upd_same] at hwa; cases hwa
  have gs2 : Gs st H (upd (upd H1 st (.lst [.int y1])) wa (.lst [.str (cutS z none (some (1 + r))), .str z])) := by walk_at "gs"
  have hw2 : (upd (upd H1 st (.lst [.int y1])) wa (.lst [.str (cutS z none (some (1 + r))), .str z])) wa = some (.lst [.str (cutS z none (some (1 + r))), .str z]) := upd_same
  generalize upd (upd H1 st (.lst [.int y1])) wa (.lst [.str (cutS z none (some (1 + r))), .str z]) = H2 at *
  refine for_rng (fun i σ' H' => ∃ (ws : List Str) (y3 y5 : Option V), σ' = [some (.ref st), some (.str letters), some (.str z), y3, some (.ref wa), y5] ∧ H' wa = some (.lst (ws.map V.str)) ∧ ws.length = i + 2 ∧ (∀ t ∈ ws, WdT t) ∧ Gs st H H')
    ⟨[cutS z none (some (1 + r)), z], _, _, rfl, hw2, rfl, fun t ht => ?_, gs2⟩ ?_ ?_
  · rcases List.mem_cons.mp ht with rfl | ht
    · have e := cut_len z none (some (1 + r))
      rw [sIx_pos (by omega), z8] at e
      have e0 : HT.sIx 8 0 none = 0 := rfl
      rw [e0] at e
      exact ⟨⟨hz8.cut _ _, by omega⟩, by omega⟩
    · rw [List.mem_singleton.mp ht]
      exact ⟨hz8, by omega⟩
  · rintro i σ' H3 hi ⟨ws, y3, y5, rfl, hw3, lw, ow, gs3⟩
    obtain ⟨x3, hx3⟩ := Gs.st gs3
    have hi3 : i < 3 := hi
    walk_at "s"
    rename_i ya ra ha0 ha1 yb rb hb0 hb1
    obtain ⟨c, ec, mc⟩ := atI_letter hb0 hb1
    refine ⟨c, ⟨small_of (by decide +kernel), ec⟩, ?_⟩
    have l1 := cut_len z none (some ra)
    rw [sIx_pos (by omega), z8, show HT.sIx 8 0 none = 0 from rfl] at l1
    have o1 : AlT ra.toNat (cutS z none (some ra)) := ⟨hz8.cut none (some ra), by omega⟩
    have o2 := o1.append (AlT.sign mc)
    refine q_addS (show (cutS z none (some ra)).length + 1 ≤ sizeLine from small_of (by have := o1.2; omega)) ?_
    walk_at "s"
    rename_i yc rc hc0 hc1
    have l3 := cut_len z (some (ra + 1)) (some (1 + ra + rc))
    rw [sIx_pos (by omega), sIx_pos (by omega), z8] at l3
    have o3 := (o2.append ⟨hz8.cut (some (ra + 1)) (some (1 + ra + rc)), show _ ≤ 7 - ra.toNat by omega⟩).mono (show _ ≤ 8 by omega)
    refine ⟨small_of (Nat.le_trans (Nat.le_of_eq ?_) (Nat.le_trans o3.2 (by decide))), ?_⟩
    · exact (len_app _ _).symm
    have o4 : 1 ≤ (cutS z none (some ra) ++ ⟨#[c]⟩ ++ cutS z (some (ra + 1)) (some (1 + ra + rc))).length := by
      rw [len_app, len_app]
      show 1 ≤ _ + 1 + _
      omega
    walk_at "s"
    exact ⟨ws ++ [_], _, _, rfl, by rw [List.map_append]; exact upd_same, by rw [List.length_append, lw]; rfl, fun t ht => (List.mem_append.mp ht).elim (ow t) fun z => by rw [List.mem_singleton.mp z]; exact ⟨o3, o4⟩, by walk_at "gs"⟩
  rintro σ' H3 ⟨ws, y3, y5, rfl, hw3, lw, ow, gs3⟩
  obtain ⟨x3, hx3⟩ := Gs.st gs3
  walk_at "s"
  rename_i pk hpk yn rn hn0 hn1 pc hpc
  obtain ⟨k, rfl⟩ : ∃ k : Nat, rn = k := ⟨rn.toNat, by omega⟩
  rw [cut_to]
  refine ⟨small_of (by rw [List.length_map, List.length_take]; simp; omega), fun p hp => ?_⟩
  have ep : [V.str (Str.ofString "line"), V.str (Str.ofString "paper"), V.str (Str.ofString "add")].take k = (kwords.take k).map V.str := by rw [List.map_take]; rfl
  refine q p _ (ws ++ (kwords.take k)) (by walk_at "gs") (by rw [List.map_append, ← ep]; exact upd_same) (by walk_at "fr") (by rw [List.length_append]; omega) (by rw [List.length_append, List.length_take]; simp [kwords]; omega) fun t ht => ?_
  rcases List.mem_append.mp ht with z | z
  · exact ow t z
  · have hk : ∀ t ∈ kwords, WdT t := by
      intro t ht
      simp only [kwords, List.mem_cons, List.not_mem_nil, or_false] at ht
      rcases ht with rfl | rfl | rfl <;> exact ⟨⟨by decide +kernel, by decide +kernel⟩, by decide +kernel⟩
    exact hk t (List.mem_of_mem_take z)
end
end Fl

-- after: r6.tpl
namespace Fl
open PySem PySem.Spec PyProof.Rows L2 RZ
theorem nodup_le {α : Type} [DecidableEq α] : ∀ {xs ys : List α}, xs.Nodup → (∀ x ∈ xs, x ∈ ys) → xs.length ≤ ys.length
  | [], _, _, _ => Nat.zero_le _
  | x :: r, ys, nd, h => by
    have nd' := List.nodup_cons.mp nd
    have hx := h x (List.mem_cons_self ..)
    have ih := nodup_le (ys := ys.erase x) nd'.2 fun z hz => (List.mem_erase_of_ne (fun (e : z = x) => nd'.1 (by rw [← e]; exact hz))).mpr (h z (List.mem_cons_of_mem _ hz))
    rw [List.length_erase_of_mem hx] at ih
    have := List.length_pos_of_mem hx
    simp only [List.length_cons]
    omega
theorem szAll_filter {ds : List PyData} {p : PyData → Bool} : szAll (ds.filter p) ≤ szAll ds := by
  induction ds with
  | nil => simp
  | cons d r ih =>
    rw [List.filter_cons]
    split <;> simp only [szAll] <;> omega
mutual
theorem vals_len {w : Str} : ∀ (n : Nat) (d : PyData), (vals w n d).length ≤ sz d
  | 0, d => by simp [vals]
  | n + 1, d => by
    unfold vals
    split
    · rename_i w' ds
      have h := valsAll_len (w := w) n (ds.filter isTupD)
      have h2 := szAll_filter (ds := ds) (p := isTupD)
      rw [List.length_append]
      have h3 : (if w' = w then [vOf (ds.getD 0 .none)] else []).length ≤ 1 := by split <;> simp
      simp only [sz, szAll]
      omega
    · simp
theorem valsAll_len {w : Str} : ∀ (n : Nat) (ds : List PyData), (ds.flatMap (vals w n)).length ≤ szAll ds
  | n, [] => by simp
  | n, d :: r => by
    rw [List.flatMap_cons, List.length_append]
    have h1 := vals_len (w := w) n d
    have h2 := valsAll_len (w := w) n r
    simp only [szAll]
    omega
end
theorem sz_mem {d : PyData} {ds : List PyData} (h : d ∈ ds) : sz d ≤ szAll ds := by
  induction ds with
  | nil => cases h
  | cons e r ih =>
    rcases List.mem_cons.mp h with rfl | h
    · simp only [szAll]; omega
    · have := ih h
      simp only [szAll]; omega
theorem fm_filter {gs ys : List V} : (ys.filterMap fun v => if v ∈ gs then none else some v) = ys.filter fun v => !decide (v ∈ gs) := by
  induction ys with
  | nil => rfl
  | cons y r ih =>
    by_cases c : y ∈ gs <;> simp [c, ih]
theorem at_vOf {b : Bool} {H : Hp} {d : PyData} {v : V} (h : okK b (vOf d)) (a : At H d v) : v = vOf d := by
  cases d with
  | int i => exact a
  | str s => exact a
  | _ => cases b <;> (obtain ⟨_, h⟩ := h; cases h)
theorem flat_k {b : Bool} {v : V} (h : okK b v) : flatV v = true := by
  cases b <;> (obtain ⟨_, rfl⟩ := h; rfl)
theorem notin_k {K : PySem.W.Frag} {H : Hp} {Q : VK} {b : Bool} {p : Addr} {v : V} {fs : List V} (hx : okK b v) (hf : ∀ u ∈ fs, okK b u) (h : H p = some (.lst fs)) (q : Q (.bl (!decide (v ∈ fs))) H) : uNotIn K v (.ref p) H Q :=
  .inl ⟨p, fs, rfl, .inl (.of h), flat_k hx, List.all_eq_true.mpr fun u hu => flat_k (hf u hu), by rw [inV_k hx hf]; exact q⟩
section
variable {P : Program} {w : World} {K : PySem.W.Frag} {mg : Str → Option Value} {base : Heap}
def Pool (b : Bool) (vs : List V) : Prop := b = true → ∃ pool : List V, pool.length ≤ 60 ∧ ∀ v ∈ vs, v ∈ pool
def NamQ (b : Bool) (vs : List V) (H : Hp) (R : Addr → Hp → Prop) : Prop := ∀ p H' ys, Same H H' → H p = none → H' p = some (.lst ys) → Canon b ys vs → R p H'
def sp_law_named (n : Nat) : Sp2 := fun a c H Q _ => ∃ d L T C x b, At H d a ∧ okD d = true ∧ sz d ≤ 50000 ∧ isR L T C n d = true ∧ c = .str x ∧ fiveW b x ∧ Pool b (vals x n d) ∧ NamQ b (vals x n d) H fun p H' => Q (.ref p) H'
def sp_law_namedP : Nat → Sp2
  | 0 => fun _ _ _ _ _ => False
  | n + 1 => sp_law_named n
end
end Fl

-- after: ext.tpl
namespace Fl
open PySem PySem.Spec PyProof.Rows L2 RZ
/-! ### lists compared -/
section
variable {H : Hp} {Q : VK} {K : PySem.W.Frag} {a b : Addr} {x y : V}
theorem depth_ints : ∀ ns : List Int, PyData.depthAll (ns.map PyData.int) = 0
  | [] => rfl
  | n :: r => by simp [PyData.depthAll, PyData.depth, depth_ints r]
theorem shaped_ints (ns : List Int) : SeqAt.shaped (.list (ns.map PyData.int)) = true := by
  simp [SeqAt.shaped, PyData.canLay0, lay_ints, PyData.depth, depth_ints]
theorem eqvAll_ints : ∀ ns ms : List Int, PyData.eqvAll (ns.map PyData.int) (ms.map PyData.int) = decide (ns = ms)
  | [], [] => rfl
  | [], _ :: _ => rfl
  | _ :: _, [] => rfl
  | n :: r, m :: t => by
    simp only [List.map_cons, PyData.eqvAll, PyData.eqv, eqvAll_ints r t]
    by_cases e : n = m <;> simp [e]
theorem eqv_ints (ns ms : List Int) : PyData.eqv (.list (ns.map PyData.int)) (.list (ms.map PyData.int)) = decide (ns = ms) := by
  rw [PyData.eqv, eqvAll_ints]
theorem dp_ints {ns : List Int} (h : H a = some (.lst (ns.map V.int))) : Dp K H (.ref a) (.list (ns.map PyData.int)) := .lst (.of h) (dpAll_ints ns)
theorem ne_ints {ns ms : List Int} (ha : H a = some (.lst (ns.map V.int))) (hb : H b = some (.lst (ms.map V.int))) (q : Q (.bl (!decide (ns = ms))) H) : uNe K (.ref a) (.ref b) H Q :=
  .inr ⟨_, _, dp_ints ha, dp_ints hb, shaped_ints _, shaped_ints _, by rw [eqv_ints]; exact q⟩
theorem eq_ints {ns ms : List Int} (ha : H a = some (.lst (ns.map V.int))) (hb : H b = some (.lst (ms.map V.int))) (q : Q (.bl (decide (ns = ms))) H) : uEq K (.ref a) (.ref b) H Q :=
  .inr ⟨_, _, dp_ints ha, dp_ints hb, shaped_ints _, shaped_ints _, by rw [eqv_ints]; exact q⟩
theorem ne_same {d : PyData} (h1 : Dp K H x d) (h2 : Dp K H y d) (s : SeqAt.shaped d = true) (q : Q (.bl false) H) : uNe K x y H Q :=
  .inr ⟨_, _, h1, h2, s, s, by rw [SeqAt.eqv_refl d (SeqAt.canLay_of_shaped s)]; exact q⟩
theorem eq_same {d : PyData} (h1 : Dp K H x d) (h2 : Dp K H y d) (s : SeqAt.shaped d = true) (q : Q (.bl true) H) : uEq K x y H Q :=
  .inr ⟨_, _, h1, h2, s, s, by rw [SeqAt.eqv_refl d (SeqAt.canLay_of_shaped s)]; exact q⟩
theorem depth_flat : ∀ ds : List PyData, (∀ d ∈ ds, d.depth = 0) → PyData.depthAll ds = 0
  | [], _ => rfl
  | d :: r, h => by simp [PyData.depthAll, h d (List.mem_cons_self ..), depth_flat r fun x hx => h x (List.mem_cons_of_mem _ hx)]
theorem lay_all : ∀ ds : List PyData, (∀ d ∈ ds, d.canLay0 = true) → PyData.canLayAll0 ds = true
  | [], _ => rfl
  | d :: r, h => by simp [PyData.canLayAll0, h d (List.mem_cons_self ..), lay_all r fun x hx => h x (List.mem_cons_of_mem _ hx)]
theorem shaped_flat {ds : List PyData} (h1 : ∀ d ∈ ds, d.depth = 0) (h2 : ∀ d ∈ ds, d.canLay0 = true) : SeqAt.shaped (.list ds) = true := by
  simp [SeqAt.shaped, PyData.canLay0, lay_all ds h2, PyData.depth, depth_flat ds h1]
end
end Fl

-- after: ru2.tpl gw.tpl r7.tpl eq.tpl
namespace Fl
open PySem PySem.Spec PyProof.Rows L2 RZ
/-! ### what good rules name -/
structure GoodR (g : Sg) (r : Rule) : Prop where
  ok : r.ok g 8
  fine : g.Fine
  wd : ∀ s ∈ g.pool, WdT s
  few : g.pool.length ≤ 40
theorem kw_okT : ∀ s ∈ kw, OkT 1000 s := by
  intro s hs
  simp only [kw, List.mem_cons, List.not_mem_nil, or_false] at hs
  rcases hs with rfl | rfl | rfl | rfl | rfl | rfl | rfl | rfl | rfl | rfl | rfl | rfl <;> exact ⟨by decide +kernel, by decide +kernel⟩
theorem GoodR.okD {g : Sg} {r : Rule} (h : GoodR g r) : Fl.okD r.d = true :=
  inP_ok (fun s hs => (List.mem_append.mp hs).elim (kw_okT s) fun z => (h.wd s z).ok) _ (Rule.inP h.ok)
theorem GoodR.sz {g : Sg} {r : Rule} (h : GoodR g r) : Fl.sz r.d ≤ 13121 := Rule.sz_le h.ok
/-- the whole numbers below n that stand behind a word -/
def nameI (x : Str) (n : Nat) (r : Rule) : List Int := ((List.range n).map fun (k : Nat) => (k : Int)).filter fun k => decide (V.int k ∈ r.names x)
theorem range_srt (n : Nat) : ((List.range n).map fun (k : Nat) => (k : Int)).Pairwise (· < ·) :=
  List.pairwise_map.mpr (List.pairwise_lt_range.imp fun h => by omega)
theorem nameI_srt {x : Str} {n : Nat} {r : Rule} : (nameI x n r).Pairwise (· < ·) := (range_srt n).filter _
theorem nameI_mem {x : Str} {n : Nat} {r : Rule} {k : Int} : k ∈ nameI x n r ↔ (0 ≤ k ∧ k < n) ∧ V.int k ∈ r.names x := by
  unfold nameI
  rw [List.mem_filter, List.mem_map]
  constructor
  · rintro ⟨⟨i, hi, rfl⟩, h⟩
    have := List.mem_range.mp hi
    exact ⟨⟨by omega, by omega⟩, of_decide_eq_true h⟩
  · rintro ⟨⟨h0, h1⟩, h⟩
    exact ⟨⟨k.toNat, List.mem_range.mpr (by omega), by omega⟩, decide_eq_true h⟩
theorem names_rng {g : Sg} (f : g.Fine) : ∀ {m : Nat} {r : Rule} {k : Int}, r.ok g m →
    (V.int k ∈ r.names "line" → 0 ≤ k ∧ k < g.L) ∧ (V.int k ∈ r.names "earlier" → 0 ≤ k ∧ k < g.L) ∧ (V.int k ∈ r.names "choose" → 0 ≤ k ∧ k < g.C)
  | 0, _, _, h => h.elim
  | m + 1, r, k, h => by
    have l1 : ¬ ("line" : Str) = "paper" := by decide +kernel
    have l2 : ¬ ("line" : Str) = "earlier" := by decide +kernel
    have l3 : ¬ ("line" : Str) = "table" := by decide +kernel
    have l4 : ¬ ("line" : Str) = "choose" := by decide +kernel
    have e1 : ¬ ("earlier" : Str) = "paper" := by decide +kernel
    have e2 : ¬ ("earlier" : Str) = "line" := by decide +kernel
    have e3 : ¬ ("earlier" : Str) = "table" := by decide +kernel
    have e4 : ¬ ("earlier" : Str) = "choose" := by decide +kernel
    have c1 : ¬ ("choose" : Str) = "paper" := by decide +kernel
    have c2 : ¬ ("choose" : Str) = "line" := by decide +kernel
    have c3 : ¬ ("choose" : Str) = "table" := by decide +kernel
    have c4 : ¬ ("choose" : Str) = "earlier" := by decide +kernel
    cases r with
    | num n => simp [Rule.names]
    | paper w => simp [Rule.names, l1, e1, c1]
    | line i =>
      have hi := f.seen i h
      simp only [Rule.names, if_true, if_neg e2, if_neg c2, List.mem_singleton, V.int.injEq, List.not_mem_nil, false_implies, and_true, true_and]
      rintro rfl
      exact hi
    | earl i =>
      have hi := (show 0 ≤ i ∧ i < g.L from h)
      simp only [Rule.names, if_true, if_neg l2, if_neg c4, List.mem_singleton, V.int.injEq, List.not_mem_nil, false_implies, and_true, true_and]
      rintro rfl
      exact hi
    | two w a b =>
      have ha := names_rng f (k := k) h.2.1
      have hb := names_rng f (k := k) h.2.2
      simp only [Rule.names, List.mem_append]
      exact ⟨fun z => z.elim ha.1 hb.1, fun z => z.elim ha.2.1 hb.2.1, fun z => z.elim ha.2.2 hb.2.2⟩
    | part a p => exact names_rng f (k := k) (r := a) h.2
    | table i a =>
      have ha := names_rng f (k := k) h.2
      simp only [Rule.names, if_neg l3, if_neg e3, if_neg c3, List.nil_append]
      exact ha
    | wher a b c =>
      have ha := names_rng f (k := k) h.1
      have hb := names_rng f (k := k) h.2.1
      have hc := names_rng f (k := k) h.2.2
      simp only [Rule.names, List.mem_append]
      exact ⟨fun z => z.elim ha.1 fun z => z.elim hb.1 hc.1, fun z => z.elim ha.2.1 fun z => z.elim hb.2.1 hc.2.1, fun z => z.elim ha.2.2 fun z => z.elim hb.2.2 hc.2.2⟩
    | choo i a b =>
      have ha := names_rng f (k := k) h.2.1
      have hb := names_rng f (k := k) h.2.2
      have hi := h.1
      simp only [Rule.names, List.mem_append, if_true, if_neg l4, if_neg e4, List.mem_singleton, V.int.injEq, List.nil_append]
      exact ⟨fun z => z.elim ha.1 hb.1, fun z => z.elim ha.2.1 hb.2.1, fun z => z.elim (fun e => by rw [e]; exact hi) fun z => z.elim ha.2.2 hb.2.2⟩
theorem pw_nodup {xs : List Int} (h : xs.Pairwise (· < ·)) : xs.Nodup := h.imp fun h e => by omega
theorem canon_int {x : Str} {n : Nat} {r : Rule} (hb : ∀ k, V.int k ∈ r.names x → 0 ≤ k ∧ k < n) (hi : ∀ v ∈ r.names x, okK false v) {ys : List V} (cn : Canon false ys (r.names x)) : ys = (nameI x n r).map V.int := by
  refine cn.eq ⟨fun v hv => ?_, ?_, ?_, fun v => ?_⟩
  · obtain ⟨k, _, rfl⟩ := List.mem_map.mp hv
    exact ⟨k, rfl⟩
  · refine List.pairwise_map.mpr (nameI_srt.imp fun h => ?_)
    exact Int.le_of_lt h
  · exact List.pairwise_map.mpr (nameI_srt.imp fun h e => by injection e with e; omega)
  · constructor
    · intro hv
      obtain ⟨k, hk, rfl⟩ := List.mem_map.mp hv
      exact (nameI_mem.mp hk).2
    · intro hv
      obtain ⟨k, rfl⟩ := hi v hv
      exact List.mem_map.mpr ⟨k, nameI_mem.mpr ⟨hb k hv, hv⟩, rfl⟩
/-- how many there are of these -/
def wordN (x : Str) (g : Sg) : Int := if x = "choose" then g.C else g.L
theorem named_use {g : Sg} {r : Rule} (h : GoodR g r) {H : Hp} {a : V} (at' : At H r.d a) {x : Str} (hx : x = "line" ∨ x = "earlier" ∨ x = "choose") {n : Nat} (hn : wordN x g = n) {Q : VK} {E : XK}
    (q : ∀ p H', Same H H' → H p = none → H' p = some (.lst ((nameI x n r).map V.int)) → Q (.ref p) H') : sp_law_named 8 a (.str x) H Q E := by
  have hf : fiveW false x := .inr ⟨rfl, by rcases hx with rfl | rfl | rfl <;> simp⟩
  have isr := Rule.isR h.fine h.ok
  have ev := Rule.vals (g := g) hf h.ok
  refine ⟨r.d, g.L, g.T, g.C, x, false, at', h.okD, Nat.le_trans h.sz (by decide), isr, rfl, hf, (fun z => by cases z), fun p H' ys sm hp e cn => ?_⟩
  rw [ev] at cn
  refine q p H' sm hp ?_
  rw [e, canon_int (n := n) (fun k hk => ?_) (fun v hv => ?_) cn]
  · have rg := names_rng h.fine (k := k) h.ok
    unfold wordN at hn
    rcases hx with rfl | rfl | rfl
    · rw [if_neg (by decide +kernel)] at hn
      rw [← hn]
      exact rg.1 hk
    · rw [if_neg (by decide +kernel)] at hn
      rw [← hn]
      exact rg.2.1 hk
    · rw [if_pos rfl] at hn
      rw [← hn]
      exact rg.2.2 hk
  · rw [← ev] at hv
    exact vals_ok hf isr v hv
/-- the lines that each line names -/
def adjR (n : Nat) (rs : List Rule) (k : Int) : List Int := if 0 ≤ k then match rs[k.toNat]? with | some r => nameI "line" n r | none => [] else []
theorem adjR_at {n : Nat} {rs : List Rule} {i : Nat} {r : Rule} (h : rs[i]? = some r) : adjR n rs i = nameI "line" n r := by
  unfold adjR
  rw [if_pos (by omega), Int.toNat_natCast, h]
theorem adjR_adj {n : Nat} {rs : List Rule} : ∀ k, (adjR n rs k).Pairwise (· < ·) ∧ ∀ y ∈ adjR n rs k, 0 ≤ y ∧ y < n := by
  intro k
  unfold adjR
  split
  · split
    · exact ⟨nameI_srt, fun y hy => (nameI_mem.mp hy).1⟩
    · exact ⟨List.Pairwise.nil, fun y hy => by cases hy⟩
  · exact ⟨List.Pairwise.nil, fun y hy => by cases hy⟩
end Fl

-- after:
namespace Fl
/-! ### rings: walks in a graph, by lists -/
/-- each one names the next -/
def Ch (adj : Int → List Int) : List Int → Prop
  | [] => True
  | [_] => True
  | a :: b :: r => b ∈ adj a ∧ Ch adj (b :: r)
section
variable {adj : Int → List Int}
theorem Ch.tail {a : Int} {r : List Int} (h : Ch adj (a :: r)) : Ch adj r := by
  cases r with
  | nil => trivial
  | cons b t => exact h.2
theorem ch_split : ∀ {x : List Int} {y : Int} {z : List Int}, Ch adj (x ++ y :: z) ↔ Ch adj (x ++ [y]) ∧ Ch adj (y :: z)
  | [], y, z => ⟨fun h => ⟨trivial, h⟩, fun h => h.2⟩
  | [a], y, z => ⟨fun h => ⟨⟨h.1, trivial⟩, h.2⟩, fun h => ⟨h.1.1, h.2⟩⟩
  | a :: b :: x, y, z => by
    have ih := ch_split (x := b :: x) (y := y) (z := z)
    exact ⟨fun h => ⟨⟨h.1, (ih.mp h.2).1⟩, (ih.mp h.2).2⟩, fun h => ⟨h.1.1, ih.mpr ⟨h.1.2, h.2⟩⟩⟩
/-- a ring of m lines from f on: each names the next, the last the first -/
structure Ring (adj : Int → List Int) (f : Int) (w : List Int) : Prop where
  hd : ∃ r, w = f :: r
  ch : Ch adj (w ++ [f])
/-- .. whose other lines are later ones -/
structure Ring' (adj : Int → List Int) (f : Int) (w : List Int) : Prop extends Ring adj f w where
  up : ∀ x ∈ w.tail, f < x
theorem min_of : ∀ {w : List Int}, w ≠ [] → ∃ m ∈ w, ∀ x ∈ w, m ≤ x
  | [], h => absurd rfl h
  | [a], _ => ⟨a, by simp, by simp⟩
  | a :: b :: r, _ => by
    obtain ⟨m, hm, h⟩ := min_of (w := b :: r) (by simp)
    by_cases c : a ≤ m
    · refine ⟨a, by simp, fun x hx => ?_⟩
      rcases List.mem_cons.mp hx with e | e
      · omega
      · have := h x e
        omega
    · refine ⟨m, List.mem_cons_of_mem _ hm, fun x hx => ?_⟩
      rcases List.mem_cons.mp hx with e | e
      · omega
      · exact h x e
theorem first_of {m : Int} : ∀ {w : List Int}, m ∈ w → ∃ u t, w = u ++ m :: t ∧ m ∉ u
  | a :: r, h => by
    by_cases c : a = m
    · exact ⟨[], r, by rw [c]; rfl, by simp⟩
    · have h' : m ∈ r := (List.mem_cons.mp h).resolve_left fun e => c e.symm
      obtain ⟨u, t, rfl, n⟩ := first_of h'
      exact ⟨a :: u, t, rfl, fun z => (List.mem_cons.mp z).elim (fun e => c e.symm) n⟩
theorem last_of {m : Int} : ∀ {w : List Int}, m ∈ w → ∃ s v, w = s ++ m :: v ∧ m ∉ v
  | a :: r, h => by
    by_cases c : m ∈ r
    · obtain ⟨s, v, rfl, n⟩ := last_of c
      exact ⟨a :: s, v, rfl, n⟩
    · have e : m = a := (List.mem_cons.mp h).resolve_right c
      exact ⟨[], r, by rw [e]; rfl, c⟩
/-- any ring holds one from its least line on, no longer -/
theorem Ring.least {f : Int} {w : List Int} (h : Ring adj f w) : ∃ m w', m ∈ w ∧ (∀ x ∈ w, m ≤ x) ∧ Ring' adj m w' ∧ w'.length ≤ w.length ∧ (w'.length = w.length → m = f → w' = w) := by
  obtain ⟨r, hr⟩ := h.hd
  obtain ⟨m, hm, hmin⟩ := min_of (w := w) (by rw [hr]; simp)
  obtain ⟨u, t, e1, n1⟩ := first_of hm
  obtain ⟨s, v, e2, n2⟩ := last_of hm
  have c1 := h.ch
  have len1 : w.length = u.length + 1 + t.length := by rw [e1]; simp; omega
  have len2 : w.length = s.length + 1 + v.length := by rw [e2]; simp; omega
  have ule : u.length ≤ s.length := by
    rcases Nat.lt_or_ge s.length u.length with z | z
    · exfalso
      apply n1
      have e3 : w[s.length]? = some m := by rw [e2]; simp
      rw [e1, List.getElem?_append_left z] at e3
      exact List.mem_of_getElem? e3
    · exact z
  have hv : ∀ x ∈ v, m < x := fun x hx => by
    have h1 := hmin x (by rw [e2]; simp [hx])
    have h2 : x ≠ m := fun e => n2 (e ▸ hx)
    omega
  have hu : ∀ x ∈ u, m < x := fun x hx => by
    have h1 := hmin x (by rw [e1]; simp [hx])
    have h2 : x ≠ m := fun e => n1 (e ▸ hx)
    omega
  have c2 : Ch adj (m :: v ++ [f]) := by
    have c := c1
    rw [e2, List.append_assoc, List.cons_append] at c
    exact (ch_split.mp c).2
  refine ⟨m, m :: v ++ u, hm, hmin, ⟨⟨⟨v ++ u, rfl⟩, ?_⟩, fun x hx => ?_⟩, by simp; omega, fun el ef => ?_⟩
  · cases u with
    | nil =>
      have ef : f = m := by
        rw [hr] at e1
        simp at e1
        exact e1.1
      rw [List.append_nil]
      rw [ef] at c2
      exact c2
    | cons a u' =>
      have ef : a = f := by
        rw [hr] at e1
        simp at e1
        exact e1.1.symm
      have c3 : Ch adj ((a :: u') ++ [m]) := by
        have c := c1
        rw [e1, List.append_assoc, List.cons_append] at c
        exact (ch_split.mp c).1
      rw [ef] at c3 ⊢
      rw [List.append_assoc, List.cons_append, List.cons_append]
      rw [List.cons_append] at c2 c3
      exact (ch_split (x := m :: v) (y := f) (z := u' ++ [m])).mpr ⟨c2, c3⟩
  · have hx' : x ∈ v ++ u := hx
    exact (List.mem_append.mp hx').elim (hv x) (hu x)
  · have ul : u.length = s.length := by simp at el; omega
    have un : u = [] := by
      cases u with
      | nil => rfl
      | cons a u' =>
        exfalso
        rw [hr] at e1
        simp at e1
        exact n1 (by rw [ef, e1.1]; simp)
    rw [un] at ul
    have sn : s = [] := List.eq_nil_of_length_eq_zero ul.symm
    rw [un, e2, sn]
    simp
end
/-! ### lists of one length, in order -/
def lexLt : List Int → List Int → Prop
  | a :: r, b :: t => a < b ∨ (a = b ∧ lexLt r t)
  | _, _ => False
def lexLe (x y : List Int) : Prop := x = y ∨ lexLt x y
theorem lexLt.trans : ∀ {x y z : List Int}, lexLt x y → lexLt y z → lexLt x z
  | a :: r, b :: t, c :: u, h, k => by
    rcases h with h | ⟨rfl, h⟩ <;> rcases k with k | ⟨rfl, k⟩
    · exact .inl (by omega)
    · exact .inl h
    · exact .inl k
    · exact .inr ⟨rfl, lexLt.trans h k⟩
theorem lexLt.irrefl : ∀ {x : List Int}, ¬ lexLt x x
  | [], h => h
  | a :: r, h => by
    rcases h with h | ⟨_, h⟩
    · omega
    · exact lexLt.irrefl h
theorem lexLe.trans {x y z : List Int} (h : lexLe x y) (k : lexLe y z) : lexLe x z := by
  rcases h with rfl | h
  · exact k
  · rcases k with rfl | k
    · exact .inr h
    · exact .inr (h.trans k)
theorem lexLe.antisymm {x y : List Int} (h : lexLe x y) (k : lexLe y x) : x = y := by
  rcases h with rfl | h
  · rfl
  · rcases k with rfl | k
    · rfl
    · exact absurd (h.trans k) lexLt.irrefl
theorem lexLt.app : ∀ {x y u v : List Int}, lexLt x y → lexLt (x ++ u) (y ++ v)
  | a :: r, b :: t, _, _, h => by
    rcases h with h | ⟨rfl, h⟩
    · exact .inl h
    · exact .inr ⟨rfl, lexLt.app h⟩
theorem lexLt.tail : ∀ {x u v : List Int}, lexLt u v → lexLt (x ++ u) (x ++ v)
  | [], _, _, h => h
  | a :: r, _, _, h => .inr ⟨rfl, lexLt.tail h⟩
theorem lexLe.app1 {x y : List Int} {k : Int} (h : lexLe x y) : lexLe (x ++ [k]) (y ++ [k]) := by
  rcases h with rfl | h
  · exact .inl rfl
  · exact .inr h.app
/-- the ring that is told: as short as any, from the least line that such begin with, the least list -/
structure Told (adj : Int → List Int) (f : Int) (w : List Int) : Prop where
  ring : Ring adj f w
  short : ∀ g v, Ring adj g v → w.length ≤ v.length
  first : ∀ g v, g < f → Ring adj g v → w.length < v.length
  least : ∀ v, Ring adj f v → v.length = w.length → lexLe w v
theorem Told.eq {adj : Int → List Int} {f g : Int} {w v : List Int} (h : Told adj f w) (k : Told adj g v) : w = v := by
  have l : w.length = v.length := Nat.le_antisymm (h.short _ _ k.ring) (k.short _ _ h.ring)
  have e : f = g := by
    rcases Int.lt_trichotomy f g with z | z | z
    · have := k.first _ _ z h.ring
      omega
    · exact z
    · have := h.first _ _ z k.ring
      omega
  subst e
  exact (h.least v k.ring l.symm).antisymm (k.least w h.ring l)
/-- from the rings whose other lines are later ones -/
structure Told' (adj : Int → List Int) (f : Int) (w : List Int) : Prop where
  ring : Ring' adj f w
  short : ∀ g v, Ring' adj g v → w.length ≤ v.length
  first : ∀ g v, g < f → Ring' adj g v → w.length < v.length
  least : ∀ v, Ring' adj f v → v.length = w.length → lexLe w v
theorem Told'.told {adj : Int → List Int} {f : Int} {w : List Int} (h : Told' adj f w) : Told adj f w where
  ring := h.ring.toRing
  short := fun g v r => by
    obtain ⟨m, v', _, _, r', l, _⟩ := r.least
    exact Nat.le_trans (h.short _ _ r') l
  first := fun g v lt r => by
    obtain ⟨m, v', _, hm, r', l, _⟩ := r.least
    obtain ⟨t, rfl⟩ := r.hd
    have := hm g (by simp)
    exact Nat.lt_of_lt_of_le (h.first _ _ (by omega) r') l
  least := fun v r el => by
    obtain ⟨m, v', _, hm, r', l, e⟩ := r.least
    obtain ⟨t, rfl⟩ := r.hd
    have h1 := hm f (by simp)
    have h2 := h.short _ _ r'
    have h3 : m = f := by
      rcases Int.lt_trichotomy m f with z | z | z
      · have := h.first _ _ z r'
        omega
      · exact z
      · omega
    have h4 := e (by omega) h3
    subst h3
    rw [← h4]
    exact h.least v' r' (by omega)
end Fl

-- after: m4.tpl
namespace Fl
/-! ### the search for a ring, step by step -/
def foldE {α β ε : Type} (g : β → α → Except ε β) : β → List α → Except ε β
  | b, [] => .ok b
  | b, a :: r => match g b a with
    | .error e => .error e
    | .ok b' => foldE g b' r
theorem foldE_app {α β ε : Type} {g : β → α → Except ε β} : ∀ {xs ys : List α} {b : β}, foldE g b (xs ++ ys) = match foldE g b xs with | .error e => Except.error e | .ok b' => foldE g b' ys
  | [], ys, b => rfl
  | x :: xs, ys, b => by
    show (match g b x with | .error e => Except.error e | .ok b' => foldE g b' (xs ++ ys)) = _
    rw [foldE]
    cases g b x with
    | error e => rfl
    | ok b' => exact foldE_app
theorem foldE_run {α β ε : Type} {g : β → α → Except ε β} {I : List α → β → Prop} : ∀ (xs pre : List α) (b : β), I pre b →
    (∀ p x q st st', xs = p ++ x :: q → I (pre ++ p) st → g st x = .ok st' → I (pre ++ p ++ [x]) st') →
    match foldE g b xs with
    | .ok r => I (pre ++ xs) r
    | .error e => ∃ p x q st, xs = p ++ x :: q ∧ I (pre ++ p) st ∧ g st x = .error e
  | [], pre, b, h, _ => by
    simpa [foldE] using h
  | x :: xs, pre, b, h, hs => by
    rw [foldE]
    cases e : g b x with
    | error e' => exact ⟨[], x, xs, b, rfl, by simpa using h, e⟩
    | ok b' =>
      have h1 := hs [] x xs b b' rfl (by simpa using h) e
      have ih := foldE_run xs (pre ++ [x]) b' (by simpa using h1) fun p y q st st' e1 i1 e2 => by
        have := hs (x :: p) y q st st' (by rw [e1]; rfl) (by simpa using i1) e2
        simpa using this
      dsimp only
      cases e3 : foldE g b' xs with
      | ok r =>
        rw [e3] at ih
        simpa using ih
      | error e' =>
        rw [e3] at ih
        obtain ⟨p, y, q, st, e4, i4, g4⟩ := ih
        exact ⟨x :: p, y, q, st, by rw [e4]; rfl, by simpa using i4, g4⟩
def rfStep (f : Int) (st : List Int × List (List Int)) (p : List Int × Int) : Except (List Int) (List Int × List (List Int)) :=
  if p.2 = f then .error p.1 else if f < p.2 ∧ p.2 ∉ st.1 then .ok (st.1 ++ [p.2], st.2 ++ [p.1 ++ [p.2]]) else .ok st
def lastF (f : Int) (w : List Int) : Int := w.getLastD f
theorem lastF_app {f y : Int} {w : List Int} : lastF f (w ++ [y]) = y := by simp [lastF]
def rfPairs (adj : Int → List Int) (f : Int) (ways : List (List Int)) : List (List Int × Int) := ways.flatMap fun w => (adj (lastF f w)).map fun y => (w, y)
def rf (adj : Int → List Int) (f : Int) : Nat → List (List Int) → List Int → List Int
  | 0, _, _ => []
  | n + 1, ways, seen => if ways = [] then [] else match foldE (rfStep f) (seen, []) (rfPairs adj f ways) with
    | .error w => w
    | .ok st => rf adj f n st.2 st.1
section
variable {adj : Int → List Int} {f : Int}
/-- a way of so many steps from f on by later lines -/
structure Pth (adj : Int → List Int) (f : Int) (l : Nat) (w : List Int) : Prop where
  hd : ∃ r, w = f :: r ∧ r.length = l
  ch : Ch adj w
  up : ∀ x ∈ w.tail, f < x
theorem Pth.len {l : Nat} {w : List Int} (h : Pth adj f l w) : w.length = l + 1 := by
  obtain ⟨r, rfl, e⟩ := h.hd
  simp [e]
theorem lastF_split {w : List Int} (h : w ≠ []) : ∃ u, w = u ++ [lastF f w] := by
  refine ⟨w.dropLast, ?_⟩
  have e : lastF f w = w.getLast h := by
    unfold lastF
    rw [List.getLastD_eq_getLast?, List.getLast?_eq_some_getLast h]
    rfl
  rw [e]
  exact (List.dropLast_concat_getLast h).symm
theorem Pth.snoc {l : Nat} {w : List Int} {y : Int} (h : Pth adj f l w) (hy : y ∈ adj (lastF f w)) (up : f < y) : Pth adj f (l + 1) (w ++ [y]) := by
  obtain ⟨r, e, el⟩ := h.hd
  obtain ⟨u, eu⟩ := lastF_split (f := f) (w := w) (by rw [e]; simp)
  refine ⟨⟨r ++ [y], by rw [e]; rfl, by simp [el]⟩, ?_, fun x hx => ?_⟩
  · have c := h.ch
    rw [eu] at c ⊢
    rw [List.append_assoc]
    exact ch_split.mpr ⟨c, ⟨by simpa [lastF_app] using hy, trivial⟩⟩
  · rw [e] at hx
    simp at hx
    rcases hx with hx | rfl
    · exact h.up x (by rw [e]; exact hx)
    · exact up
theorem Pth.split {l : Nat} {w : List Int} (h : Pth adj f (l + 1) w) : ∃ u y, w = u ++ [y] ∧ Pth adj f l u ∧ y ∈ adj (lastF f u) ∧ f < y := by
  obtain ⟨r, e, el⟩ := h.hd
  have rn : r ≠ [] := by rintro rfl; simp at el
  obtain ⟨t, y, rfl⟩ : ∃ t y, r = t ++ [y] := ⟨r.dropLast, r.getLast rn, (List.dropLast_concat_getLast rn).symm⟩
  have el' : t.length = l := by simpa using el
  obtain ⟨u, eu⟩ := lastF_split (f := f) (w := f :: t) (by simp)
  have c := h.ch
  rw [e, ← List.cons_append, eu, List.append_assoc] at c
  have c2 := ch_split.mp c
  refine ⟨f :: t, y, by rw [e]; rfl, ⟨⟨t, rfl, el'⟩, by rw [eu]; exact c2.1, fun x hx => h.up x (by rw [e]; simp; exact .inl hx)⟩, c2.2.1, h.up y (by rw [e]; simp)⟩
theorem pth_ring {l : Nat} {w : List Int} : Pth adj f l w → f ∈ adj (lastF f w) → Ring' adj f w := fun h hf => by
  obtain ⟨r, e, el⟩ := h.hd
  obtain ⟨u, eu⟩ := lastF_split (f := f) (w := w) (by rw [e]; simp)
  refine ⟨⟨⟨r, e⟩, ?_⟩, h.up⟩
  have c := h.ch
  rw [eu] at c
  rw [eu, List.append_assoc]
  exact ch_split.mpr ⟨c, ⟨hf, trivial⟩⟩
theorem ring_pth {w : List Int} (h : Ring' adj f w) : ∃ l, Pth adj f l w ∧ w.length = l + 1 ∧ f ∈ adj (lastF f w) := by
  obtain ⟨r, e⟩ := h.hd
  obtain ⟨u, eu⟩ := lastF_split (f := f) (w := w) (by rw [e]; simp)
  have c := h.ch
  rw [eu, List.append_assoc] at c
  have c2 := ch_split.mp c
  refine ⟨r.length, ⟨⟨r, e, rfl⟩, by rw [eu]; exact c2.1, h.up⟩, by rw [e]; simp, c2.2.1⟩
/-- what holds when the ways of l steps are known -/
structure BI (adj : Int → List Int) (f : Int) (l : Nat) (ways : List (List Int)) (seen : List Int) : Prop where
  pth : ∀ w ∈ ways, Pth adj f l w
  srt : ways.Pairwise lexLt
  cov : ∀ w, Pth adj f l w → (∃ l' w', l' < l ∧ Pth adj f l' w' ∧ lastF f w' = lastF f w) ∨ ∃ v ∈ ways, lastF f v = lastF f w ∧ lexLe v w
  noc : ∀ l' w, l' < l → Pth adj f l' w → f ∉ adj (lastF f w)
  sn : ∀ x ∈ seen, ∃ l' w, l' ≤ l ∧ Pth adj f l' w ∧ lastF f w = x
  nd : seen.Nodup
  up : ∀ x ∈ seen, f < x ∧ ∃ a, x ∈ adj a
  cnt : ways ≠ [] → l ≤ seen.length
theorem BI.start : BI adj f 0 [[f]] [] where
  pth := fun w hw => by
    rw [List.mem_singleton.mp hw]
    exact ⟨⟨[], rfl, rfl⟩, trivial, by simp⟩
  srt := List.pairwise_singleton _ _
  cov := fun w h => by
    obtain ⟨r, e, el⟩ := h.hd
    have : r = [] := List.eq_nil_of_length_eq_zero el
    subst this
    exact .inr ⟨[f], by simp, by rw [e], .inl e.symm⟩
  noc := fun l' _ h => by omega
  sn := by simp
  nd := List.nodup_nil
  up := by simp
  cnt := by simp
/-- .. within a turn -/
structure TI (f : Int) (seen0 : List Int) (pre : List (List Int × Int)) (st : List Int × List (List Int)) : Prop where
  j1 : ∀ v ∈ st.2, ∃ p ∈ pre, v = p.1 ++ [p.2] ∧ f < p.2 ∧ p.2 ∉ seen0
  j2 : st.2.Pairwise lexLt
  j3 : ∀ p ∈ pre, f < p.2 → p.2 ∈ seen0 ∨ ∃ v ∈ st.2, lastF f v = p.2 ∧ lexLe v (p.1 ++ [p.2])
  j4 : st.1 = seen0 ++ st.2.map (lastF f)
  j5 : ∀ p ∈ pre, p.2 ≠ f
  j6 : st.1.Nodup
theorem pairs_srt (hs : ∀ a, (adj a).Pairwise (· < ·)) : ∀ {ways : List (List Int)}, ways.Pairwise lexLt → (rfPairs adj f ways).Pairwise fun p q => lexLt (p.1 ++ [p.2]) (q.1 ++ [q.2])
  | [], _ => List.Pairwise.nil
  | w :: r, h => by
    have h' := List.pairwise_cons.mp h
    show ((adj (lastF f w)).map (fun y => (w, y)) ++ rfPairs adj f r).Pairwise _
    refine List.pairwise_append.mpr ⟨?_, pairs_srt hs h'.2, fun p hp q hq => ?_⟩
    · refine List.pairwise_map.mpr ((hs _).imp fun {a b} lt => ?_)
      exact lexLt.tail (x := w) (u := [a]) (v := [b]) (.inl lt)
    · obtain ⟨y, _, rfl⟩ := List.mem_map.mp hp
      obtain ⟨w', hw', hq'⟩ := List.mem_flatMap.mp hq
      obtain ⟨z, _, rfl⟩ := List.mem_map.mp hq'
      exact (h'.1 w' hw').app
theorem mem_pairs {ways : List (List Int)} {p : List Int × Int} : p ∈ rfPairs adj f ways ↔ p.1 ∈ ways ∧ p.2 ∈ adj (lastF f p.1) := by
  unfold rfPairs
  rw [List.mem_flatMap]
  constructor
  · rintro ⟨w, hw, hp⟩
    obtain ⟨y, hy, rfl⟩ := List.mem_map.mp hp
    exact ⟨hw, hy⟩
  · rintro ⟨h1, h2⟩
    exact ⟨p.1, h1, List.mem_map.mpr ⟨p.2, h2, rfl⟩⟩
theorem turn_xs {seen : List Int} (nd : seen.Nodup) {xs : List (List Int × Int)} (srt : xs.Pairwise fun p q => lexLt (p.1 ++ [p.2]) (q.1 ++ [q.2])) :
    match foldE (rfStep f) (seen, []) xs with
    | .ok r => TI f seen xs r
    | .error e => ∃ p x q st, xs = p ++ x :: q ∧ TI f seen p st ∧ rfStep f st x = .error e := by
  have run := foldE_run (g := rfStep f) (I := TI f seen) xs [] (seen, []) ⟨by simp, List.Pairwise.nil, by simp, by simp, by simp, nd⟩ ?_
  · simp only [List.nil_append] at run
    cases e : foldE (rfStep f) (seen, []) xs with
    | ok r => rw [e] at run; exact run
    | error r => rw [e] at run; exact run
  intro p x q st st' e i g
  rw [List.nil_append] at i ⊢
  unfold rfStep at g
  rw [e] at srt
  have s1 := List.pairwise_append.mp srt
  by_cases c : x.2 = f
  · rw [if_pos c] at g
    cases g
  rw [if_neg c] at g
  by_cases c2 : f < x.2 ∧ x.2 ∉ st.1
  · rw [if_pos c2] at g
    cases g
    have c3 : x.2 ∉ seen := fun z => c2.2 (by rw [i.j4]; exact List.mem_append_left _ z)
    refine ⟨fun v hv => ?_, ?_, fun y hy up => ?_, ?_, fun y hy => ?_, ?_⟩
    · rcases List.mem_append.mp hv with z | z
      · obtain ⟨y, hy, r⟩ := i.j1 v z
        exact ⟨y, List.mem_append_left _ hy, r⟩
      · exact ⟨x, by simp, List.mem_singleton.mp z, c2.1, c3⟩
    · refine List.pairwise_append.mpr ⟨i.j2, List.pairwise_singleton _ _, fun a ha b hb => ?_⟩
      rw [List.mem_singleton.mp hb]
      obtain ⟨y, hy, rfl, _⟩ := i.j1 a ha
      exact s1.2.2 y hy x (List.mem_cons_self ..)
    · rcases List.mem_append.mp hy with z | z
      · exact (i.j3 y z up).imp id fun ⟨v, hv, r⟩ => ⟨v, List.mem_append_left _ hv, r⟩
      · rw [List.mem_singleton.mp z]
        exact .inr ⟨x.1 ++ [x.2], by simp, lastF_app, .inl rfl⟩
    · simp only []
      rw [i.j4, List.map_append, List.append_assoc]
      simp [lastF_app]
    · rcases List.mem_append.mp hy with z | z
      · exact i.j5 y z
      · rw [List.mem_singleton.mp z]
        exact c
    · refine List.nodup_append.mpr ⟨i.j6, by simp, fun a ha b hb ab => ?_⟩
      rw [List.mem_singleton.mp hb] at ab
      exact c2.2 (ab ▸ ha)
  · rw [if_neg c2] at g
    cases g
    refine ⟨fun v hv => ?_, i.j2, fun y hy up => ?_, i.j4, fun y hy => ?_, i.j6⟩
    · obtain ⟨y, hy, r⟩ := i.j1 v hv
      exact ⟨y, List.mem_append_left _ hy, r⟩
    · rcases List.mem_append.mp hy with z | z
      · exact i.j3 y z up
      · rw [List.mem_singleton.mp z] at up ⊢
        have z2 : x.2 ∈ st.1 := Classical.byContradiction fun z3 => c2 ⟨up, z3⟩
        rw [i.j4] at z2
        rcases List.mem_append.mp z2 with z3 | z3
        · exact .inl z3
        · obtain ⟨v, hv, ev⟩ := List.mem_map.mp z3
          refine .inr ⟨v, hv, ev, ?_⟩
          obtain ⟨y, hy, rfl, _⟩ := i.j1 v hv
          exact .inr (s1.2.2 y hy x (List.mem_cons_self ..))
    · rcases List.mem_append.mp hy with z | z
      · exact i.j5 y z
      · rw [List.mem_singleton.mp z]
        exact c
theorem turn_run (hs : ∀ a, (adj a).Pairwise (· < ·)) {l : Nat} {ways : List (List Int)} {seen : List Int} (h : BI adj f l ways seen) :
    match foldE (rfStep f) (seen, []) (rfPairs adj f ways) with
    | .ok r => TI f seen (rfPairs adj f ways) r
    | .error e => ∃ p x q st, rfPairs adj f ways = p ++ x :: q ∧ TI f seen p st ∧ rfStep f st x = .error e :=
  turn_xs h.nd (pairs_srt hs h.srt)
/-- .. a part of a turn -/
theorem turn_pre (hs : ∀ a, (adj a).Pairwise (· < ·)) {l : Nat} {ways : List (List Int)} {seen : List Int} (h : BI adj f l ways seen) {p q : List (List Int × Int)} (e : rfPairs adj f ways = p ++ q) {st : List Int × List (List Int)}
    (r : foldE (rfStep f) (seen, []) p = .ok st) : TI f seen p st := by
  have srt := pairs_srt (f := f) hs h.srt
  rw [e] at srt
  have t := turn_xs (f := f) h.nd (List.pairwise_append.mp srt).1
  rw [r] at t
  exact t
theorem BI.next (hs : ∀ a, (adj a).Pairwise (· < ·)) {l : Nat} {ways : List (List Int)} {seen : List Int} (h : BI adj f l ways seen) (wn : ways ≠ []) {st : List Int × List (List Int)}
    (e : foldE (rfStep f) (seen, []) (rfPairs adj f ways) = .ok st) : BI adj f (l + 1) st.2 st.1 ∧ st.1.length = seen.length + st.2.length := by
  have t := turn_run hs h
  rw [e] at t
  have t : TI f seen (rfPairs adj f ways) st := t
  have len : st.1.length = seen.length + st.2.length := by
    rw [t.j4]
    simp
  refine ⟨⟨fun w hw => ?_, t.j2, fun w hw => ?_, fun l' w hl hw => ?_, fun x hx => ?_, t.j6, fun x hx => ?_, fun ne => ?_⟩, len⟩
  · obtain ⟨p, hp, rfl, up, _⟩ := t.j1 w hw
    obtain ⟨h1, h2⟩ := mem_pairs.mp hp
    exact (h.pth _ h1).snoc h2 up
  · obtain ⟨u, y, rfl, hu, hy, up⟩ := hw.split
    rcases h.cov u hu with ⟨l', w', hl, hw', ew⟩ | ⟨v, hv, ev, le⟩
    · exact .inl ⟨l' + 1, w' ++ [y], by omega, hw'.snoc (by rw [ew]; exact hy) up, by rw [lastF_app, lastF_app]⟩
    · rcases t.j3 (v, y) (mem_pairs.mpr ⟨hv, by show y ∈ adj (lastF f v); rw [ev]; exact hy⟩) up with z | ⟨v', hv', ev', le'⟩
      · obtain ⟨l', w', hl, hw', ew⟩ := h.sn y z
        exact .inl ⟨l', w', by omega, hw', by rw [lastF_app]; exact ew⟩
      · exact .inr ⟨v', hv', by rw [lastF_app]; exact ev', le'.trans le.app1⟩
  · intro hf
    rcases Nat.lt_or_ge l' l with z | z
    · exact h.noc l' w z hw hf
    · have el : l' = l := by omega
      subst el
      rcases h.cov w hw with ⟨l'', w', hl, hw', ew⟩ | ⟨v, hv, ev, _⟩
      · exact h.noc l'' w' hl hw' (by rw [ew]; exact hf)
      · exact t.j5 (v, f) (mem_pairs.mpr ⟨hv, by show f ∈ adj (lastF f v); rw [ev]; exact hf⟩) rfl
  · rw [t.j4] at hx
    rcases List.mem_append.mp hx with z | z
    · obtain ⟨l', w, hl, r⟩ := h.sn x z
      exact ⟨l', w, by omega, r⟩
    · obtain ⟨v, hv, ev⟩ := List.mem_map.mp z
      obtain ⟨p, hp, rfl, up, _⟩ := t.j1 v hv
      obtain ⟨h1, h2⟩ := mem_pairs.mp hp
      exact ⟨l + 1, _, Nat.le_refl _, (h.pth _ h1).snoc h2 up, ev⟩
  · rw [t.j4] at hx
    rcases List.mem_append.mp hx with z | z
    · exact h.up x z
    · obtain ⟨v, hv, ev⟩ := List.mem_map.mp z
      obtain ⟨p, hp, rfl, up, _⟩ := t.j1 v hv
      obtain ⟨h1, h2⟩ := mem_pairs.mp hp
      rw [lastF_app] at ev
      rw [← ev]
      exact ⟨up, _, h2⟩
  · have h1 := h.cnt wn
    have h2 : 0 < st.2.length := List.length_pos_iff.mpr ne
    omega
/-- what ring_from tells -/
structure RfOk (adj : Int → List Int) (f : Int) (R : List Int) : Prop where
  none : R = [] → ∀ v, ¬ Ring' adj f v
  ring : R ≠ [] → Ring' adj f R
  short : ∀ v, Ring' adj f v → R.length ≤ v.length
  least : ∀ v, Ring' adj f v → v.length = R.length → lexLe R v
theorem BI.found (hs : ∀ a, (adj a).Pairwise (· < ·)) {l : Nat} {ways : List (List Int)} {seen : List Int} (h : BI adj f l ways seen) {w : List Int}
    (e : foldE (rfStep f) (seen, []) (rfPairs adj f ways) = .error w) : RfOk adj f w ∧ w.length = l + 1 := by
  have t := turn_run hs h
  rw [e] at t
  obtain ⟨p, x, q, st, ep, i, g⟩ := t
  unfold rfStep at g
  by_cases c : x.2 = f
  · rw [if_pos c] at g
    cases g
    have hx : x ∈ rfPairs adj f ways := by rw [ep]; simp
    obtain ⟨h1, h2⟩ := mem_pairs.mp hx
    rw [c] at h2
    have pw := h.pth _ h1
    have r := pth_ring pw h2
    have srt := pairs_srt (f := f) hs h.srt
    refine ⟨⟨fun z => ?_, fun _ => r, fun v hv => ?_, fun v hv el => ?_⟩, pw.len⟩
    · have := pw.len
      rw [z] at this
      simp at this
    · obtain ⟨l', pv, lv, hf⟩ := ring_pth hv
      have lw := pw.len
      rcases Nat.lt_or_ge l' l with z | z
      · exact absurd hf (h.noc l' v z pv)
      · omega
    · obtain ⟨l', pv, lv, hf⟩ := ring_pth hv
      have lw := pw.len
      have el' : l' = l := by omega
      subst el'
      rcases h.cov v pv with ⟨l'', w', hl, hw', ew⟩ | ⟨u, hu, eu, le⟩
      · exact absurd (by rw [ew]; exact hf) (h.noc l'' w' hl hw')
      · refine lexLe.trans ?_ le
        have hm : (u, f) ∈ rfPairs adj f ways := mem_pairs.mpr ⟨hu, by show f ∈ adj (lastF f u); rw [eu]; exact hf⟩
        rw [ep] at hm srt
        rcases List.mem_append.mp hm with z | z
        · exact absurd rfl (i.j5 _ z)
        · rcases List.mem_cons.mp z with z | z
          · rw [← z]
            exact .inl rfl
          · have s2 := (List.pairwise_cons.mp (List.pairwise_append.mp srt).2.1).1 _ z
            have s3 : lexLt (x.1 ++ [f]) (u ++ [f]) := by rw [← c] at s2 ⊢; exact s2
            exact lexLt_cut (by rw [pw.len, (h.pth _ hu).len]) s3
  · rw [if_neg c] at g
    split at g <;> cases g
where
  lexLt_cut : ∀ {x y : List Int} {k : Int}, x.length = y.length → lexLt (x ++ [k]) (y ++ [k]) → lexLe x y
    | [], [], _, _, h => by
      rcases h with h | ⟨_, h⟩
      · omega
      · exact h.elim
    | a :: r, b :: t, k, l, h => by
      rcases h with h | ⟨rfl, h⟩
      · exact .inr (.inl h)
      · rcases lexLt_cut (by simpa using l) h with rfl | z
        · exact .inl rfl
        · exact .inr (.inr ⟨rfl, z⟩)
/-- with no way left all later ones end where shorter ones do -/
theorem BI.stuck {l : Nat} {seen : List Int} (h : BI adj f l [] seen) : ∀ (k l' : Nat) (w : List Int), l' ≤ k → Pth adj f l' w → ∃ l'' w', l'' < l ∧ Pth adj f l'' w' ∧ lastF f w' = lastF f w
  | k, l', w, hk, hw => by
    rcases Nat.lt_or_ge l' l with z | z
    · exact ⟨l', w, z, hw, rfl⟩
    rcases Nat.eq_or_lt_of_le z with z | z
    · subst z
      rcases h.cov w hw with r | ⟨v, hv, _⟩
      · exact r
      · cases hv
    · cases l' with
      | zero => omega
      | succ m =>
        obtain ⟨u, y, rfl, hu, hy, up⟩ := hw.split
        cases k with
        | zero => omega
        | succ k =>
          obtain ⟨l2, w2, hl2, hw2, e2⟩ := BI.stuck h k m u (by omega) hu
          have h3 := hw2.snoc (y := y) (by rw [e2]; exact hy) up
          obtain ⟨l4, w4, hl4, hw4, e4⟩ := BI.stuck h k (l2 + 1) (w2 ++ [y]) (by omega) h3
          exact ⟨l4, w4, hl4, hw4, by rw [e4, lastF_app, lastF_app]⟩
theorem BI.none {l : Nat} {seen : List Int} (h : BI adj f l [] seen) : RfOk adj f [] := by
  have no : ∀ v, ¬ Ring' adj f v := fun v hv => by
    obtain ⟨l', pv, _, hf⟩ := ring_pth hv
    obtain ⟨l2, w2, hl2, hw2, e2⟩ := h.stuck l' l' v (Nat.le_refl _) pv
    exact h.noc l2 w2 hl2 hw2 (by rw [e2]; exact hf)
  exact ⟨fun _ => no, fun z => absurd rfl z, fun v hv => absurd hv (no v), fun v hv => absurd hv (no v)⟩
def meas (n : Nat) (ways : List (List Int)) (seen : List Int) : Nat := n - seen.length + if ways = [] then 0 else 1
theorem range_len {n : Nat} {xs : List Int} (nd : xs.Nodup) (h : ∀ x ∈ xs, 0 ≤ x ∧ x < n) : xs.length ≤ n := by
  have sub : ∀ x ∈ xs, x ∈ (List.range n).map fun (k : Nat) => (k : Int) := fun x hx => by
    have := h x hx
    exact List.mem_map.mpr ⟨x.toNat, List.mem_range.mpr (by omega), by omega⟩
  have e := nodup_le' nd sub
  simpa using e
where
  nodup_le' : ∀ {xs ys : List Int}, xs.Nodup → (∀ x ∈ xs, x ∈ ys) → xs.length ≤ ys.length
    | [], _, _, _ => Nat.zero_le _
    | x :: r, ys, nd, h => by
      have nd' := List.nodup_cons.mp nd
      have hx := h x (List.mem_cons_self ..)
      have ih := nodup_le' (ys := ys.erase x) nd'.2 fun z hz => (List.mem_erase_of_ne (fun (e : z = x) => nd'.1 (by rw [← e]; exact hz))).mpr (h z (List.mem_cons_of_mem _ hz))
      rw [List.length_erase_of_mem hx] at ih
      have := List.length_pos_of_mem hx
      simp only [List.length_cons]
      omega
theorem turn_len (hs : ∀ a, (adj a).Pairwise (· < ·)) {n : Nat} (hr : ∀ a y, y ∈ adj a → 0 ≤ y ∧ y < n) {l : Nat} {ways : List (List Int)} {seen : List Int} (h : BI adj f l ways seen) {p q : List (List Int × Int)} (e : rfPairs adj f ways = p ++ q)
    {st : List Int × List (List Int)} (r : foldE (rfStep f) (seen, []) p = .ok st) : st.1.length ≤ n ∧ st.2.length ≤ n := by
  have t := turn_pre hs h e r
  have len : st.1.length = seen.length + st.2.length := by
    rw [t.j4]
    simp
  have ls := range_len (n := n) t.j6 fun x hx => by
    rw [t.j4] at hx
    rcases List.mem_append.mp hx with z | z
    · obtain ⟨_, a, ha⟩ := h.up x z
      exact hr a x ha
    · obtain ⟨v, hv, ev⟩ := List.mem_map.mp z
      obtain ⟨y, hy, rfl, _⟩ := t.j1 v hv
      rw [lastF_app] at ev
      have hm : y ∈ rfPairs adj f ways := by rw [e]; exact List.mem_append_left _ hy
      rw [← ev]
      exact hr _ _ (mem_pairs.mp hm).2
  omega
theorem rf_ok (hs : ∀ a, (adj a).Pairwise (· < ·)) {n : Nat} (hr : ∀ a y, y ∈ adj a → 0 ≤ y ∧ y < n) (hf : 0 ≤ f ∧ f < n) : ∀ (m l : Nat) (ways : List (List Int)) (seen : List Int), BI adj f l ways seen → meas n ways seen ≤ m →
    RfOk adj f (rf adj f m ways seen) ∧ (rf adj f m ways seen).length ≤ n
  | 0, l, ways, seen, h, hm => by
    have e : ways = [] := by
      unfold meas at hm
      by_cases c : ways = []
      · exact c
      · rw [if_neg c] at hm
        omega
    subst e
    exact ⟨h.none, by simp [rf]⟩
  | m + 1, l, ways, seen, h, hm => by
    unfold rf
    by_cases c : ways = []
    · rw [if_pos c]
      subst c
      exact ⟨h.none, by simp⟩
    rw [if_neg c]
    have ls := range_len (n := n) (xs := f :: seen) (List.nodup_cons.mpr ⟨fun z => by have := (h.up f z).1; omega, h.nd⟩) fun x hx => by
      rcases List.mem_cons.mp hx with rfl | hx
      · exact hf
      obtain ⟨_, a, ha⟩ := h.up x hx
      exact hr a x ha
    rw [List.length_cons] at ls
    have lc := h.cnt c
    cases e : foldE (rfStep f) (seen, []) (rfPairs adj f ways) with
    | error w =>
      obtain ⟨h1, h2⟩ := h.found hs e
      exact ⟨h1, by show w.length ≤ n; omega⟩
    | ok st =>
      obtain ⟨h1, h2⟩ := h.next hs c e
      refine rf_ok hs hr hf m (l + 1) st.2 st.1 h1 ?_
      have ls' := range_len h1.nd fun x hx => by
        obtain ⟨_, a, ha⟩ := h1.up x hx
        exact hr a x ha
      unfold meas at hm ⊢
      rw [if_neg c] at hm
      by_cases c2 : st.2 = []
      · rw [if_pos c2]
        omega
      · rw [if_neg c2]
        have := List.length_pos_iff.mpr c2
        omega
end
end Fl

-- after: m4b.tpl
namespace Fl
/-! ### ring_of, as a function -/
def rfAll (adj : Int → List Int) (n : Nat) (f : Int) : List Int := rf adj f (n + 1) [[f]] []
def roStep (adj : Int → List Int) (n : Nat) (found : List Int) (f : Int) : List Int :=
  if rfAll adj n f ≠ [] ∧ (found = [] ∨ (rfAll adj n f).length < found.length) then rfAll adj n f else found
def roN (adj : Int → List Int) (n : Nat) : Nat → List Int
  | 0 => []
  | i + 1 => roStep adj n (roN adj n i) (i : Int)
section
variable {adj : Int → List Int} {n : Nat}
/-- the lines that are named are lines, rising -/
structure Adj (adj : Int → List Int) (n : Nat) : Prop where
  srt : ∀ a, (adj a).Pairwise (· < ·)
  rng : ∀ a y, y ∈ adj a → 0 ≤ y ∧ y < n
theorem rfAll_ok (h : Adj adj n) {f : Int} (hf : 0 ≤ f ∧ f < n) : RfOk adj f (rfAll adj n f) ∧ (rfAll adj n f).length ≤ n :=
  rf_ok h.srt h.rng hf (n + 1) 0 _ _ BI.start (by simp [meas])
structure RoOk (adj : Int → List Int) (n : Nat) (i : Nat) (R : List Int) : Prop where
  none : R = [] → ∀ (g : Int) v, g < i → ¬ Ring' adj g v
  ring : R ≠ [] → R.length ≤ n ∧ ∃ f, Ring' adj f R ∧ (∀ (g : Int) v, g < i → Ring' adj g v → R.length ≤ v.length) ∧ (∀ g v, g < f → Ring' adj g v → R.length < v.length) ∧ ∀ v, Ring' adj f v → v.length = R.length → lexLe R v
theorem ring_range (h : Adj adj n) {f : Int} {w : List Int} (r : Ring adj f w) : 0 ≤ f ∧ f < n := by
  obtain ⟨t, e⟩ := r.hd
  obtain ⟨u, eu⟩ := lastF_split (f := f) (w := w) (by rw [e]; simp)
  have c := r.ch
  rw [eu, List.append_assoc] at c
  exact h.rng _ _ (ch_split.mp c).2.1
theorem roN_ok (h : Adj adj n) : ∀ i : Nat, i ≤ n → RoOk adj n i (roN adj n i)
  | 0, _ => ⟨fun _ g v hg r => by
      have := ring_range h r.toRing
      omega, fun z => absurd rfl z⟩
  | i + 1, hi => by
    have ih := roN_ok h i (by omega)
    obtain ⟨o, ol⟩ := rfAll_ok h (f := (i : Int)) ⟨by omega, by omega⟩
    have cases_g : ∀ g : Int, g < (i + 1 : Nat) → g < i ∨ g = i := fun g hg => by omega
    show RoOk adj n (i + 1) (roStep adj n (roN adj n i) i)
    unfold roStep
    by_cases c : rfAll adj n i ≠ [] ∧ (roN adj n i = [] ∨ (rfAll adj n i).length < (roN adj n i).length)
    · rw [if_pos c]
      have lt : ∀ (g : Int) v, g < i → Ring' adj g v → (rfAll adj n i).length < v.length := fun g v hg r => by
        rcases c.2 with z | z
        · exact absurd r (ih.none z g v hg)
        · obtain ⟨_, f, _, s, _⟩ := ih.ring (by rintro e; rw [e] at z; simp at z)
          have := s g v hg r
          omega
      refine ⟨fun z => absurd z c.1, fun _ => ⟨ol, (i : Int), o.ring c.1, fun g v hg r => ?_, lt, o.least⟩⟩
      rcases cases_g g hg with z | rfl
      · exact Nat.le_of_lt (lt g v z r)
      · exact o.short v r
    · rw [if_neg c]
      refine ⟨fun z g v hg r => ?_, fun z => ?_⟩
      · rcases cases_g g hg with w | rfl
        · exact ih.none z g v w r
        · have e : rfAll adj n i = [] := Classical.byContradiction fun y => c ⟨y, .inl z⟩
          exact o.none e v r
      · obtain ⟨l, f, r1, s, t, u⟩ := ih.ring z
        refine ⟨l, f, r1, fun g v hg r => ?_, t, u⟩
        rcases cases_g g hg with w | rfl
        · exact s g v w r
        · by_cases e : rfAll adj n i = []
          · exact absurd r (o.none e v)
          · have h1 := o.short v r
            have h2 : ¬ (rfAll adj n i).length < (roN adj n i).length := fun y => c ⟨e, .inr y⟩
            omega
/-- what ring_of tells -/
theorem ro_told (h : Adj adj n) : (roN adj n n = [] ∧ ∀ g v, ¬ Ring adj g v) ∨ (roN adj n n).length ≤ n ∧ ∃ f, Told adj f (roN adj n n) := by
  have o := roN_ok h n (Nat.le_refl _)
  by_cases c : roN adj n n = []
  · refine .inl ⟨c, fun g v r => ?_⟩
    obtain ⟨m, v', _, _, r', _⟩ := r.least
    exact o.none c m v' (ring_range h r'.toRing).2 r'
  · obtain ⟨l, f, r, s, t, u⟩ := o.ring c
    exact .inr ⟨l, f, Told'.told ⟨r, fun g v r' => s g v (ring_range h r'.toRing).2 r', t, u⟩⟩
theorem ro_nil (h : Adj adj n) (no : ∀ g v, ¬ Ring adj g v) : roN adj n n = [] := by
  rcases ro_told h with z | ⟨_, f, t⟩
  · exact z.1
  · exact absurd t.ring (no _ _)
end
/-! ### ways back, by their lengths -/
def Wk (adj : Int → List Int) : Nat → Int → Int → Prop
  | 0, a, b => a = b
  | m + 1, a, b => ∃ c ∈ adj a, Wk adj m c b
structure Dst (adj : Int → List Int) (f k : Int) (m : Nat) : Prop where
  pos : 1 ≤ m
  wk : Wk adj m k f
  min : ∀ j, 1 ≤ j → j < m → ¬ Wk adj j k f
section
variable {adj : Int → List Int} {n : Nat}
theorem Wk.app : ∀ {i j : Nat} {a b c : Int}, Wk adj i a b → Wk adj j b c → Wk adj (i + j) a c
  | 0, j, a, b, c, h, k => by
    rw [show a = b from h, Nat.zero_add]
    exact k
  | i + 1, j, a, b, c, ⟨d, hd, h⟩, k => by
    rw [Nat.add_right_comm]
    exact ⟨d, hd, Wk.app h k⟩
theorem Dst.uniq {f k : Int} {m m' : Nat} (h : Dst adj f k m) (h' : Dst adj f k m') : m = m' := by
  rcases Nat.lt_trichotomy m m' with z | z | z
  · exact absurd h.wk (h'.min m h.pos z)
  · exact z
  · exact absurd h'.wk (h.min m' h'.pos z)
theorem Dst.of_wk {f k : Int} : ∀ {m : Nat}, 1 ≤ m → Wk adj m k f → ∃ m', m' ≤ m ∧ Dst adj f k m' := by
  intro m
  induction m using Nat.strongRecOn with
  | ind m ih =>
    intro hm w
    by_cases c : ∃ j, 1 ≤ j ∧ j < m ∧ Wk adj j k f
    · obtain ⟨j, j1, jm, wj⟩ := c
      obtain ⟨m', l, d⟩ := ih j jm j1 wj
      exact ⟨m', by omega, d⟩
    · exact ⟨m, Nat.le_refl _, hm, w, fun j j1 jm wj => c ⟨j, j1, jm, wj⟩⟩
/-- one step further -/
theorem Dst.succ {f k : Int} {i : Nat} (hi : 1 ≤ i) : Dst adj f k (i + 1) ↔ (∀ m, m ≤ i → ¬ Dst adj f k m) ∧ ∃ c ∈ adj k, Dst adj f c i := by
  constructor
  · intro d
    refine ⟨fun m hm d' => by have := d.uniq d'; omega, ?_⟩
    obtain ⟨c, hc, w⟩ := d.wk
    refine ⟨c, hc, hi, w, fun j j1 jm wj => d.min (j + 1) (by omega) (by omega) ⟨c, hc, wj⟩⟩
  · rintro ⟨h, c, hc, d⟩
    refine ⟨by omega, ⟨c, hc, d.wk⟩, fun j j1 jm wj => ?_⟩
    obtain ⟨m', l, d'⟩ := Dst.of_wk j1 wj
    exact h m' (by omega) d'
theorem Dst.one {f k : Int} : Dst adj f k 1 ↔ f ∈ adj k := by
  constructor
  · intro d
    obtain ⟨c, hc, w⟩ := d.wk
    rw [← show c = f from w]
    exact hc
  · exact fun h => ⟨Nat.le_refl _, ⟨f, h, rfl⟩, fun j j1 jm => by omega⟩
theorem ch_wk : ∀ {r : List Int} {a b : Int}, Ch adj (a :: r ++ [b]) → Wk adj (r.length + 1) a b
  | [], a, b, h => ⟨b, h.1, rfl⟩
  | c :: r, a, b, h => ⟨c, h.1, ch_wk (r := r) h.2⟩
theorem Ring.wk {f : Int} {w : List Int} (h : Ring adj f w) : Wk adj w.length f f := by
  obtain ⟨r, rfl⟩ := h.hd
  exact ch_wk h.ch
theorem wk_ch : ∀ {m : Nat} {a b : Int}, Wk adj (m + 1) a b → ∃ r, r.length = m ∧ Ch adj (a :: r ++ [b])
  | 0, a, b, ⟨c, hc, e⟩ => ⟨[], rfl, by rw [← show c = b from e]; exact ⟨hc, trivial⟩⟩
  | m + 1, a, b, ⟨c, hc, w⟩ => by
    obtain ⟨r, l, h⟩ := wk_ch w
    exact ⟨c :: r, by simp [l], hc, h⟩
theorem Dst.ring {f : Int} {m : Nat} (d : Dst adj f f m) : ∃ w, Ring adj f w ∧ w.length = m := by
  obtain ⟨m', rfl⟩ : ∃ m', m = m' + 1 := ⟨m - 1, by have := d.pos; omega⟩
  obtain ⟨r, l, h⟩ := wk_ch d.wk
  exact ⟨f :: r, ⟨⟨r, rfl⟩, h⟩, by simp [l]⟩
/-- the lines of a shortest ring, seen from their place -/
theorem Ring.at {f : Int} {m : Nat} (d : Dst adj f f m) {v : List Int} (h : Ring adj f v) (l : v.length = m) {j : Nat} {x y : Int} (hx : v[j]? = some x) (hy : v[j + 1]? = some y) : y ∈ adj x ∧ Dst adj f y (m - 1 - j) := by
  have jl : j + 1 < v.length := (List.getElem?_eq_some_iff.mp hy).1
  have e1 : v = v.take j ++ x :: v.drop (j + 1) := by
    obtain ⟨q, rfl⟩ := List.getElem?_eq_some_iff.mp hx
    rw [← List.drop_eq_getElem_cons q]
    exact (List.take_append_drop j v).symm
  have e2 : v.drop (j + 1) = y :: v.drop (j + 2) := by
    obtain ⟨q, rfl⟩ := List.getElem?_eq_some_iff.mp hy
    exact List.drop_eq_getElem_cons q
  have c := h.ch
  rw [e1, e2, List.append_assoc] at c
  have c2 := (ch_split.mp c).2
  have hy' : y ∈ adj x := c2.1
  have wy : Wk adj (m - 1 - j) y f := by
    have w := ch_wk (r := v.drop (j + 2)) (a := y) (b := f) c2.2
    have : (v.drop (j + 2)).length + 1 = m - 1 - j := by rw [List.length_drop]; omega
    rwa [this] at w
  obtain ⟨r, rfl⟩ := h.hd
  have wf : Wk adj (j + 1) f y := by
    cases j with
    | zero =>
      have ex : x = f := by simpa using hx.symm
      rw [ex] at hy'
      exact ⟨y, hy', rfl⟩
    | succ j =>
      have c3 := c
      rw [List.take_succ_cons] at c3
      have e3 : (f :: r.take j) ++ (x :: (y :: (f :: r).drop (j + 1 + 2)) ++ [f]) = (f :: (r.take j ++ [x])) ++ y :: ((f :: r).drop (j + 1 + 2) ++ [f]) := by simp
      rw [e3] at c3
      have c4 := (ch_split.mp c3).1
      have w := ch_wk (r := r.take j ++ [x]) (a := f) (b := y) c4
      have : (r.take j ++ [x]).length + 1 = j + 1 + 1 := by
        rw [List.length_append, List.length_take]
        simp at jl
        simp
        omega
      rwa [this] at w
  refine ⟨hy', by omega, wy, fun i i1 im wi => ?_⟩
  have w2 := wf.app wi
  exact d.min (j + 1 + i) (by omega) (by omega) w2
/-- the ring as the law finds it, so far -/
structure Grd (adj : Int → List Int) (f : Int) (m j : Nat) (u : List Int) : Prop where
  hd : ∃ r, u = f :: r
  len : u.length = j + 1
  ch : Ch adj u
  dst : j = 0 ∨ Dst adj f (lastF f u) (m - j)
  le : ∀ v, Ring adj f v → v.length = m → lexLe u (v.take (j + 1))
theorem Grd.start {f : Int} {m : Nat} : Grd adj f m 0 [f] where
  hd := ⟨[], rfl⟩
  len := rfl
  ch := trivial
  dst := .inl rfl
  le := fun v h _ => by
    obtain ⟨r, rfl⟩ := h.hd
    exact .inl (by simp)
theorem Grd.dst' {f : Int} {m j : Nat} {u : List Int} (d : Dst adj f f m) (h : Grd adj f m j u) : Dst adj f (lastF f u) (m - j) := by
  rcases h.dst with e | e
  · subst e
    obtain ⟨r, e⟩ := h.hd
    have l := h.len
    rw [e] at l
    have : r = [] := List.eq_nil_of_length_eq_zero (by simpa using l)
    rw [e, this]
    exact d
  · exact e
theorem Grd.ex {f : Int} {m j : Nat} {u : List Int} (d : Dst adj f f m) (h : Grd adj f m j u) (hj : j + 1 < m) : ∃ c ∈ adj (lastF f u), Dst adj f c (m - 1 - j) := by
  have e := h.dst' d
  rw [show m - j = (m - 1 - j) + 1 by omega] at e
  exact ((Dst.succ (by omega)).mp e).2
theorem Grd.next {f : Int} {m j : Nat} {u : List Int} (d : Dst adj f f m) (h : Grd adj f m j u) (hj : j + 1 < m) {c : Int} (hc : c ∈ adj (lastF f u)) (hd : Dst adj f c (m - 1 - j)) (hm : ∀ x ∈ adj (lastF f u), Dst adj f x (m - 1 - j) → c ≤ x) :
    Grd adj f m (j + 1) (u ++ [c]) := by
  obtain ⟨r, er⟩ := h.hd
  obtain ⟨t, et⟩ := lastF_split (f := f) (w := u) (by rw [er]; simp)
  refine ⟨⟨r ++ [c], by rw [er]; rfl⟩, by simp [h.len], ?_, .inr (by rw [lastF_app, show m - (j + 1) = m - 1 - j by omega]; exact hd), fun v hv lv => ?_⟩
  · have ch := h.ch
    rw [et] at ch ⊢
    rw [List.append_assoc]
    exact ch_split.mpr ⟨ch, ⟨by simpa [lastF_app] using hc, trivial⟩⟩
  · have jl : j + 1 < v.length := by omega
    have e1 : v.take (j + 1 + 1) = v.take (j + 1) ++ [v[j + 1]] := by rw [List.take_succ_eq_append_getElem jl]
    rw [e1]
    rcases h.le v hv lv with e | lt
    · have hx : v[j]? = some (lastF f u) := by
        have e2 : u[j]? = v[j]? := by rw [e, List.getElem?_take]; simp
        rw [← e2, et, lastF_app]
        have : t.length = j := by
          have l := h.len
          rw [et] at l
          simpa using l
        rw [← this]
        simp
      obtain ⟨h1, h2⟩ := hv.at d lv hx (List.getElem?_eq_getElem jl)
      have h3 := hm _ h1 h2
      rw [← e]
      rcases Int.lt_or_eq_of_le h3 with z | z
      · exact .inr (lexLt.tail (.inl z))
      · rw [← z]
        exact .inl rfl
    · exact .inr lt.app
theorem Grd.ring {f : Int} {m : Nat} {u : List Int} (d : Dst adj f f m) (h : Grd adj f m (m - 1) u) : Ring adj f u ∧ u.length = m ∧ ∀ v, Ring adj f v → v.length = m → lexLe u v := by
  have mp := d.pos
  obtain ⟨r, er⟩ := h.hd
  obtain ⟨t, et⟩ := lastF_split (f := f) (w := u) (by rw [er]; simp)
  have e := h.dst' d
  rw [show m - (m - 1) = 1 by omega] at e
  have hf := Dst.one.mp e
  refine ⟨⟨⟨r, er⟩, ?_⟩, by rw [h.len]; omega, fun v hv lv => ?_⟩
  · have ch := h.ch
    rw [et] at ch
    rw [et, List.append_assoc]
    exact ch_split.mpr ⟨ch, ⟨hf, trivial⟩⟩
  · have := h.le v hv lv
    rwa [show m - 1 + 1 = m by omega, ← lv, List.take_length] at this
/-- what the law finds from the first i lines on -/
def LawR (adj : Int → List Int) (n i : Nat) : Option (List Int) → Prop
  | none => ∀ g m, 0 ≤ g → g < (i : Int) → m ≤ n → ¬ Dst adj g g m
  | some R => ∃ f m, 0 ≤ f ∧ f < (i : Int) ∧ m ≤ n ∧ Dst adj f f m ∧ Ring adj f R ∧ R.length = m ∧ (∀ v, Ring adj f v → v.length = m → lexLe R v) ∧
    (∀ g m', 0 ≤ g → g < (i : Int) → m' ≤ n → Dst adj g g m' → m ≤ m') ∧ ∀ g m', 0 ≤ g → g < f → m' ≤ n → Dst adj g g m' → m < m'
theorem LawR.eq (h : Adj adj n) {o : Option (List Int)} (r : LawR adj n n o) : o.getD [] = roN adj n n := by
  rcases ro_told h with ⟨e, no⟩ | ⟨l, f, t⟩
  · rw [e]
    cases o with
    | none => rfl
    | some R =>
      obtain ⟨f, m, _, _, _, _, rg, _⟩ := r
      exact absurd rg (no _ _)
  · have rr := ring_range h t.ring
    have dt : Dst adj f f (roN adj n n).length := by
      obtain ⟨m', l', d'⟩ := Dst.of_wk (m := (roN adj n n).length) (by
        obtain ⟨q, e⟩ := t.ring.hd
        rw [e]
        simp) t.ring.wk
      obtain ⟨w, rw', lw⟩ := d'.ring
      have := t.short _ _ rw'
      have e : m' = (roN adj n n).length := by omega
      rw [← e]
      exact d'
    cases o with
    | none => exact absurd dt (r f _ rr.1 rr.2 l)
    | some R =>
      obtain ⟨f', m, f0, fn, mn, d', rg, lR, le, s, fs⟩ := r
      have h1 := s f _ rr.1 rr.2 l dt
      have h2 := t.short _ _ rg
      have em : m = (roN adj n n).length := by omega
      have ef : f' = f := by
        rcases Int.lt_trichotomy f' f with z | z | z
        · have := t.first _ _ z rg
          omega
        · exact z
        · have := fs f _ rr.1 z l dt
          omega
      subst ef
      exact (le _ t.ring em.symm).antisymm (t.least _ rg (by omega))
end
end Fl

-- after: wn.tpl
namespace Fl
open PySem PySem.Spec PyProof.Rows L2 RZ
def isRow (d : PyData) : Bool := match d with
  | .tuple [a, b, c] => isNumber a && isNumber b && isWhole c 0 100
  | _ => false
/-- what stands first in a row, as a number -/
def rowAt (d : PyData) : Int := match d with
  | .tuple (.int i :: _) => i
  | _ => 0
def rising : List PyData → Bool
  | a :: b :: r => decide (rowAt a < rowAt b) && rising (b :: r)
  | _ => true
def isTable (d : PyData) : Bool := match d with
  | .tuple ds => decide (1 ≤ ds.length) && decide (ds.length ≤ 20) && ds.all isRow && rising ds
  | _ => false
theorem isRow_ex {d : PyData} (h : isRow d = true) : ∃ i j k, d = .tuple [.int i, .int j, .int k] := by
  unfold isRow at h
  split at h
  · rename_i a b c
    simp only [Bool.and_eq_true] at h
    obtain ⟨⟨h1, h2⟩, h3⟩ := h
    cases a <;> simp [isNumber, isWhole] at h1
    cases b <;> simp [isNumber, isWhole] at h2
    cases c <;> simp [isWhole] at h3
    exact ⟨_, _, _, rfl⟩
  · cases h
theorem At.row {H : Hp} {i j k : Int} {v : V} (h : At H (.tuple [.int i, .int j, .int k]) v) : ∃ a, v = .ref a ∧ H a = some (.tup [.int i, .int j, .int k]) := by
  obtain ⟨a, vs, rfl, ha, v0, r0, rfl, h0, v1, r1, rfl, h1, v2, r2, rfl, h2, h3⟩ := h
  cases (show _ = _ from h0)
  cases (show _ = _ from h1)
  cases (show _ = _ from h2)
  cases (show _ = _ from h3)
  exact ⟨a, rfl, ha⟩
/-- neighbours rise -/
def ups (ds : List PyData) : List Bool := List.zipWith (fun a b => decide (rowAt a < rowAt b)) (ds.take (ds.length - 1)) (ds.drop 1)
theorem ups_len (ds : List PyData) : (ups ds).length = ds.length - 1 := by simp [ups]
theorem ups_all : ∀ ds : List PyData, (ups ds).all id = rising ds
  | [] => rfl
  | [_] => rfl
  | a :: b :: r => by
    have ih := ups_all (b :: r)
    have e : ups (a :: b :: r) = decide (rowAt a < rowAt b) :: ups (b :: r) := by simp [ups]
    rw [e, List.all_cons, ih]
    rfl
theorem ups_get {ds : List PyData} {i : Nat} {a b : PyData} (h1 : ds[i]? = some a) (h2 : ds[i + 1]? = some b) : (ups ds)[i]? = some (decide (rowAt a < rowAt b)) := by
  have l := (List.getElem?_eq_some_iff.mp h2).1
  unfold ups
  rw [List.getElem?_zipWith, List.getElem?_take, if_pos (by omega), List.getElem?_drop, Nat.add_comm 1 i, h1, h2]
section
variable {P : Program} {w : World} {K : PySem.W.Frag} {mg : Str → Option Value} {base : Heap}
abbrev s_is_row : Stmt := topS 17
theorem sc_is_row : FnScope ["thing"] ["thing"] (defScope s_is_row) := ⟨rfl, rfl, rfl, by decide +kernel, rfl, by decide +kernel, by decide +kernel⟩
def sp_is_row : Sp1 := fun a H Q _ => ∃ d, At H d a ∧ Q (.bl (isRow d)) H
theorem ok_is_row (M : Mg mg) (G_is_whole : Has P w K mg base "is_whole" ["thing", "least", "most"] 1 (sp3 sp_is_whole)) (G_is_number : Has P w K mg base "is_number" ["thing"] 2 (sp1 sp_is_number)) (D : DefAt K mg "is_row" s_is_row ["thing"]) :
    Has P w K mg base "is_row" ["thing"] 3 (sp1 sp_is_row) := by
  refine .mk1 D sc_is_row fun f cdv A outer s H a Q E hr h => ⟨_, (pss_cons (ps_if (PW.pt (pw_or (pt_not (pt_val (pe_callB (k_isi K rfl) (by rfl) M.isinstance (by decide +kernel) (pa_cons (pv 0) (pa_cons (pe_bltn (v := .ty "tuple") (by rfl) M.tuple (by decide +kernel) rfl) pa_nil))))) (pw_or1 (pt_cmpR (k_ne K rfl hr) (pe_callB (k_len K rfl) (by rfl) M.len (by decide +kernel) (pa_cons (pv 0) pa_nil)) pe_int (nomark _))))) (pss_one (ps_ret pe_bl)) pss_nil)
    (pss_one (ps_ret (pe_and (pe_own G_is_number (hr.mono (by first | decide | omega)) (by rfl) p_body (pa_cons (pe_ix (k_ix K rfl) (pv 0) pe_int (fun _ _ => rfl)) pa_nil)) (pe_and (pe_own G_is_number (hr.mono (by first | decide | omega)) (by rfl) p_body (pa_cons (pe_ix (k_ix K rfl) (pv 0) pe_int (fun _ _ => rfl)) pa_nil)) (pe_one (pe_own G_is_whole (hr.mono (by first | decide | omega)) (by rfl) p_body (pa_cons (pe_ix (k_ix K rfl) (pv 0) pe_int (fun _ _ => rfl)) (pa_cons pe_int (pa_cons pe_int pa_nil)))))))))), ?_⟩
  obtain ⟨d, hd, q⟩ := h
  refine Fl.go_start (σ0 := [some _]) rfl ?_
  cases d <;> first | exact hd.elim | skip
  case tuple =>
    rename_i ds
    obtain ⟨t, vs, rfl, ht, hvs⟩ := hd
    walk_at "s"
    refine if_n (fun c => ?_) (fun c => ?_)
    · walk_at "s"
      have e : isRow (.tuple ds) = false := by
        have l := hvs.length
        unfold isRow
        split
        · rename_i he
          injection he with he
          subst he
          exact absurd (by rw [l]; rfl) c
        · rfl
      rw [e] at q
      exact q
    · obtain ⟨d0, d1, d2, v0, v1, v2, rfl, rfl, h0, h1, h2⟩ := hvs.ex3 (by omega)
      walk_at "s"
      have e : isRow (.tuple [d0, d1, d2]) = (isNumber d0 && isNumber d1 && isWhole d2 0 100) := rfl
      rw [e] at q
      refine if_b (fun c1 => ?_) (fun c1 => ?_)
      · walk_at "s"
        refine if_b (fun c2 => ?_) (fun c2 => ?_)
        · walk_at "s"
          rw [c1, c2] at q
          exact q
        · rw [c1, c2] at q
          exact q
      · rw [c1] at q
        exact q
  all_goals (walk_at "s"; exact q)
instance {H : Hp} {Q : VK} {E : XK} {v : V} : Step (sp_is_row v H Q E) (∃ d, At H d v ∧ Q (.bl (isRow d)) H) := ⟨fun h => h⟩
abbrev s_is_table : Stmt := topS 18
theorem sc_is_table : FnScope ["thing", "one", "other", "row"] ["thing"] (defScope s_is_table) := ⟨rfl, rfl, rfl, by decide +kernel, rfl, by decide +kernel, by decide +kernel⟩
def sp_is_table : Sp1 := fun a H Q _ => ∃ d, At H d a ∧ ∀ H', Same H H' → Q (.bl (isTable d)) H'
instance {H : Hp} {Q : VK} {E : XK} {v : V} : Step (sp_is_table v H Q E) (∃ d, At H d v ∧ SmQ H fun H' => Q (.bl (isTable d)) H') := ⟨fun h => h⟩
theorem ok_is_table (M : Mg mg) (c_MOST_ROWS : ∃ t, mg "MOST_ROWS" = some (.int 20 t)) (G_is_row : Has P w K mg base "is_row" ["thing"] 3 (sp1 sp_is_row)) (D : DefAt K mg "is_table" s_is_table ["thing"]) :
    Has P w K mg base "is_table" ["thing"] 4 (sp1 sp_is_table) := by
  refine .mk1 D sc_is_table fun f cdv A outer s H a Q E hr h => ⟨_, (pss_cons (ps_if (PW.pt (pw_or (pt_not (pt_val (pe_callB (k_isi K rfl) (by rfl) M.isinstance (by decide +kernel) (pa_cons (pv 0) (pa_cons (pe_bltn (v := .ty "tuple") (by rfl) M.tuple (by decide +kernel) rfl) pa_nil))))) (pw_or (pt_cmpR o_lt (pe_callB (k_len K rfl) (by rfl) M.len (by decide +kernel) (pa_cons (pv 0) pa_nil)) pe_int (nomark _)) (pw_or1 (pt_cmpR o_gt (pe_callB (k_len K rfl) (by rfl) M.len (by decide +kernel) (pa_cons (pv 0) pa_nil)) (pe_gi (by rfl) c_MOST_ROWS) (nomark _)))))) (pss_one (ps_ret pe_bl)) pss_nil)
    (pss_cons (ps_if (pt_not (pt_val (pe_callB (k_all K rfl rfl) (by rfl) M.all (by decide +kernel) (pa_cons (pe_lc (own := [("row", 3)]) (g := gName 3) (by rfl) sc_is_table.nd (k_pi K rfl (pv 0)) (blkOk_by (N := ["thing", "one", "other", "row"]) (sc := (defScope s_is_table)) (own := [("row", 3)]) (by decide +kernel)) (fun _ _ _ _ _ => (pg_name (i := 3) sc_is_table.nd rfl (by first | exact Or.inl rfl | exact Or.inr rfl))) (fun _ _ _ _ _ => pts_nil) (fun _ _ _ _ _ => (pe_own G_is_row (hr.mono (by first | decide | omega)) (by rfl) passL (pa_cons (pv 3) pa_nil)))) pa_nil)))) (pss_one (ps_ret pe_bl)) pss_nil)
    (pss_one (ps_ret (pe_callB (k_all K rfl rfl) (by rfl) M.all (by decide +kernel) (pa_cons (pe_lc (own := [("one", 1), ("other", 2)]) (g := gTup K 2 (gCons (gName 1) (gCons (gName 2) gNil))) (by rfl) sc_is_table.nd (k_zip K rfl (by rfl) M.zip (pa_cons (pe_slice (k_sl K rfl) (pv 0) po_none (po_some (pe_un o_neg pe_int))) (pa_cons (pe_slice (k_sl K rfl) (pv 0) (po_some pe_int) po_none) pa_nil))) (blkOk_by (N := ["thing", "one", "other", "row"]) (sc := (defScope s_is_table)) (own := [("one", 1), ("other", 2)]) (by decide +kernel)) (fun _ _ _ _ _ => (pg_tup (by rfl) (pgs_cons (pg_name (i := 1) sc_is_table.nd rfl (by first | exact Or.inl rfl | exact Or.inr rfl)) (pgs_cons (pg_name (i := 2) sc_is_table.nd rfl (by first | exact Or.inl rfl | exact Or.inr rfl)) pgs_nil)))) (fun _ _ _ _ _ => pts_nil) (fun _ _ _ _ _ => (pe_cmpR o_lt (pe_ix (k_ix K rfl) (pv 1) pe_int (fun _ _ => rfl)) (pe_ix (k_ix K rfl) (pv 2) pe_int (fun _ _ => rfl)) (nomark _)))) pa_nil)))))), ?_⟩
  obtain ⟨d, hd, q⟩ := h
  refine Fl.go_start (σ0 := [some _, none, none, none]) rfl ?_
  cases d <;> first | exact hd.elim | skip
  case tuple =>
    rename_i ds
    obtain ⟨t, vs, rfl, ht, hvs⟩ := hd
    have l := hvs.length
    walk_at "s"
    refine if_d (fun c => ?_) (fun c => ?_)
    · walk_at "s"
      have e : isTable (.tuple ds) = false := by simp [isTable, show ¬ 1 ≤ ds.length by omega]
      rw [e] at q
      exact q _ (.refl _)
    walk_at "s"
    refine if_d (fun c => ?_) (fun c => ?_)
    · walk_at "s"
      have e : isTable (.tuple ds) = false := by simp [isTable, show ¬ ds.length ≤ 20 by omega]
      rw [e] at q
      exact q _ (.refl _)
    walk_at "s"
    refine lc_seqT ((ds.map isRow).map V.bl) ht (by simp [l]) (by simp; omega) (fun _ => rfl) (fun i x y H' ex ey sm R hR => ?_) (fun D1 H1 hD1 sm1 eD1 => ?_)
    · obtain ⟨d, ed, hd⟩ := hvs.ix ex
      have e : y = .bl (isRow d) := by
        rw [List.getElem?_map, List.getElem?_map, ed] at ey
        exact (Option.some.inj ey).symm
      subst e
      walk_at "s"
      exact hR _ (.refl _)
    walk_at "s"
    have eA : (ds.map isRow).all id = ds.all isRow := by rw [List.all_map]; rfl
    rw [eA]
    refine if_b (fun c => ?_) (fun c => ?_)
    · walk_at "s"
      have e : isTable (.tuple ds) = false := by
        have c' : ds.all isRow = false := by simpa using c
        simp only [isTable, c', Bool.and_false, Bool.false_and]
      rw [e] at q
      exact q _ (by walk_at "sm")
    have c' : ds.all isRow = true := by simpa using c
    walk_at "s"
    rename_i p1 K1 sm2 e1 p2 K2 sm3 e2
    rw [cut_init] at e1
    rw [cut_tail] at e2
    refine lc_zipT ((ups ds).map V.bl) (by walk_at "hp") e2 (by simp) (by simp [ups_len, l]) (by simp [ups_len]; omega) (fun _ _ => rfl) (fun i x z y H' ex ez ey sm R hR => ?_) (fun D2 H2 hD2 sm4 eD2 => ?_)
    · have hi : i < vs.length - 1 := by
        have := (List.getElem?_eq_some_iff.mp ex).1
        rw [List.length_take] at this
        omega
      rw [List.getElem?_take, if_pos hi] at ex
      rw [List.getElem?_drop, Nat.add_comm] at ez
      obtain ⟨d, ed, hd⟩ := hvs.ix ex
      obtain ⟨d', ed', hd'⟩ := hvs.ix ez
      have ra := List.all_eq_true.mp c'
      obtain ⟨i1, i2, i3, rfl⟩ := isRow_ex (ra d (List.mem_of_getElem? ed))
      obtain ⟨j1, j2, j3, rfl⟩ := isRow_ex (ra d' (List.mem_of_getElem? ed'))
      obtain ⟨b1, rfl, hb1⟩ := hd.row
      obtain ⟨b2, rfl, hb2⟩ := hd'.row
      have ey' : y = .bl (decide (i1 < j1)) := by
        rw [List.getElem?_map, ups_get ed ed'] at ey
        exact (Option.some.inj ey).symm
      subst ey'
      walk_at "s"
      exact hR _ (.refl _)
    walk_at "s"
    have e : isTable (.tuple ds) = (ups ds).all id := by
      rw [ups_all]
      simp only [isTable, c', Bool.and_true]
      rw [decide_eq_true (by omega : 1 ≤ ds.length), decide_eq_true (by omega : ds.length ≤ 20)]
      simp
    rw [e] at q
    exact q _ (by walk_at "sm")
  all_goals (walk_at "s"; exact q _ (.refl _))
/-! ### what a table tells -/
def isRowT (r : Int × Int × Int) : PyData := .tuple [.int r.1, .int r.2.1, .int r.2.2]
def atTab (rows : List (Int × Int × Int)) (n : Int) : Int := rows.foldl (fun f r => if r.1 ≤ n then r.2.1 + (n - r.1) * r.2.2 / 100 else f) 0
theorem atTab_snoc (rows : List (Int × Int × Int)) (r : Int × Int × Int) (n : Int) : atTab (rows ++ [r]) n = if r.1 ≤ n then r.2.1 + (n - r.1) * r.2.2 / 100 else atTab rows n := by
  unfold atTab
  rw [List.foldl_append]
  rfl
/-- rows whose percents are small -/
def SmallP (rows : List (Int × Int × Int)) : Prop := ∀ r ∈ rows, 0 ≤ r.2.2 ∧ r.2.2 ≤ 100
abbrev s_at_number : Stmt := topS 19
theorem sc_at_number : FnScope ["table", "number", "found", "row"] ["table", "number"] (defScope s_at_number) := ⟨rfl, rfl, rfl, by decide +kernel, rfl, by decide +kernel, by decide +kernel⟩
def sp_at_number : Sp2 := fun a b H Q _ => ∃ (rows : List (Int × Int × Int)) (n : Int), At H (.tuple (rows.map isRowT)) a ∧ b = .int n ∧ SmallP rows ∧ Q (.int (atTab rows n)) H
theorem ok_at_number (M : Mg mg) (D : DefAt K mg "at_number" s_at_number ["table", "number"]) : Has P w K mg base "at_number" ["table", "number"] 1 (sp2 sp_at_number) := by
  refine .mk2 D sc_at_number fun f cdv A outer s H a b Q E hr h => ⟨_, (pss_cons (ps_set (i := 2) sc_at_number.nd rfl (by first | exact Or.inl rfl | exact Or.inr rfl) pe_int)
    (pss_cons (ps_for own_p (by rfl) (k_pi K rfl (pv 0)) (pg_name (i := 3) sc_at_number.nd rfl (by first | exact Or.inl rfl | exact Or.inr rfl)) (pss_one (ps_if (pt_cmpR o_le (pe_ix (k_ix K rfl) (pv 3) pe_int (fun _ _ => rfl)) (pv 1) (nomark _)) (pss_one (ps_set (i := 2) sc_at_number.nd rfl (by first | exact Or.inl rfl | exact Or.inr rfl) (pe_op (k_add K rfl) (pe_ix (k_ix K rfl) (pv 3) pe_int (fun _ _ => rfl)) (pe_op o_div (pe_op o_mul (pe_op o_sub (pv 1) (pe_ix (k_ix K rfl) (pv 3) pe_int (fun _ _ => rfl))) (pe_ix (k_ix K rfl) (pv 3) pe_int (fun _ _ => rfl))) pe_int)))) pss_nil)))
    (pss_one (ps_ret (pv 2))))), ?_⟩
  obtain ⟨rows, n, hd, rfl, hp, q⟩ := h
  refine Fl.go_start (σ0 := [some _, some _, none, none]) rfl ?_
  obtain ⟨t, vs, rfl, ht, hvs⟩ := hd
  walk_at "s"
  refine for_tpl (fun i σ H' => H' = H ∧ ∃ x, σ = [some (.ref t), some (.int n), some (.int (atTab (rows.take i) n)), x]) ht ⟨rfl, none, rfl⟩ (fun i σ H' _ h => by rw [h.1]; exact ht) (fun i x σ H' ex h => ?_) (fun σ H' h => ?_)
  · obtain ⟨rfl, y, rfl⟩ := h
    obtain ⟨d, ed, hd⟩ := hvs.ix ex
    rw [List.getElem?_map] at ed
    cases er : rows[i]? with
    | none => rw [er] at ed; cases ed
    | some r =>
      rw [er] at ed
      have ed := Option.some.inj ed
      subst ed
      obtain ⟨b, rfl, hb⟩ := hd.row
      have hs := hp r (List.mem_of_getElem? er)
      have et := atTab_snoc (rows.take i) r n
      rw [take_snoc er] at et
      walk_at "s"
      refine if_d (fun c => ?_) (fun c => ?_)
      · walk_at "s"
        exact ⟨rfl, _, by rw [et, if_pos c]; rfl⟩
      · walk_at "s"
        exact ⟨rfl, _, by rw [et, if_neg c]; rfl⟩
  · obtain ⟨rfl, y, rfl⟩ := h
    have l := hvs.length
    rw [List.length_map] at l
    rw [l, List.take_length]
    walk_at "s"
    exact q
end
end Fl

-- after: gen0.tpl tabs.tpl
namespace Fl
open PySem PySem.Spec PyProof.Rows L2 RZ
/-- rows as the law draws them: so many, rising, small -/
structure Drawn (rows : List (Int × Int × Int)) : Prop where
  pos : 1 ≤ rows.length
  few : rows.length ≤ 20
  ok : ∀ r ∈ rows, (-1000000000 ≤ r.1 ∧ r.1 ≤ 1000000000) ∧ (-1000000000 ≤ r.2.1 ∧ r.2.1 ≤ 1000000000) ∧ 0 ≤ r.2.2 ∧ r.2.2 ≤ 100
  up : rows.Pairwise fun a b => a.1 < b.1
theorem isWhole_in {i lo hi : Int} (h1 : lo ≤ i) (h2 : i ≤ hi) : isWhole (.int i) lo hi = true := by simp [isWhole, h1, h2]
theorem rising_of : ∀ {rows : List (Int × Int × Int)}, rows.Pairwise (fun a b => a.1 < b.1) → rising (rows.map isRowT) = true
  | [], _ => rfl
  | [_], _ => rfl
  | a :: b :: r, h => by
    rw [List.pairwise_cons] at h
    have h1 := h.1 b (by simp)
    have ih := rising_of h.2
    show (decide (a.1 < b.1) && rising ((b :: r).map isRowT)) = true
    rw [ih, decide_eq_true h1]
    rfl
theorem Drawn.table {rows : List (Int × Int × Int)} (h : Drawn rows) : isTable (.tuple (rows.map isRowT)) = true := by
  have e : (rows.map isRowT).all isRow = true := by
    rw [List.all_map, List.all_eq_true]
    intro r hr
    obtain ⟨h1, h2, h3⟩ := h.ok r hr
    show (isNumber (.int r.1) && isNumber (.int r.2.1) && isWhole (.int r.2.2) 0 100) = true
    unfold isNumber
    rw [isWhole_in h1.1 h1.2, isWhole_in h2.1 h2.2, isWhole_in h3.1 h3.2]
    rfl
  simp only [isTable, List.length_map]
  rw [e, rising_of h.up, decide_eq_true h.pos, decide_eq_true h.few]
  rfl
theorem Drawn.small {rows : List (Int × Int × Int)} (h : Drawn rows) : SmallP rows := fun r hr => (h.ok r hr).2.2
theorem isRowT_at {H : Hp} {r : Int × Int × Int} {a : Addr} (h : H a = some (.tup [.int r.1, .int r.2.1, .int r.2.2])) : At H (isRowT r) (.ref a) := ⟨a, _, rfl, h, _, _, rfl, rfl, _, _, rfl, rfl, _, _, rfl, rfl, rfl⟩
theorem isRowT_tup (rows : List (Int × Int × Int)) : tupsOnly (rows.map isRowT) = true := tupsOnly_all fun d hd => by
  obtain ⟨r, _, rfl⟩ := List.mem_map.mp hd
  rfl
theorem rows_le {H H' : Hp} {rows : List (Int × Int × Int)} {vs : List V} (h : AtAll H (rows.map isRowT) vs) (e : LeT H H') : AtAll H' (rows.map isRowT) vs := h.leT e (isRowT_tup rows)
section
variable {P : Program} {w : World} {K : PySem.W.Frag} {mg : Str → Option Value} {base : Heap}
abbrev s__law_table : Stmt := topS 64
theorem sc__law_table : FnScope ["_law_state", "_law_many", "_law_start", "_law_rows", "_law_k", "_law_percent"] ["_law_state"] (defScope s__law_table) := ⟨rfl, rfl, rfl, by decide +kernel, rfl, by decide +kernel, by decide +kernel⟩
def sp_law_table : Sp1 := fun a H Q _ => ∃ s x, a = .ref s ∧ H s = some (.lst [.int x]) ∧ ∀ (rows : List (Int × Int × Int)) v H', Drawn rows → Gs s H H' → At H' (.tuple (rows.map isRowT)) v → Q v H'
theorem ok_law_table (M : Mg mg) (G__law_next : Has P w K mg base "_law_next" ["_law_state", "_law_size"] 1 (sp2 sp_next)) (G__law_number : Has P w K mg base "_law_number" ["_law_state"] 2 (sp1 sp_number)) (D : DefAt K mg "_law_table" s__law_table ["_law_state"]) :
    Has P w K mg base "_law_table" ["_law_state"] 3 (sp1 sp_law_table) := by
  refine .mk1 D sc__law_table fun f cdv A outer s0 H a Q E hr h => ⟨_, (pss_cons (ps_set (i := 1) sc__law_table.nd rfl (by first | exact Or.inl rfl | exact Or.inr rfl) (pe_op (k_add K rfl) pe_int (pe_own G__law_next (hr.mono (by first | decide | omega)) (by rfl) p_body (pa_cons (pv 0) (pa_cons pe_int pa_nil)))))
    (pss_meet (ps_if (pt_cmpR (k_eq K rfl hr) (pe_own G__law_next (hr.mono (by first | decide | omega)) (by rfl) p_body (pa_cons (pv 0) (pa_cons pe_int pa_nil))) pe_int (nomark _)) (pss_one (ps_set (i := 1) sc__law_table.nd rfl (by first | exact Or.inl rfl | exact Or.inr rfl) (pe_op (k_add K rfl) pe_int (pe_own G__law_next (hr.mono (by first | decide | omega)) (by rfl) p_body (pa_cons (pv 0) (pa_cons pe_int pa_nil)))))) pss_nil)
    (pss_cons (ps_set (i := 2) sc__law_table.nd rfl (by first | exact Or.inl rfl | exact Or.inr rfl) (pe_ix (k_ix K rfl) (pe_lst (pa_cons (pe_un o_neg (pe_op o_pow pe_int pe_int)) (pa_cons (pe_op o_sub (pe_own G__law_next (hr.mono (by first | decide | omega)) (by rfl) p_body (pa_cons (pv 0) (pa_cons pe_int pa_nil))) pe_int) (pa_cons (pe_op o_sub (pe_op o_pow pe_int pe_int) (pe_op o_mul pe_int (pv 1))) pa_nil)))) (pe_op o_div (pe_own G__law_next (hr.mono (by first | decide | omega)) (by rfl) p_body (pa_cons (pv 0) (pa_cons pe_int pa_nil))) pe_int) (fun _ _ => rfl)))
    (pss_cons (ps_set (i := 3) sc__law_table.nd rfl (by first | exact Or.inl rfl | exact Or.inr rfl) (pe_lst pa_nil))
    (pss_cons (ps_for own_p (by rfl) (pi_range1 (by rfl) M.range (pa_cons (pv 1) pa_nil)) (pg_name (i := 4) sc__law_table.nd rfl (by first | exact Or.inl rfl | exact Or.inr rfl)) (pss_cons (ps_set (i := 5) sc__law_table.nd rfl (by first | exact Or.inl rfl | exact Or.inr rfl) (pe_ix (k_ix K rfl) (pe_lst (pa_cons pe_int (pa_cons pe_int (pa_cons (pe_own G__law_next (hr.mono (by first | decide | omega)) (by rfl) p_body (pa_cons (pv 0) (pa_cons pe_int pa_nil))) pa_nil)))) (pe_own G__law_next (hr.mono (by first | decide | omega)) (by rfl) p_body (pa_cons (pv 0) (pa_cons pe_int pa_nil))) (fun _ _ => rfl)))
    (pss_cons (ps_expr (k_bm K rfl PySem.F.plainAttrs_list PySem.F.slot_list_append PySem.F.type_list_append mt_append (pv 3) (pa_cons (pe_tup (pa_cons (pv 2) (pa_cons (pe_own G__law_number (hr.mono (by first | decide | omega)) (by rfl) p_body (pa_cons (pv 0) pa_nil)) (pa_cons (pv 5) pa_nil)))) pa_nil)))
    (pss_one (ps_set (i := 2) sc__law_table.nd rfl (by first | exact Or.inl rfl | exact Or.inr rfl) (pe_op (k_add K rfl) (pe_op (k_add K rfl) (pv 2) pe_int) (pe_ix (k_ix K rfl) (pe_lst (pa_cons (pe_own G__law_next (hr.mono (by first | decide | omega)) (by rfl) p_body (pa_cons (pv 0) (pa_cons pe_int pa_nil))) (pa_cons (pe_own G__law_next (hr.mono (by first | decide | omega)) (by rfl) p_body (pa_cons (pv 0) (pa_cons pe_int pa_nil))) pa_nil))) (pe_own G__law_next (hr.mono (by first | decide | omega)) (by rfl) p_body (pa_cons (pv 0) (pa_cons pe_int pa_nil))) (fun _ _ => rfl))))))))
    (pss_one (ps_ret (pe_callTy (k_tuple K rfl) (by rfl) M.tuple (by decide +kernel) (pa_cons (pv 3) pa_nil))))))))), ?_⟩
  obtain ⟨s, x, rfl, hs, q⟩ := h
  refine Fl.go_start (σ0 := [some _, none, none, none, none, none]) rfl ?_
  walk_at "s"
  refine meet (fun σ' H' => ∃ m : Int, σ' = [some (.ref s), some (.int m), none, none, none, none] ∧ 1 ≤ m ∧ m ≤ 20 ∧ Gs s H H') ?_ ?_
  · walk_at "s"
    refine if_d (fun c => ?_) (fun c => ?_)
    · walk_at "s"
      exact ⟨_, rfl, by omega, by omega, by walk_at "gs"⟩
    · walk_at "s"
      exact ⟨_, rfl, by omega, by omega, by walk_at "gs"⟩
  rintro σ1 H1 ⟨m, rfl, m1, m2, gs⟩
  obtain ⟨x1, hx1⟩ := gs.st
  walk_at "s"
  refine ex_pick (fun v => ∃ S : Int, v = .int S ∧ -1000000000 ≤ S ∧ S + 20000 * m ≤ 1000000000) (by omega) (by simp; omega) (fun v hv => ?_) (fun v hv => ?_)
  · simp only [List.mem_cons, List.not_mem_nil, or_false] at hv
    rcases hv with rfl | rfl | rfl
    · exact ⟨_, rfl, by decide, by show (-10 ^ 9 : Int) + _ ≤ _; omega⟩
    · exact ⟨_, rfl, by omega, by omega⟩
    · exact ⟨_, rfl, by show _ ≤ (10 ^ 9 : Int) - _; omega, by show (10 ^ 9 : Int) - _ + _ ≤ _; omega⟩
  obtain ⟨S, rfl, S1, S2⟩ := hv
  walk_at "s"
  rename_i p hp
  have hps : p ≠ s := by walk_at "ne"
  refine for_rng (fun i σ' H' => ∃ (S : Int) (rows : List (Int × Int × Int)) (vs : List V) (xk xp : Option V), σ' = [some (.ref s), some (.int m), some (.int S), some (.ref p), xk, xp] ∧ H' p = some (.lst vs) ∧ AtAll H' (rows.map isRowT) vs ∧ rows.length = i ∧ Gs s H H' ∧
      -1000000000 ≤ S ∧ S + 20000 * (m - i) ≤ 1000000000 ∧ (∀ r ∈ rows, ((-1000000000 ≤ r.1 ∧ r.1 ≤ 1000000000) ∧ (-1000000000 ≤ r.2.1 ∧ r.2.1 ≤ 1000000000) ∧ 0 ≤ r.2.2 ∧ r.2.2 ≤ 100) ∧ r.1 < S) ∧ rows.Pairwise fun a b => a.1 < b.1)
    ⟨S, [], [], none, none, rfl, upd_same, rfl, rfl, by walk_at "gs", S1, by omega, fun r hr => (by simp at hr), List.Pairwise.nil⟩ ?_ ?_
  · rintro i σ' H' hi ⟨S, rows, vs, xk, xp, rfl, hl, hat, hlen, gs', t1, t2, hr, up⟩
    obtain ⟨x', hx'⟩ := gs'.st
    have hvl := hat.length
    rw [List.length_map] at hvl
    walk_at "s"
    refine ex_pick (fun v => ∃ p : Int, v = .int p ∧ 0 ≤ p ∧ p ≤ 100) (by omega) (by simp; omega) (fun v hv => ?_) (fun v hv => ?_)
    · simp only [List.mem_cons, List.not_mem_nil, or_false] at hv
      rcases hv with rfl | rfl | rfl
      · exact ⟨_, rfl, by decide, by decide⟩
      · exact ⟨_, rfl, by decide, by decide⟩
      · exact ⟨_, rfl, by omega, by omega⟩
    obtain ⟨pc, rfl, pc0, pc1⟩ := hv
    walk_at "s"
    rename_i z Hn zl zh gz wz hwz T hT y2 r2 c1 c2 y1 r1 c3 c4 q1 hq y0 r0 c5 c6
    refine ex_pick (fun v => ∃ d : Int, v = .int d ∧ 0 ≤ d ∧ d < 20000) c5 (by simp; omega) (fun v hv => ?_) (fun v hv => ?_)
    · simp only [List.mem_cons, List.not_mem_nil, or_false] at hv
      rcases hv with rfl | rfl
      · exact ⟨_, rfl, by omega, by omega⟩
      · exact ⟨_, rfl, by omega, by omega⟩
    obtain ⟨d, rfl, d0, d1⟩ := hv
    walk_at "s"
    refine ⟨S + 1 + d, rows ++ [(S, z, pc)], vs ++ [.ref T], _, _, rfl, by walk_at "hp", ?_, by simp [hlen], by walk_at "gs", by omega, by omega, fun r h => ?_, ?_⟩
    · rw [List.map_append]
      exact AtAll.append (rows_le hat (by walk_at "lt")) (AtAll.one (isRowT_at (by walk_at "hp")))
    · rcases List.mem_append.mp h with h | h
      · have := hr r h
        exact ⟨this.1, by omega⟩
      · rw [List.mem_singleton.mp h]
        exact ⟨⟨⟨t1, by omega⟩, ⟨zl, zh⟩, pc0, pc1⟩, by show S < S + 1 + d; omega⟩
    · rw [List.pairwise_append]
      refine ⟨up, List.pairwise_singleton _ _, fun a ha b hb => ?_⟩
      rw [List.mem_singleton.mp hb]
      exact (hr a ha).2
  · rintro σ' H' ⟨S, rows, vs, xk, xp, rfl, hl, hat, hlen, gs', t1, t2, hr, up⟩
    walk_at "s"
    rename_i a K1 sm ha
    refine q rows _ _ ⟨by omega, by omega, fun r h => (hr r h).1, up⟩ (by walk_at "gs") ⟨a, vs, rfl, ha, rows_le hat (by walk_at "lt")⟩
instance {H : Hp} {Q : VK} {E : XK} {s : Addr} : Step (sp_law_table (.ref s) H Q E) (∃ xs, H s = some (.lst xs) ∧ (∃ x, xs = [.int x]) ∧ DrwQ s H (fun rows v H' => Drawn rows ∧ At H' (.tuple (rows.map isRowT)) v) fun _ v H' => Q v H') := ⟨fun ⟨xs, h, ⟨x, e⟩, q⟩ => ⟨s, x, rfl, by rw [← e]; exact h, fun rows v H' d g a => q rows v H' g ⟨d, a⟩⟩⟩
end
end Fl

-- after: nm.tpl m4c.tpl lawtab.tpl
namespace Fl
open PySem PySem.Spec PyProof.Rows L2 RZ
/-! ### forms: lines in no ring, their order -/
/-- at what place it stands -/
def pos : List Int → Int → Nat
  | [], _ => 0
  | a :: r, k => if a = k then 0 else pos r k + 1
theorem pos_get : ∀ {xs : List Int} {j : Nat} {o : Int}, xs.Nodup → xs[j]? = some o → pos xs o = j
  | a :: r, 0, o, _, e => by
    have e : a = o := by simpa using e
    simp [pos, e]
  | a :: r, j + 1, o, nd, e => by
    have nd' := List.nodup_cons.mp nd
    have e : r[j]? = some o := by simpa using e
    have ne : ¬ a = o := fun z => nd'.1 (by rw [z]; exact List.mem_of_getElem? e)
    simp [pos, ne, pos_get nd'.2 e]
theorem pos_take : ∀ {xs : List Int} {j : Nat} {k : Int}, k ∈ xs.take j → pos xs k < j
  | [], _, _, h => by simp at h
  | a :: r, 0, _, h => by simp at h
  | a :: r, j + 1, k, h => by
    by_cases c : a = k
    · simp [pos, c]
    · rw [List.take_succ_cons] at h
      have h' := (List.mem_cons.mp h).resolve_left fun e => c e.symm
      have := pos_take h'
      simp only [pos, if_neg c]
      omega
/-- lines that name lower ones alone -/
def Acy (rs : List Rule) : Prop := ∃ rk : Int → Nat, ∀ (i : Nat) r k, rs[i]? = some r → k ∈ r.lines → rk k < rk i
theorem nameL_mem {n : Nat} {r : Rule} {k : Int} : k ∈ nameI "line" n r ↔ (0 ≤ k ∧ k < n) ∧ k ∈ r.lines := by
  rw [nameI_mem, Rule.names_line, List.mem_map]
  constructor
  · rintro ⟨h, a, ha, e⟩
    cases e
    exact ⟨h, ha⟩
  · rintro ⟨h, ha⟩
    exact ⟨h, k, ha, rfl⟩
theorem adjR_lines {n : Nat} {rs : List Rule} {a y : Int} (h : y ∈ adjR n rs a) : 0 ≤ a ∧ (0 ≤ y ∧ y < n) ∧ ∃ r, rs[a.toNat]? = some r ∧ y ∈ r.lines := by
  unfold adjR at h
  split at h
  · rename_i c
    cases e : rs[a.toNat]? with
    | none => rw [e] at h; cases h
    | some r =>
      rw [e] at h
      have := nameL_mem.mp h
      exact ⟨c, this.1, r, rfl, this.2⟩
  · cases h
theorem Acy.adj {n : Nat} {rs : List Rule} (h : Acy rs) : ∃ rk : Int → Nat, ∀ a y, y ∈ adjR n rs a → rk y < rk a := by
  obtain ⟨rk, hk⟩ := h
  refine ⟨rk, fun a y hy => ?_⟩
  obtain ⟨a0, _, r, er, hl⟩ := adjR_lines hy
  have := hk _ r y er hl
  rwa [Int.toNat_of_nonneg a0] at this
theorem Acy.no_ring {n : Nat} {rs : List Rule} (h : Acy rs) : ∀ f w, ¬ Ring (adjR n rs) f w := by
  obtain ⟨rk, hk⟩ := h.adj (n := n)
  have down : ∀ m a b, Wk (adjR n rs) (m + 1) a b → rk b < rk a := by
    intro m
    induction m with
    | zero =>
      rintro a b ⟨c, hc, e⟩
      rw [← show c = b from e]
      exact hk _ _ hc
    | succ m ih =>
      rintro a b ⟨c, hc, w⟩
      have := ih _ _ w
      have := hk _ _ hc
      omega
  intro f w r
  obtain ⟨t, e⟩ := r.hd
  have wk := r.wk
  rw [e, List.length_cons] at wk
  have := down _ _ _ wk
  omega
theorem Acy.ro {n : Nat} {rs : List Rule} (h : Acy rs) : roN (adjR n rs) n n = [] := ro_nil ⟨fun a => (adjR_adj a).1, fun a => (adjR_adj a).2⟩ h.no_ring
end Fl

-- after: gw.tpl ru.tpl
namespace Fl
open PySem PySem.Spec PyProof.Rows L2 RZ
/-! ### what a rule is drawn from, in the heap -/
structure Gen (H : Hp) (s q z p : Addr) (g : Sg) : Prop where
  st : ∃ x, H s = some (.lst [.int x])
  sn : H q = some (.lst (g.seen.map V.int))
  qs : q ≠ s
  sz : H z = some (.tup [.int g.L, .int g.T, .int g.C])
  wd : H p = some (.lst (g.pool.map V.str))
  ps : p ≠ s
  l1 : 1 ≤ g.pool.length
  l2 : g.pool.length ≤ 1000
  l3 : g.seen.length ≤ 1000
  hL : 1 ≤ g.L
theorem Gen.gs {H H' : Hp} {s q z p : Addr} {g : Sg} (h : Gen H s q z p g) (e : Gs s H H') : Gen H' s q z p g where
  st := e.st
  sn := e.keep _ _ h.qs h.sn
  qs := h.qs
  sz := e.keep _ _ (fun w => by
    obtain ⟨x, hx⟩ := h.st
    have h2 := h.sz
    rw [w, hx] at h2
    cases h2) h.sz
  wd := e.keep _ _ h.ps h.wd
  ps := h.ps
  l1 := h.l1
  l2 := h.l2
  l3 := h.l3
  hL := h.hL
section
variable {P : Program} {w : World} {K : PySem.W.Frag} {mg : Str → Option Value} {base : Heap}
abbrev s__law_plain : Stmt := topS 66
theorem sc__law_plain : FnScope ["_law_state", "_law_seen", "_law_sizes_here", "_law_words_here", "_law_kind"] ["_law_state", "_law_seen", "_law_sizes_here", "_law_words_here"] (defScope s__law_plain) := ⟨rfl, rfl, rfl, by decide +kernel, rfl, by decide +kernel, by decide +kernel⟩
def sp_plain : Sp4 := fun a b c e H Q _ => ∃ s q z p g, a = .ref s ∧ b = .ref q ∧ c = .ref z ∧ e = .ref p ∧ Gen H s q z p g ∧ DrwQ s H (fun (r : Rule) v H' => r.ok g 1 ∧ At H' r.d v) fun _ v H' => Q v H'
theorem ok_plain (M : Mg mg) (G__law_next : Has P w K mg base "_law_next" ["_law_state", "_law_size"] 1 (sp2 sp_next)) (G__law_number : Has P w K mg base "_law_number" ["_law_state"] 2 (sp1 sp_number))
    (D : DefAt K mg "_law_plain" s__law_plain ["_law_state", "_law_seen", "_law_sizes_here", "_law_words_here"]) : Has P w K mg base "_law_plain" ["_law_state", "_law_seen", "_law_sizes_here", "_law_words_here"] 3 (sp4 sp_plain) := by
  refine .mk4 D sc__law_plain fun f cdv A outer s0 H a b c e Q E hr h => ⟨_, (pss_cons (ps_set (i := 4) sc__law_plain.nd rfl (by first | exact Or.inl rfl | exact Or.inr rfl) (pe_own G__law_next (hr.mono (by first | decide | omega)) (by rfl) p_body (pa_cons (pv 0) (pa_cons pe_int pa_nil))))
    (pss_cons (ps_if (pt_cmpR (k_eq K rfl hr) (pv 4) pe_int (nomark _)) (pss_one (ps_ret (pe_tup (pa_cons pe_str (pa_cons (pe_own G__law_number (hr.mono (by first | decide | omega)) (by rfl) p_body (pa_cons (pv 0) pa_nil)) pa_nil))))) pss_nil)
    (pss_cons (ps_if (PW.pt (pw_and (pt_cmpR o_lt (pv 4) pe_int (nomark _)) (pw_and1 (pt_cmpR o_gt (pe_callB (k_len K rfl) (by rfl) M.len (by decide +kernel) (pa_cons (pv 1) pa_nil)) pe_int (nomark _))))) (pss_one (ps_ret (pe_tup (pa_cons pe_str (pa_cons (pe_ix (k_ix K rfl) (pv 1) (pe_own G__law_next (hr.mono (by first | decide | omega)) (by rfl) p_body (pa_cons (pv 0) (pa_cons (pe_callB (k_len K rfl) (by rfl) M.len (by decide +kernel) (pa_cons (pv 1) pa_nil)) pa_nil))) (fun _ _ => rfl)) pa_nil))))) pss_nil)
    (pss_cons (ps_if (pt_cmpR (k_eq K rfl hr) (pv 4) pe_int (nomark _)) (pss_one (ps_ret (pe_tup (pa_cons pe_str (pa_cons (pe_own G__law_next (hr.mono (by first | decide | omega)) (by rfl) p_body (pa_cons (pv 0) (pa_cons (pe_ix (k_ix K rfl) (pv 2) pe_int (fun _ _ => rfl)) pa_nil))) pa_nil))))) pss_nil)
    (pss_one (ps_ret (pe_tup (pa_cons pe_str (pa_cons (pe_ix (k_ix K rfl) (pv 3) (pe_own G__law_next (hr.mono (by first | decide | omega)) (by rfl) p_body (pa_cons (pv 0) (pa_cons (pe_callB (k_len K rfl) (by rfl) M.len (by decide +kernel) (pa_cons (pv 3) pa_nil)) pa_nil))) (fun _ _ => rfl)) pa_nil))))))))), ?_⟩
  obtain ⟨s, q, z, p, g, rfl, rfl, rfl, rfl, hg, k⟩ := h
  obtain ⟨x, hs⟩ := hg.st
  have hq := hg.sn
  have hqs := hg.qs
  have hz := hg.sz
  have hp := hg.wd
  have hps := hg.ps
  have hzs : z ≠ s := fun w => by rw [w, hs] at hz; cases hz
  have l1 := hg.l1
  have hL := hg.hL
  refine Fl.go_start (σ0 := [some _, some _, some _, some _, none]) rfl ?_
  walk_at "s"
  rename_i y r h0 h1
  refine if_d (fun c => ?_) (fun c => ?_)
  · walk_at "s"
    rename_i n H2 n0 n1 gs2 _ _ t ht
    exact k (.num n) _ _ (by walk_at "gs") ⟨⟨n0, n1⟩, at2 upd_same rfl rfl⟩
  have l1' : 0 < ((g.pool.map V.str).length : Int) := by simp; omega
  have hL' : 0 < g.L := by omega
  walk_at "s"
  refine if_d (fun c1 => ?wa) (fun c1 => ?wb)
  case' wa =>
    walk_at "s"
    refine if_d (fun c2 => ?wa1) (fun c2 => ?wa2)
  case wa1 =>
    walk_at "s"
    rename_i y2 r2 g0 g1
    refine ex_pick (fun v => ∃ i ∈ g.seen, v = .int i) g0 g1 (fun v hv => by
      obtain ⟨i, hi, e⟩ := List.mem_map.mp hv
      exact ⟨i, hi, e.symm⟩) ?_
    rintro _ ⟨i, hi, rfl⟩
    walk_at "s"
    exact k (.line i) _ _ (by walk_at "gs") ⟨hi, at2 upd_same rfl rfl⟩
  all_goals
    walk_at "s"
    refine if_d (fun c3 => ?_) (fun c3 => ?_)
    · walk_at "s"
      rename_i y2 r2 g0 g1 t ht
      exact k (.earl r2) _ _ (by walk_at "gs") ⟨⟨g0, g1⟩, at2 upd_same rfl rfl⟩
    walk_at "s"
    rename_i y2 r2 g0 g1
    refine ex_pick (fun v => ∃ i ∈ g.pool, v = .str i) g0 g1 (fun v hv => by
      obtain ⟨i, hi, e⟩ := List.mem_map.mp hv
      exact ⟨i, hi, e.symm⟩) ?_
    rintro _ ⟨i, hi, rfl⟩
    walk_at "s"
    exact k (.paper i) _ _ (by walk_at "gs") ⟨hi, at2 upd_same rfl rfl⟩
end
end Fl

-- after: g2.tpl
namespace Fl
open PySem PySem.Spec PyProof.Rows L2 RZ
section
variable {P : Program} {w : World} {K : PySem.W.Frag} {mg : Str → Option Value} {base : Heap}
instance {H : Hp} {Q : VK} {E : XK} {s q z p : Addr} : Step (sp_plain (.ref s) (.ref q) (.ref z) (.ref p) H Q E) (∃ g, Gen H s q z p g ∧ DrwQ s H (fun (r : Rule) v H' => r.ok g 1 ∧ At H' r.d v) fun _ v H' => Q v H') := ⟨fun ⟨g, h, k⟩ => ⟨s, q, z, p, g, rfl, rfl, rfl, rfl, h, k⟩⟩
theorem ops_pick {r : Int} (h0 : 2 ≤ r) (h1 : r < 6) : ∃ w, op4 w ∧ atI [V.str "add", V.str "take", V.str "least", V.str "most"] (r - 2) = some (.str w) := by
  rcases four (r := r - 2) (by omega) (by omega) with e | e | e | e <;> rw [e]
  · exact ⟨_, .inl rfl, rfl⟩
  · exact ⟨_, .inr (.inl rfl), rfl⟩
  · exact ⟨_, .inr (.inr (.inl rfl)), rfl⟩
  · exact ⟨_, .inr (.inr (.inr rfl)), rfl⟩
abbrev s__law_rule : Stmt := topS 67
theorem sc__law_rule : FnScope ["_law_state", "_law_deep", "_law_seen", "_law_sizes_here", "_law_words_here", "_law_kind", "_law_one", "_law_other"] ["_law_state", "_law_deep", "_law_seen", "_law_sizes_here", "_law_words_here"] (defScope s__law_rule) := ⟨rfl, rfl, rfl, by decide +kernel, rfl, by decide +kernel, by decide +kernel⟩
def sp_rule (n : Nat) : Sp5 := fun a b c e i H Q _ => ∃ s q z p g deep, a = .ref s ∧ b = .int deep ∧ c = .ref q ∧ e = .ref z ∧ i = .ref p ∧ Gen H s q z p g ∧ (1 ≤ deep ∧ deep ≤ n) ∧ DrwQ s H (fun (r : Rule) v H' => r.ok g deep.toNat ∧ At H' r.d v) fun _ v H' => Q v H'
instance {H : Hp} {Q : VK} {E : XK} {s q z p : Addr} {deep : Int} {n : Nat} : Step (sp_rule n (.ref s) (.int deep) (.ref q) (.ref z) (.ref p) H Q E) (∃ g, Gen H s q z p g ∧ (1 ≤ deep ∧ deep ≤ n) ∧ DrwQ s H (fun (r : Rule) v H' => r.ok g deep.toNat ∧ At H' r.d v) fun _ v H' => Q v H') := ⟨fun ⟨g, h, k, l⟩ => ⟨s, q, z, p, g, deep, rfl, rfl, rfl, rfl, rfl, h, k, l⟩⟩
theorem ok_rule_step {n : Nat} (M : Mg mg) (G__law_next : Has P w K mg base "_law_next" ["_law_state", "_law_size"] 1 (sp2 sp_next)) (G__law_plain : Has P w K mg base "_law_plain" ["_law_state", "_law_seen", "_law_sizes_here", "_law_words_here"] 3 (sp4 sp_plain))
    (G__law_rule : Has P w K mg base "_law_rule" ["_law_state", "_law_deep", "_law_seen", "_law_sizes_here", "_law_words_here"] (n + 3) (sp5 (sp_rule n))) (D : DefAt K mg "_law_rule" s__law_rule ["_law_state", "_law_deep", "_law_seen", "_law_sizes_here", "_law_words_here"]) : Has P w K mg base "_law_rule" ["_law_state", "_law_deep", "_law_seen", "_law_sizes_here", "_law_words_here"] (n + 3 + 1) (sp5 (sp_rule (n + 1))) := by
  refine .mk5 D sc__law_rule fun f cdv A outer s0 H a b c e i Q E hr h => ⟨_, (pss_cons (ps_set (i := 5) sc__law_rule.nd rfl (by first | exact Or.inl rfl | exact Or.inr rfl) (pe_own G__law_next (hr.mono (by first | decide | omega)) (by rfl) p_body (pa_cons (pv 0) (pa_cons pe_int pa_nil))))
    (pss_cons (ps_if (PW.pt (pw_or (pt_cmpR o_lt (pv 1) pe_int (nomark _)) (pw_or1 (pt_cmpR o_lt (pv 5) pe_int (nomark _))))) (pss_one (ps_ret (pe_own G__law_plain (hr.mono (by first | decide | omega)) (by rfl) p_body (pa_cons (pv 0) (pa_cons (pv 2) (pa_cons (pv 3) (pa_cons (pv 4) pa_nil))))))) pss_nil)
    (pss_cons (ps_set (i := 6) sc__law_rule.nd rfl (by first | exact Or.inl rfl | exact Or.inr rfl) (pe_own G__law_rule (hr.mono (by first | decide | omega)) (by rfl) p_body (pa_cons (pv 0) (pa_cons (pe_op o_sub (pv 1) pe_int) (pa_cons (pv 2) (pa_cons (pv 3) (pa_cons (pv 4) pa_nil)))))))
    (pss_cons (ps_if (pt_cmpR (k_eq K rfl hr) (pv 5) pe_int (nomark _)) (pss_one (ps_ret (pe_tup (pa_cons pe_str (pa_cons (pv 6) (pa_cons (pe_ix (k_ix K rfl) (pe_lst (pa_cons pe_int (pa_cons pe_int (pa_cons (pe_own G__law_next (hr.mono (by first | decide | omega)) (by rfl) p_body (pa_cons (pv 0) (pa_cons pe_int pa_nil))) pa_nil)))) (pe_own G__law_next (hr.mono (by first | decide | omega)) (by rfl) p_body (pa_cons (pv 0) (pa_cons pe_int pa_nil))) (fun _ _ => rfl)) pa_nil)))))) pss_nil)
    (pss_cons (ps_if (PW.pt (pw_and (pt_cmpR (k_eq K rfl hr) (pv 5) pe_int (nomark _)) (pw_and1 (pt_cmpR o_gt (pe_ix (k_ix K rfl) (pv 3) pe_int (fun _ _ => rfl)) pe_int (nomark _))))) (pss_one (ps_ret (pe_tup (pa_cons pe_str (pa_cons (pe_own G__law_next (hr.mono (by first | decide | omega)) (by rfl) p_body (pa_cons (pv 0) (pa_cons (pe_ix (k_ix K rfl) (pv 3) pe_int (fun _ _ => rfl)) pa_nil))) (pa_cons (pv 6) pa_nil)))))) pss_nil)
    (pss_cons (ps_if (pt_cmpR (k_eq K rfl hr) (pv 5) pe_int (nomark _)) (pss_one (ps_ret (pv 6))) pss_nil)
    (pss_cons (ps_set (i := 7) sc__law_rule.nd rfl (by first | exact Or.inl rfl | exact Or.inr rfl) (pe_own G__law_rule (hr.mono (by first | decide | omega)) (by rfl) p_body (pa_cons (pv 0) (pa_cons (pe_callB (c_min2 rfl) (by rfl) M.min (by decide +kernel) (pa_cons (pe_op o_sub (pv 1) pe_int) (pa_cons pe_int pa_nil))) (pa_cons (pv 2) (pa_cons (pv 3) (pa_cons (pv 4) pa_nil)))))))
    (pss_meet (ps_if (pt_cmpR (k_eq K rfl hr) (pe_own G__law_next (hr.mono (by first | decide | omega)) (by rfl) p_body (pa_cons (pv 0) (pa_cons pe_int pa_nil))) pe_int (nomark _)) (pss_one (ps_par (i := 6) (j := 7) (by rfl) sc__law_rule.nd rfl rfl (by decide) rfl rfl (pa_cons (pv 7) (pa_cons (pv 6) pa_nil)) (by rfl))) pss_nil)
    (pss_cons (ps_if (pt_cmpR o_lt (pv 5) pe_int (nomark _)) (pss_one (ps_ret (pe_tup (pa_cons (pe_ix (k_ix K rfl) (pe_lst (pa_cons pe_str (pa_cons pe_str (pa_cons pe_str (pa_cons pe_str pa_nil))))) (pe_op o_sub (pv 5) pe_int) (fun _ _ => rfl)) (pa_cons (pv 6) (pa_cons (pv 7) pa_nil)))))) pss_nil)
    (pss_cons (ps_if (pt_cmpR o_lt (pv 5) pe_int (nomark _)) (pss_one (ps_ret (pe_tup (pa_cons pe_str (pa_cons (pv 6) (pa_cons (pv 7) (pa_cons (pe_own G__law_rule (hr.mono (by first | decide | omega)) (by rfl) p_body (pa_cons (pv 0) (pa_cons (pe_callB (c_min2 rfl) (by rfl) M.min (by decide +kernel) (pa_cons (pe_op o_sub (pv 1) pe_int) (pa_cons pe_int pa_nil))) (pa_cons (pv 2) (pa_cons (pv 3) (pa_cons (pv 4) pa_nil)))))) pa_nil))))))) pss_nil)
    (pss_cons (ps_if (pt_cmpR o_gt (pe_ix (k_ix K rfl) (pv 3) pe_int (fun _ _ => rfl)) pe_int (nomark _)) (pss_one (ps_ret (pe_tup (pa_cons pe_str (pa_cons (pe_own G__law_next (hr.mono (by first | decide | omega)) (by rfl) p_body (pa_cons (pv 0) (pa_cons (pe_ix (k_ix K rfl) (pv 3) pe_int (fun _ _ => rfl)) pa_nil))) (pa_cons (pv 6) (pa_cons (pv 7) pa_nil))))))) pss_nil)
    (pss_one (ps_ret (pe_tup (pa_cons pe_str (pa_cons (pv 7) (pa_cons (pv 6) pa_nil))))))))))))))))), ?_⟩
  obtain ⟨s, q, z, p, g, deep, rfl, rfl, rfl, rfl, rfl, hg, ⟨hd1, hdn⟩, k⟩ := h
  obtain ⟨x, hs⟩ := hg.st
  have hz := hg.sz
  have hzs : z ≠ s := fun w => by rw [w, hs] at hz; cases hz
  obtain ⟨m, rfl⟩ : ∃ m : Nat, deep = m + 1 := ⟨(deep - 1).toNat, by omega⟩
  have em : ((m : Int) + 1).toNat = m + 1 := by omega
  rw [em] at k
  refine Fl.go_start (σ0 := [some _, some _, some _, some _, some _, none, none, none]) rfl ?_
  walk_at "s"
  rename_i y r h0 h1
  refine if_d (fun c => ?wa) (fun c => ?wb)
  case' wb =>
    walk_at "s"
    refine if_d (fun c0 => ?wb1) (fun c0 => ?wb2)
  case wb2 =>
    have hm : 1 ≤ m := by omega
    have e1 : ((m : Int) + 1 - 1).toNat = m := by omega
    walk_at "s"
    refine ⟨g, hg.gs (by walk_at "gs"), ⟨by omega, by omega⟩, fun r1 v1 H1 gs1 ⟨o1, a1⟩ => ?_⟩
    rw [e1] at o1
    have gsA : Gs s H H1 := by walk_at "gs"
    clear gs1
    obtain ⟨x1, hx1⟩ := gsA.st
    have hg1 := hg.gs gsA
    have hz1 := hg1.sz
    walk_at "s"
    refine if_d (fun c1 => ?_) (fun c1 => ?_)
    · walk_at "s"
      rename_i ya ra ra0 ra1 pl hpl yb rb rb0 rb1
      refine ex_pick (fun v => ∃ i : Int, v = .int i ∧ 0 ≤ i ∧ i ≤ 100) rb0 rb1 (fun v hv => by
        simp only [List.mem_cons, List.not_mem_nil, or_false] at hv
        rcases hv with rfl | rfl | rfl
        · exact ⟨_, rfl, by decide, by decide⟩
        · exact ⟨_, rfl, by decide, by decide⟩
        · exact ⟨_, rfl, by omega, by omega⟩) ?_
      rintro _ ⟨i, rfl, i0, i1⟩
      walk_at "s"
      exact k (.part r1 i) _ _ (by walk_at "gs") ⟨⟨⟨i0, i1⟩, o1⟩, at3 upd_same rfl (by walk_at "at") rfl⟩
    walk_at "s"
    refine if_d (fun c2 => ?_) (fun c2 => ?_)
    · walk_at "s"
      refine if_d (fun c3 => ?_) (fun c3 => ?_)
      · walk_at "s"
        rename_i ya ra ra0 ra1 t ht
        exact k (.table ra r1) _ _ (by walk_at "gs") ⟨⟨⟨ra0, ra1⟩, o1⟩, at3 upd_same rfl rfl (by walk_at "at")⟩
      walk_at "s"
      walk_at "yes"
      walk_at "s"
      exact k r1 v1 H1 gsA ⟨Rule.ok_succ o1, a1⟩
    walk_at "s"
    walk_at "no"
    walk_at "s"
    refine ⟨g, hg1, ⟨by split <;> omega, by split <;> omega⟩, fun r2 v2 H2 gs2 ⟨o2, a2⟩ => ?_⟩
    have o2 : r2.ok g m := Rule.ok_mono (by split <;> omega) o2
    have a1' : At H2 r1.d v1 := by walk_at "at"
    have gsB : Gs s H H2 := by walk_at "gs"
    clear gs2
    obtain ⟨x2, hx2⟩ := gsB.st
    have hg2 := hg.gs gsB
    have hz2 := hg2.sz
    walk_at "s"
    refine meet (fun σ' H' => Gs s H H' ∧ ∃ (ra : Rule) (va : V) (rb : Rule) (vb : V), σ' = [some (.ref s), some (.int (m + 1)), some (.ref q), some (.ref z), some (.ref p), some (.int r), some va, some vb] ∧ ra.ok g m ∧ rb.ok g m ∧ At H' ra.d va ∧ At H' rb.d vb) ?_ ?_
    · walk_at "s"
      refine if_d (fun c3 => ?_) (fun c3 => ?_)
      · walk_at "s"
        exact ⟨by walk_at "gs", r2, v2, r1, v1, rfl, o2, o1, by walk_at "at", by walk_at "at"⟩
      · walk_at "s"
        exact ⟨by walk_at "gs", r1, v1, r2, v2, rfl, o1, o2, by walk_at "at", by walk_at "at"⟩
    clear a1 a2 a1' o1 o2
    rintro σ' H3 ⟨gsC, ra, va, rb, vb, rfl, oa, ob, aa, ab⟩
    obtain ⟨x3, hx3⟩ := gsC.st
    have hg3 := hg.gs gsC
    have hz3 := hg3.sz
    walk_at "s"
    refine if_d (fun c3 => ?_) (fun c3 => ?_)
    · walk_at "s"
      obtain ⟨w, hw, ew⟩ := ops_pick (r := r) (by omega) c3
      refine ex_v ew ?_
      walk_at "s"
      exact k (.two w ra rb) _ _ (by walk_at "gs") ⟨⟨hw, oa, ob⟩, at3 upd_same rfl (by walk_at "at") (by walk_at "at")⟩
    walk_at "s"
    refine if_d (fun c4 => ?_) (fun c4 => ?_)
    · walk_at "s"
      refine ⟨g, hg3, ⟨by split <;> omega, by split <;> omega⟩, fun r4 v4 H4 gs4 ⟨o4, a4⟩ => ?_⟩
      have o4 : r4.ok g m := Rule.ok_mono (by split <;> omega) o4
      obtain ⟨x4, hx4⟩ := gs4.st
      walk_at "s"
      exact k (.wher ra rb r4) _ _ (by walk_at "gs") ⟨⟨oa, ob, o4⟩, at4 upd_same rfl (by walk_at "at") (by walk_at "at") (by walk_at "at")⟩
    walk_at "s"
    refine if_d (fun c5 => ?_) (fun c5 => ?_)
    · walk_at "s"
      rename_i yd rd rd0 rd1 t ht
      exact k (.choo rd ra rb) _ _ (by walk_at "gs") ⟨⟨⟨rd0, rd1⟩, oa, ob⟩, at4 upd_same rfl rfl (by walk_at "at") (by walk_at "at")⟩
    walk_at "s"
    exact k (.two "take" rb ra) _ _ (by walk_at "gs") ⟨⟨.inr (.inl rfl), ob, oa⟩, at3 upd_same rfl (by walk_at "at") (by walk_at "at")⟩
  all_goals
    walk_at "s"
    refine ⟨g, hg.gs (by walk_at "gs"), fun r1 v1 H1 gs1 ⟨o1, a1⟩ => ?_⟩
    walk_at "s"
    exact k r1 v1 H1 (by walk_at "gs") ⟨Rule.ok_mono (by omega) o1, a1⟩
theorem ok_rule (M : Mg mg) (G__law_next : Has P w K mg base "_law_next" ["_law_state", "_law_size"] 1 (sp2 sp_next)) (G__law_plain : Has P w K mg base "_law_plain" ["_law_state", "_law_seen", "_law_sizes_here", "_law_words_here"] 3 (sp4 sp_plain)) (D : DefAt K mg "_law_rule" s__law_rule ["_law_state", "_law_deep", "_law_seen", "_law_sizes_here", "_law_words_here"]) :
    ∀ n : Nat, Has P w K mg base "_law_rule" ["_law_state", "_law_deep", "_law_seen", "_law_sizes_here", "_law_words_here"] (n + 3) (sp5 (sp_rule n))
  | 0 => Has.none_left D fun vs H Q E h => by
    obtain ⟨_, _, _, _, _, _, _, _, _, _, _, deep, _, _, _, _, _, _, ⟨h1, h2⟩, _⟩ := h
    omega
  | n + 1 => ok_rule_step M G__law_next G__law_plain (ok_rule M G__law_next G__law_plain D n) D
end
end Fl

-- after: fo0.tpl gen0.tpl g3.tpl
namespace Fl
open PySem PySem.Spec PyProof.Rows L2 RZ
/-! ### the parts of a form, drawn: sizes, an order -/
def rangeI (n : Nat) : List Int := (List.range n).map fun (k : Nat) => (k : Int)
theorem rangeI_nodup (n : Nat) : (rangeI n).Nodup := pw_nodup (range_srt n)
theorem mem_rangeI {n : Nat} {k : Int} : k ∈ rangeI n ↔ 0 ≤ k ∧ k < n := by
  unfold rangeI
  rw [List.mem_map]
  constructor
  · rintro ⟨i, hi, rfl⟩
    have := List.mem_range.mp hi
    omega
  · rintro ⟨h0, h1⟩
    exact ⟨k.toNat, List.mem_range.mpr (by omega), by omega⟩
theorem rangeI_len (n : Nat) : (rangeI n).length = n := by simp [rangeI]
theorem rgV_range (n : Nat) : rgV 0 (n : Int) = (rangeI n).map V.int := by
  simp [rgV, rangeI, Function.comp_def]
theorem pop_at {H : Hp} {Q : VK} {l : Addr} {xs : List Int} {i : Nat} {y : Int} (h : H l = some (.lst (xs.map V.int))) (e : xs[i]? = some y) (s : xs.length < 100000) (q : Q (.int y) (upd H l (.lst ((xs.eraseIdx i).map V.int)))) : rPopAt (.ref l) [.int i] H Q := by
  have il := (List.getElem?_eq_some_iff.mp e).1
  refine ⟨l, xs.map V.int, i, i, .int y, rfl, rfl, h, by omega, by omega, ?_, by rw [List.getElem?_map, e]; rfl, ?_⟩
  · unfold seqIndex?
    rw [List.length_map]
    simp
    omega
  · rw [erase_mapI]
    exact q
theorem erase_perm : ∀ {xs : List Int} {i : Nat} (h : i < xs.length), ([xs[i]] ++ xs.eraseIdx i).Perm xs
  | a :: r, 0, _ => List.Perm.refl _
  | a :: r, i + 1, h => by
    have ih := erase_perm (xs := r) (i := i) (by simpa using h)
    exact (List.Perm.swap a (r[i]'(by simpa using h)) (r.eraseIdx i)).trans (ih.cons a)
section
variable {P : Program} {w : World} {K : PySem.W.Frag} {mg : Str → Option Value} {base : Heap}
abbrev s__law_sizes : Stmt := topS 68
theorem sc__law_sizes : FnScope ["_law_cell", "_law_most", "_law_many", "_law_tables", "_law_choices"] ["_law_cell", "_law_most"] (defScope s__law_sizes) := ⟨rfl, rfl, rfl, by decide +kernel, rfl, by decide +kernel, by decide +kernel⟩
/-- so many lines, tables, choices -/
structure SzO (n T C : Nat) (most : Nat) : Prop where
  n1 : 1 ≤ n
  n2 : n ≤ most
  t : T ≤ 5
  c : C ≤ 8
def sp_sizes : Sp2 := fun a b H Q _ => ∃ (c : Int) (most : Nat), a = .int c ∧ b = .int most ∧ 0 ≤ c ∧ (7 ≤ most ∧ most ≤ 40) ∧ ∀ n T C z H', SzO n T C most → Same H H' → H' z = some (.tup [.int (n : Nat), .int (T : Nat), .int (C : Nat)]) → Q (.ref z) H'
theorem ok_sizes (M : Mg mg) (D : DefAt K mg "_law_sizes" s__law_sizes ["_law_cell", "_law_most"]) : Has P w K mg base "_law_sizes" ["_law_cell", "_law_most"] 1 (sp2 sp_sizes) := by
  refine .mk2 D sc__law_sizes fun fa cdv A outer s0 H a b Q E hr h => ⟨_, (pss_cons (ps_set (i := 2) sc__law_sizes.nd rfl (by first | exact Or.inl rfl | exact Or.inr rfl) (pe_op (k_add K rfl) pe_int (pe_op o_mod (pv 0) pe_int)))
    (pss_meet (ps_if (pt_cmpR (k_eq K rfl hr) (pe_op o_mod (pe_op o_div (pv 0) pe_int) pe_int) pe_int (nomark _)) (pss_one (ps_set (i := 2) sc__law_sizes.nd rfl (by first | exact Or.inl rfl | exact Or.inr rfl) (pe_op (k_add K rfl) pe_int (pe_op o_mod (pe_op o_div (pv 0) pe_int) (pe_op o_sub (pv 1) pe_int))))) pss_nil)
    (pss_cons (ps_set (i := 3) sc__law_sizes.nd rfl (by first | exact Or.inl rfl | exact Or.inr rfl) (pe_op o_mod (pe_op o_div (pv 0) pe_int) pe_int))
    (pss_meet (ps_if (pt_cmpR (k_eq K rfl hr) (pe_op o_mod (pe_op o_div (pv 0) pe_int) pe_int) pe_int (nomark _)) (pss_one (ps_set (i := 3) sc__law_sizes.nd rfl (by first | exact Or.inl rfl | exact Or.inr rfl) (pe_op (k_add K rfl) pe_int (pe_op o_mod (pe_op o_div (pv 0) pe_int) pe_int)))) pss_nil)
    (pss_cons (ps_set (i := 4) sc__law_sizes.nd rfl (by first | exact Or.inl rfl | exact Or.inr rfl) (pe_op o_mod (pe_op o_div (pv 0) pe_int) pe_int))
    (pss_meet (ps_if (pt_cmpR (k_eq K rfl hr) (pe_op o_mod (pe_op o_div (pv 0) pe_int) pe_int) pe_int (nomark _)) (pss_one (ps_set (i := 4) sc__law_sizes.nd rfl (by first | exact Or.inl rfl | exact Or.inr rfl) (pe_op (k_add K rfl) pe_int (pe_op o_mod (pe_op o_div (pv 0) pe_int) pe_int)))) pss_nil)
    (pss_one (ps_ret (pe_tup (pa_cons (pv 2) (pa_cons (pv 3) (pa_cons (pv 4) pa_nil)))))))))))), ?_⟩
  obtain ⟨c, most, rfl, rfl, hc, ⟨m7, m40⟩, q⟩ := h
  refine Fl.go_start (σ0 := [some _, some _, none, none, none]) rfl ?_
  walk_at "s"
  refine meet (fun σ' H' => ∃ n : Nat, σ' = [some (.int c), some (.int most), some (.int n), none, none] ∧ (1 ≤ n ∧ n ≤ most) ∧ H' = H) ?_ ?_
  · walk_at "s"
    refine if_d (fun c1 => ?_) (fun c1 => ?_)
    · have p0 : (0 : Int) < (most : Int) - 6 := by omega
      have h0 := Int.emod_nonneg (c / 36) (show (most : Int) - 6 ≠ 0 by omega)
      have h1 := Int.emod_lt_of_pos (c / 36) p0
      walk_at "s"
      exact ⟨(7 + c / 36 % ((most : Int) - 6)).toNat, by rw [Int.toNat_of_nonneg (by omega)]; rfl, by omega, rfl⟩
    · walk_at "s"
      exact ⟨(1 + c % 6).toNat, by rw [Int.toNat_of_nonneg (by omega)]; rfl, by omega, rfl⟩
  rintro σ' H' ⟨n, rfl, hn, rfl⟩
  walk_at "s"
  refine meet (fun σ' H2 => ∃ T : Nat, σ' = [some (.int c), some (.int most), some (.int n), some (.int T), none] ∧ T ≤ 5 ∧ H2 = H') ?_ ?_
  · walk_at "s"
    refine if_d (fun c1 => ?_) (fun c1 => ?_)
    · walk_at "s"
      exact ⟨(3 + c / 29376 % 3).toNat, by rw [Int.toNat_of_nonneg (by omega)]; rfl, by omega, rfl⟩
    · walk_at "s"
      exact ⟨(c / 1224 % 3).toNat, by rw [Int.toNat_of_nonneg (by omega)]; rfl, by omega, rfl⟩
  rintro σ' H2 ⟨T, rfl, hT, rfl⟩
  walk_at "s"
  refine meet (fun σ' H3 => ∃ C : Nat, σ' = [some (.int c), some (.int most), some (.int n), some (.int T), some (.int C)] ∧ C ≤ 8 ∧ H3 = H2) ?_ ?_
  · walk_at "s"
    refine if_d (fun c1 => ?_) (fun c1 => ?_)
    · walk_at "s"
      exact ⟨(4 + c / 2820096 % 5).toNat, by rw [Int.toNat_of_nonneg (by omega)]; rfl, by omega, rfl⟩
    · walk_at "s"
      exact ⟨(c / 88128 % 4).toNat, by rw [Int.toNat_of_nonneg (by omega)]; rfl, by omega, rfl⟩
  rintro σ' H3 ⟨C, rfl, hC, rfl⟩
  walk_at "s"
  exact q n T C _ _ ⟨hn.1, hn.2, hT, hC⟩ (by walk_at "sm") upd_same
abbrev s__law_order : Stmt := topS 69
theorem sc__law_order : FnScope ["_law_state", "_law_many", "_law_left", "_law_found"] ["_law_state", "_law_many"] (defScope s__law_order) := ⟨rfl, rfl, rfl, by decide +kernel, rfl, by decide +kernel, by decide +kernel⟩
def sp_order : Sp2 := fun a b H Q _ => ∃ (s : Addr) (x : Int) (n : Nat), a = .ref s ∧ H s = some (.lst [.int x]) ∧ b = .int n ∧ n ≤ 1000 ∧ ∀ (ns : List Int) p H', Gs s H H' → H p = none → H' p = some (.lst (ns.map V.int)) → ns.Perm (rangeI n) → Q (.ref p) H'
theorem ok_order (M : Mg mg) (G__law_next : Has P w K mg base "_law_next" ["_law_state", "_law_size"] 1 (sp2 sp_next)) (D : DefAt K mg "_law_order" s__law_order ["_law_state", "_law_many"]) : Has P w K mg base "_law_order" ["_law_state", "_law_many"] 2 (sp2 sp_order) := by
  refine .mk2 D sc__law_order fun fa cdv A outer s0 H a b Q E hr h => ⟨_, (pss_cons (ps_set (i := 2) sc__law_order.nd rfl (by first | exact Or.inl rfl | exact Or.inr rfl) (pe_listRg rfl (by rfl) M.list (prg_1 (by rfl) M.range (pv 1))))
    (pss_cons (ps_set (i := 3) sc__law_order.nd rfl (by first | exact Or.inl rfl | exact Or.inr rfl) (pe_lst pa_nil))
    (pss_cons (ps_while own_p (pt_cmpR o_gt (pe_callB (k_len K rfl) (by rfl) M.len (by decide +kernel) (pa_cons (pv 2) pa_nil)) pe_int (nomark _)) (pss_one (ps_expr (k_bm K rfl PySem.F.plainAttrs_list PySem.F.slot_list_append PySem.F.type_list_append mt_append (pv 3) (pa_cons (k_bm K rfl PySem.F.plainAttrs_list PySem.F.slot_list_pop PySem.F.type_list_pop mt_popAt (pv 2) (pa_cons (pe_own G__law_next (hr.mono (by first | decide | omega)) (by rfl) p_body (pa_cons (pv 0) (pa_cons (pe_callB (k_len K rfl) (by rfl) M.len (by decide +kernel) (pa_cons (pv 2) pa_nil)) pa_nil))) pa_nil)) pa_nil)))))
    (pss_one (ps_ret (pv 3)))))), ?_⟩
  obtain ⟨s, x, n, rfl, hs, rfl, hn, q⟩ := h
  refine Fl.go_start (σ0 := [some _, some _, none, none]) rfl ?_
  walk_at "s"
  intro l hl
  rw [rgV_range] at *
  walk_at "s"
  rename_i f hf
  have hls : l ≠ s := fun z => by rw [z, hs] at hl; cases hl
  have hfs : f ≠ s := fun z => by rw [z, upd_ne hls.symm, hs] at hf; cases hf
  have hlf : l ≠ f := fun z => by rw [← z, upd_same] at hf; cases hf
  have ff : H f = none := L2.Same.free (Same.new (.refl _) hl) hf
  refine while_go (fun m σ' H' => ∃ xs ys : List Int, σ' = [some (.ref s), some (.int n), some (.ref l), some (.ref f)] ∧ m = xs.length ∧ H' l = some (.lst (xs.map V.int)) ∧ H' f = some (.lst (ys.map V.int)) ∧ (ys ++ xs).Perm (rangeI n) ∧ Gs s H H') n
    ⟨rangeI n, [], rfl, (rangeI_len n).symm, by walk_at "hp", upd_same, by simp, by walk_at "gs"⟩ ?_
  rintro m σ' H' ⟨xs, ys, rfl, rfl, hxs, hys, pm, gs⟩
  obtain ⟨x1, hx1⟩ := gs.st
  have plen := pm.length_eq
  rw [List.length_append, rangeI_len] at plen
  walk_at "s"
  by_cases c : xs = []
  · subst c
    refine if_df (by simp) ?_
    walk_at "s"
    exact q ys f H' gs ff hys (by simpa using pm)
  have cpos := List.length_pos_iff.mpr c
  refine if_dt (by simp; omega) ?_
  refine while_turn ?_
  have l0 : 0 < ((xs.map V.int).length : Int) := by simp; omega
  walk_at "s"
  rename_i yy r r0 r1
  obtain ⟨rn, rfl⟩ : ∃ rn : Nat, r = rn := ⟨r.toNat, by omega⟩
  have rl : rn < xs.length := by simp at r1; omega
  refine pop_at (i := rn) (y := xs[rn]) (by walk_at "hp") (List.getElem?_eq_getElem rl) (by omega) ?_
  walk_at "s"
  refine ⟨(xs.eraseIdx rn).length, by rw [List.length_eraseIdx_of_lt rl]; omega, xs.eraseIdx rn, ys ++ [xs[rn]], rfl, rfl, by walk_at "hp", by rw [upd_same]; simp, ?_, ?_⟩
  · refine List.Perm.trans ?_ pm
    rw [List.append_assoc]
    refine List.Perm.append_left _ ?_
    exact erase_perm rl
  · exact Gs.mut (Gs.mut (gs.trans .put) hl hls.symm) ff hfs.symm
end
end Fl

-- after: nm.tpl m4c.tpl
namespace Fl
open PySem PySem.Spec PyProof.Rows L2 RZ
/-! ### ring_from: lists of lists in the heap -/
def LLs (H0 H : Hp) (S : List Addr) : List (List Int) → List V → Prop
  | [], vs => vs = []
  | xs :: r, vs => ∃ p t, vs = .ref p :: t ∧ (H0 p = none ∧ p ∉ S ∧ H p = some (.lst (xs.map V.int))) ∧ LLs H0 H S r t
theorem LLs.mono {H0 H H' : Hp} {S S' : List Addr} (k : ∀ p xs, p ∉ S → H p = some (.lst xs) → p ∉ S' ∧ H' p = some (.lst xs)) : ∀ {xss : List (List Int)} {vs : List V}, LLs H0 H S xss vs → LLs H0 H' S' xss vs
  | [], _, h => h
  | xs :: r, _, ⟨p, t, e, ⟨h1, h2, h3⟩, h⟩ => ⟨p, t, e, ⟨h1, (k _ _ h2 h3).1, (k _ _ h2 h3).2⟩, h.mono k⟩
theorem LLs.length {H0 H : Hp} {S : List Addr} : ∀ {xss : List (List Int)} {vs : List V}, LLs H0 H S xss vs → vs.length = xss.length
  | [], _, h => by rw [show _ = _ from h]; rfl
  | _ :: _, _, ⟨p, t, e, _, h⟩ => by rw [e, List.length_cons, List.length_cons, h.length]
theorem LLs.ix {H0 H : Hp} {S : List Addr} : ∀ {xss : List (List Int)} {vs : List V} {i : Nat} {v : V}, LLs H0 H S xss vs → vs[i]? = some v → ∃ p xs, v = .ref p ∧ xss[i]? = some xs ∧ H0 p = none ∧ p ∉ S ∧ H p = some (.lst (xs.map V.int))
  | [], _, _, _, h, e => by rw [show _ = _ from h] at e; simp at e
  | xs :: r, _, 0, _, ⟨p, t, e1, ⟨h1, h2, h3⟩, h⟩, e => by
    subst e1
    exact ⟨p, xs, (Option.some.inj e).symm, rfl, h1, h2, h3⟩
  | _ :: _, _, i + 1, _, ⟨p, t, e1, _, h⟩, e => by
    subst e1
    obtain ⟨q, xs, a, b, r⟩ := h.ix (i := i) (by simpa using e)
    exact ⟨q, xs, a, by simpa using b, r⟩
theorem LLs.append {H0 H : Hp} {S : List Addr} : ∀ {xss yss : List (List Int)} {vs us : List V}, LLs H0 H S xss vs → LLs H0 H S yss us → LLs H0 H S (xss ++ yss) (vs ++ us)
  | [], _, _, _, h, k => by rw [show _ = _ from h]; exact k
  | _ :: _, _, _, _, ⟨p, t, e, h0, h⟩, k => by subst e; exact ⟨p, _, rfl, h0, h.append k⟩
theorem LLs.one {H0 H : Hp} {S : List Addr} {p : Addr} {xs : List Int} (h1 : H0 p = none) (h2 : p ∉ S) (h3 : H p = some (.lst (xs.map V.int))) : LLs H0 H S [xs] [.ref p] := ⟨p, [], rfl, ⟨h1, h2, h3⟩, rfl⟩
theorem LLs.dp {K : PySem.W.Frag} {H0 H : Hp} {S : List Addr} : ∀ {xss : List (List Int)} {vs : List V}, LLs H0 H S xss vs → DpAll K H vs (xss.map fun xs => .list (xs.map PyData.int))
  | [], _, h => by rw [show _ = _ from h]; exact .nil
  | _ :: _, _, ⟨p, t, e, ⟨_, _, h3⟩, h⟩ => by subst e; exact .cons (dp_ints h3) h.dp
theorem lay_ll (xss : List (List Int)) : PyData.canLayAll0 (xss.map fun xs => .list (xs.map PyData.int)) = true :=
  lay_all _ fun d hd => by
    obtain ⟨xs, _, rfl⟩ := List.mem_map.mp hd
    simp only [PyData.canLay0]
    exact lay_ints xs
theorem atI_last {xs : List Int} {f : Int} (h : xs ≠ []) : atI (xs.map V.int) (-1) = some (.int (lastF f xs)) := by
  obtain ⟨u, e⟩ := lastF_split (f := f) h
  generalize lastF f xs = z at e
  subst e
  have l : (u ++ [z]).map V.int = u.map V.int ++ [.int z] := by simp
  rw [l]
  have e2 : ixN (u.map V.int ++ [V.int z]).length (-1) = some u.length := by
    unfold ixN
    simp
    omega
  unfold atI
  rw [e2]
  show (u.map V.int ++ [V.int z])[u.length]? = _
  rw [List.getElem?_append_right (by simp)]
  simp
theorem foldE_snoc {α β ε : Type} {g : β → α → Except ε β} {b st : β} {p : List α} {x : α} (h : foldE g b p = .ok st) : foldE g b (p ++ [x]) = g st x := by
  rw [foldE_app, h]
  show foldE g st [x] = _
  rw [foldE]
  cases g st x <;> rfl
theorem foldE_err {α β ε : Type} {g : β → α → Except ε β} {b : β} {p q : List α} {e : ε} (h : foldE g b p = .error e) : foldE g b (p ++ q) = .error e := by
  rw [foldE_app, h]
theorem rf_nil {adj : Int → List Int} {f : Int} {m : Nat} {seen : List Int} : rf adj f m [] seen = [] := by
  cases m <;> simp [rf]
theorem meas_next {adj : Int → List Int} {n : Nat} {f : Int} (h : Adj adj n) (hf : 0 ≤ f ∧ f < n) {l m : Nat} {ways : List (List Int)} {seen : List Int} (b : BI adj f l ways seen) (c : ways ≠ []) {st : List Int × List (List Int)}
    (e : foldE (rfStep f) (seen, []) (rfPairs adj f ways) = .ok st) (hm : meas n ways seen ≤ m + 1) : meas n st.2 st.1 ≤ m := by
  obtain ⟨h1, h2⟩ := b.next h.srt c e
  have ls' := range_len h1.nd fun x hx => by
    obtain ⟨_, a, ha⟩ := h1.up x hx
    exact h.rng a x ha
  unfold meas at hm ⊢
  rw [if_neg c] at hm
  by_cases c2 : st.2 = []
  · rw [if_pos c2]
    omega
  · rw [if_neg c2]
    have := List.length_pos_iff.mpr c2
    omega
theorem pth_last {adj : Int → List Int} {n : Nat} {f : Int} (h : Adj adj n) (hf : 0 ≤ f ∧ f < n) {l : Nat} {w : List Int} (p : Pth adj f l w) : 0 ≤ lastF f w ∧ lastF f w < n := by
  cases l with
  | zero =>
    obtain ⟨r, rfl, e⟩ := p.hd
    have : r = [] := List.eq_nil_of_length_eq_zero e
    subst this
    exact hf
  | succ l =>
    obtain ⟨u, y, rfl, _, hy, _⟩ := p.split
    rw [lastF_app]
    exact h.rng _ _ hy
theorem notin_i {K : PySem.W.Frag} {H : Hp} {Q : VK} {p : Addr} {k : Int} {ns : List Int} (h : H p = some (.lst (ns.map V.int))) (q : Q (.bl (!decide (k ∈ ns))) H) : uNotIn K (.int k) (.ref p) H Q := by
  refine notin_k (b := false) ⟨k, rfl⟩ (fun u hu => ?_) h ?_
  · obtain ⟨i, _, rfl⟩ := List.mem_map.mp hu
    exact ⟨i, rfl⟩
  · have e : decide (V.int k ∈ ns.map V.int) = decide (k ∈ ns) := by
      congr 1
      simp
    rw [e]
    exact q
theorem in_i {K : PySem.W.Frag} {H : Hp} {Q : VK} {p : Addr} {k : Int} {ns : List Int} (h : H p = some (.lst (ns.map V.int))) (q : Q (.bl (decide (k ∈ ns))) H) : uIn K (.int k) (.ref p) H Q := by
  refine .inl ⟨p, ns.map V.int, rfl, .inl (.of h), rfl, List.all_eq_true.mpr fun u hu => ?_, ?_⟩
  · obtain ⟨i, _, rfl⟩ := List.mem_map.mp hu
    rfl
  · rw [inV_k (b := false) ⟨k, rfl⟩ fun u hu => by
      obtain ⟨i, _, rfl⟩ := List.mem_map.mp hu
      exact ⟨i, rfl⟩]
    have e : decide (V.int k ∈ ns.map V.int) = decide (k ∈ ns) := by
      congr 1
      simp
    rw [e]
    exact q
/-- the lines of a form or of a list -/
structure Lns (g : Sg) (n : Nat) (rs : List Rule) : Prop where
  good : ∀ r ∈ rs, GoodR g r
  len : rs.length = n
  gL : g.L = n
  few : n ≤ 1000
theorem Lns.adj {g : Sg} {n : Nat} {rs : List Rule} (_ : Lns g n rs) : Adj (adjR n rs) n := ⟨fun a => (adjR_adj a).1, fun a => (adjR_adj a).2⟩
theorem rfPairs_snoc {adj : Int → List Int} {f : Int} {ways : List (List Int)} {i : Nat} {w : List Int} (h : ways[i]? = some w) : rfPairs adj f (ways.take (i + 1)) = rfPairs adj f (ways.take i) ++ (adj (lastF f w)).map fun y => (w, y) := by
  unfold rfPairs
  rw [List.take_add_one, h, List.flatMap_append]
  simp
theorem rfPairs_part {adj : Int → List Int} {f : Int} {ways : List (List Int)} {i j : Nat} {w : List Int} (h : ways[i]? = some w) : ∃ q, rfPairs adj f ways = (rfPairs adj f (ways.take i) ++ ((adj (lastF f w)).take j).map fun y => (w, y)) ++ q := by
  have hl := (List.getElem?_eq_some_iff.mp h).1
  refine ⟨((adj (lastF f w)).drop j).map (fun y => (w, y)) ++ rfPairs adj f (ways.drop (i + 1)), ?_⟩
  have e : rfPairs adj f ways = rfPairs adj f (ways.take (i + 1)) ++ rfPairs adj f (ways.drop (i + 1)) := by
    unfold rfPairs
    rw [← List.flatMap_append, List.take_append_drop]
  rw [e, rfPairs_snoc h, List.append_assoc, List.append_assoc, ← List.append_assoc (List.map _ _), ← List.map_append, List.take_append_drop]
section
variable {P : Program} {w : World} {K : PySem.W.Frag} {mg : Str → Option Value} {base : Heap}
abbrev s_ring_from : Stmt := topS 37
theorem sc_ring_from : FnScope ["lines", "first", "ways", "seen", "longer", "way", "line"] ["lines", "first"] (defScope s_ring_from) := ⟨rfl, rfl, rfl, by decide +kernel, rfl, by decide +kernel, by decide +kernel⟩
def sp_ring_from : Sp2 := fun a b H Q _ => ∃ (l : Addr) (vs : List V) (rs : List Rule) (g : Sg) (n : Nat) (f : Int), a = .ref l ∧ H l = some (.lst vs) ∧ AtAll H (rs.map Rule.d) vs ∧ Lns g n rs ∧ b = .int f ∧ (0 ≤ f ∧ f < n) ∧
  ∀ p H', Same H H' → H p = none → H' p = some (.lst ((rfAll (adjR n rs) n f).map V.int)) → Q (.ref p) H'
theorem ok_ring_from (M : Mg mg) (G_named : Has P w K mg base "named" ["rule", "word"] 2 (sp2 (sp_law_named 8))) (D : DefAt K mg "ring_from" s_ring_from ["lines", "first"]) : Has P w K mg base "ring_from" ["lines", "first"] 3 (sp2 sp_ring_from) := by
  refine .mk2 D sc_ring_from fun fa cdv A outer s H a b Q E hr h => ⟨_, (pss_cons (ps_set (i := 2) sc_ring_from.nd rfl (by first | exact Or.inl rfl | exact Or.inr rfl) (pe_lst (pa_cons (pe_lst (pa_cons (pv 1) pa_nil)) pa_nil)))
    (pss_cons (ps_set (i := 3) sc_ring_from.nd rfl (by first | exact Or.inl rfl | exact Or.inr rfl) (pe_lst pa_nil))
    (pss_cons (ps_while own_p (pt_cmpR (k_neE K rfl hr) (pv 2) (pe_lst pa_nil) (nomark _)) (pss_cons (ps_set (i := 4) sc_ring_from.nd rfl (by first | exact Or.inl rfl | exact Or.inr rfl) (pe_lst pa_nil))
    (pss_cons (ps_for own_p (by rfl) (k_pi K rfl (pv 2)) (pg_name (i := 5) sc_ring_from.nd rfl (by first | exact Or.inl rfl | exact Or.inr rfl)) (pss_one (ps_for own_p (by rfl) (k_pi K rfl (pe_own G_named (hr.mono (by first | decide | omega)) (by rfl) p_body (pa_cons (pe_ix (k_ix K rfl) (pv 0) (pe_ix (k_ix K rfl) (pv 5) (pe_un o_neg pe_int) (fun _ _ => rfl)) (fun _ _ => rfl)) (pa_cons pe_str pa_nil)))) (pg_name (i := 6) sc_ring_from.nd rfl (by first | exact Or.inl rfl | exact Or.inr rfl)) (pss_cons (ps_if (pt_cmpR (k_eq K rfl hr) (pv 6) (pv 1) (nomark _)) (pss_one (ps_ret (pv 5))) pss_nil)
    (pss_one (ps_if (PW.pt (pw_and (pt_cmpR o_gt (pv 6) (pv 1) (nomark _)) (pw_and1 (pt_cmpR (k_notin K rfl hr) (pv 6) (pv 3) (by rfl))))) (pss_cons (ps_expr (k_bm K rfl PySem.F.plainAttrs_list PySem.F.slot_list_append PySem.F.type_list_append mt_append (pv 3) (pa_cons (pv 6) pa_nil)))
    (pss_one (ps_expr (k_bm K rfl PySem.F.plainAttrs_list PySem.F.slot_list_append PySem.F.type_list_append mt_append (pv 4) (pa_cons (pe_op (k_add K rfl) (pv 5) (pe_lst (pa_cons (pv 6) pa_nil))) pa_nil))))) pss_nil))))))
    (pss_one (ps_set (i := 2) sc_ring_from.nd rfl (by first | exact Or.inl rfl | exact Or.inr rfl) (pv 4))))))
    (pss_one (ps_ret (pe_lst pa_nil)))))), ?_⟩
  obtain ⟨l, lv, rs, g, n, f, rfl, hl, hat, hL, rfl, hf, q⟩ := h
  have hadj := hL.adj
  refine Fl.go_start (σ0 := [some _, some _, none, none, none, none, none]) rfl ?_
  walk_at "s"
  rename_i w0 hw0 wa hwa sa hsa
  have n1 : w0 ≠ sa := fun z => by rw [← z, upd_ne (by rintro rfl; rw [upd_same] at hwa; cases hwa), upd_same] at hsa; cases hsa
  have n2 : wa ≠ sa := fun z => by rw [← z, upd_same] at hsa; cases hsa
  have n3 : w0 ≠ wa := fun z => by rw [← z, upd_same] at hwa; cases hwa
  have hw0' : (upd (upd (upd H w0 (.lst [.int f])) wa (.lst [.ref w0])) sa (.lst [])) w0 = some (.lst [.int f]) := by walk_at "hp"
  have fwa : H wa = none := L2.Same.free (Same.new (.refl _) hw0) hwa
  have fsa : H sa = none := L2.Same.free (Same.new (Same.new (.refl _) hw0) hwa) hsa
  refine while_go (fun m σ' H' => ∃ (wa sa : Addr) (vs : List V) (wss : List (List Int)) (seen : List Int) (k : Nat) (y4 y5 y6 : Option V), σ' = [some (.ref l), some (.int f), some (.ref wa), some (.ref sa), y4, y5, y6] ∧
    H' wa = some (.lst vs) ∧ LLs H H' [sa] wss vs ∧ H' sa = some (.lst (seen.map V.int)) ∧ H sa = none ∧ H wa = none ∧ wa ≠ sa ∧ Same H H' ∧ BI (adjR n rs) f k wss seen ∧ meas n wss seen ≤ m ∧ rf (adjR n rs) f m wss seen = rfAll (adjR n rs) n f) (n + 1)
    ⟨wa, sa, [.ref w0], [[f]], [], 0, none, none, none, rfl, by walk_at "hp", .one hw0 (by simpa using n1) hw0', upd_same, fsa, fwa, n2, by walk_at "sm", BI.start, by simp [meas], rfl⟩ ?_
  clear hw0' n1 n2 n3 fwa fsa hw0 hwa hsa
  rintro m σ' H1 ⟨wa, sa, vs, wss, seen, k, y4, y5, y6, rfl, hwa, hll, hsa, hsf, hwf, hne, sm, bi, hm, hres⟩
  walk_at "s"
  rename_i pe hpe
  have hll' : LLs H (upd H1 pe (.lst [])) [sa] wss vs := hll.mono fun p xs hp h => ⟨hp, Same.new (.refl _) hpe _ _ h⟩
  refine ne_e (by walk_at "hp") (by walk_at "hp") hll'.dp (lay_ll _) ?_
  have lvs := hll.length
  by_cases hv : wss = []
  · subst hv
    have ev : vs = [] := List.eq_nil_of_length_eq_zero (by simpa using lvs)
    subst ev
    walk_at "s"
    rename_i pr hpr
    rw [rf_nil] at hres
    exact q pr _ (by walk_at "sm") (by walk_at "fr") (by rw [← hres]; exact upd_same)
  have ev : vs.isEmpty = false := by
    cases vs with
    | nil => exact absurd (List.eq_nil_of_length_eq_zero (by simpa using lvs.symm)) hv
    | cons _ _ => rfl
  rw [ev]
  obtain ⟨m, rfl⟩ : ∃ m', m = m' + 1 := ⟨m - 1, by
    unfold meas at hm
    rw [if_neg hv] at hm
    omega⟩
  have kn : k < n := by
    have h1 := bi.cnt hv
    have h2 := range_len (n := n) (xs := f :: seen) (List.nodup_cons.mpr ⟨fun z => by have := (bi.up f z).1; omega, bi.nd⟩) fun x hx => by
      rcases List.mem_cons.mp hx with rfl | hx
      · exact hf
      obtain ⟨_, a, ha⟩ := bi.up x hx
      exact hadj.rng a x ha
    rw [List.length_cons] at h2
    omega
  have hn := hL.few
  walk_at "s"
  refine while_turn ?_
  walk_at "s"
  rename_i la hla
  have dla : la ≠ sa := fun z => by rw [z, upd_ne (ne_of_none hsa hpe), hsa] at hla; cases hla
  have dlw : la ≠ wa := fun z => by rw [z, upd_ne (ne_of_none hwa hpe), hwa] at hla; cases hla
  have fla : H la = none := L2.Same.free (Same.new sm hpe) hla
  have kp : ∀ p o, H1 p = some o → (upd (upd H1 pe (.lst [])) la (.lst [])) p = some o := fun p o h => Same.new (Same.new (.refl _) hpe) hla _ _ h
  refine for_lst (xs := vs) (fun i σ' H' => ∃ (st : List Int × List (List Int)) (us : List V) (y5 y6 : Option V), σ' = [some (.ref l), some (.int f), some (.ref wa), some (.ref sa), some (.ref la), y5, y6] ∧ foldE (rfStep f) (seen, []) (rfPairs (adjR n rs) f (wss.take i)) = .ok st ∧ H' wa = some (.lst vs) ∧
      LLs H H' [sa, la] wss vs ∧ H' sa = some (.lst (st.1.map V.int)) ∧ H' la = some (.lst us) ∧ LLs H H' [sa, la] st.2 us ∧ Same H H')
    (by walk_at "hp") ⟨(seen, []), [], _, _, rfl, by simp [rfPairs, foldE], by walk_at "hp", hll.mono fun p xs hp h => ⟨?_, kp _ _ h⟩, kp _ _ hsa, upd_same, rfl, by walk_at "sm"⟩ (fun i σ' H' _ ⟨_, _, _, _, _, _, e, _⟩ => e) ?_ ?_
  · simp only [List.mem_cons, List.not_mem_nil, or_false, not_or] at hp ⊢
    exact ⟨hp, fun z => by rw [z] at h; rw [upd_ne (ne_of_none h hpe), h] at hla; cases hla⟩
  · rintro i x σ' H3 ex ⟨st, us, y5', y6', rfl, hfe, hwa3, hll3, hsa3, hla3, hus3, sm3⟩
    obtain ⟨p, w, rfl, ew, hpf, hpS, hpw⟩ := hll3.ix ex
    have hw := bi.pth w (List.mem_of_getElem? ew)
    have hwn : w ≠ [] := by
      obtain ⟨r, e, _⟩ := hw.hd
      rw [e]
      simp
    obtain ⟨j0, j1⟩ := pth_last hadj hf hw
    obtain ⟨jn, ej⟩ : ∃ jn : Nat, lastF f w = jn := ⟨(lastF f w).toNat, by omega⟩
    have jl : jn < rs.length := by rw [hL.len]; omega
    obtain ⟨r, er⟩ : ∃ r, rs[jn]? = some r := ⟨rs[jn], List.getElem?_eq_getElem jl⟩
    obtain ⟨v0, ev0, hv0⟩ := hat.get (i := jn) (d := r.d) (by rw [List.getElem?_map, er]; rfl)
    have hl3 := sm3 _ _ hl
    have eadj : adjR n rs (lastF f w) = nameI "line" n r := by rw [ej]; exact adjR_at er
    walk_at "s"
    refine ex_v (atI_last (f := f) hwn) ?_
    rw [ej]
    walk_at "s"
    refine ex_v (atI_nat ev0) ?_
    walk_at "s"
    refine named_use (hL.good r (List.mem_of_getElem? er)) (hv0.le (Same.le sm3)) (.inl rfl) (n := n) (by simp [wordN]; exact hL.gL) fun nl H4 sm4 hnl enl => ?_
    rw [← eadj] at enl
    generalize hys : adjR n rs (lastF f w) = ys at *
    obtain ⟨hps, hpl⟩ := (show p ≠ sa ∧ p ≠ la by simpa using hpS)
    have fnl : H nl = none := L2.Same.free sm3 hnl
    have nls : nl ≠ sa := fun z => by rw [z, hsa3] at hnl; cases hnl
    have nll : nl ≠ la := fun z => by rw [z, hla3] at hnl; cases hnl
    have lw := hw.len
    refine for_lst (xs := ys.map V.int) (fun j σ' H' => ∃ (st : List Int × List (List Int)) (us : List V) (y6 : Option V), σ' = [some (.ref l), some (.int f), some (.ref wa), some (.ref sa), some (.ref la), some (.ref p), y6] ∧
        foldE (rfStep f) (seen, []) (rfPairs (adjR n rs) f (wss.take i) ++ (ys.take j).map fun y => (w, y)) = .ok st ∧ H' nl = some (.lst (ys.map V.int)) ∧ H' wa = some (.lst vs) ∧ LLs H H' [sa, la] wss vs ∧ H' sa = some (.lst (st.1.map V.int)) ∧ H' la = some (.lst us) ∧
        LLs H H' [sa, la] st.2 us ∧ Same H H' ∧ H' p = some (.lst (w.map V.int)))
      enl ⟨st, us, _, rfl, by simpa using hfe, enl, sm4 _ _ hwa3, hll3.mono fun p xs hp h => ⟨hp, sm4 _ _ h⟩, sm4 _ _ hsa3, sm4 _ _ hla3, hus3.mono fun p xs hp h => ⟨hp, sm4 _ _ h⟩, L2.Same.trans sm3 sm4, sm4 _ _ hpw⟩ (fun i σ' H' _ ⟨_, _, _, _, _, e, _⟩ => e) ?_ ?_
    · rintro j x σ' H5 ex2 ⟨st5, us5, y6'', rfl, hfe5, hnl5, hwa5, hll5, hsa5, hla5, hus5, sm5, hp5⟩
      obtain ⟨y, ey, rfl⟩ : ∃ y, ys[j]? = some y ∧ x = .int y := by
        rw [List.getElem?_map] at ex2
        cases e : ys[j]? with
        | none => rw [e] at ex2; cases ex2
        | some y => rw [e] at ex2; exact ⟨y, rfl, (Option.some.inj ex2).symm⟩
      obtain ⟨q1, eq1⟩ := rfPairs_part (adj := adjR n rs) (f := f) (j := j) ew
      rw [hys] at eq1
      obtain ⟨q2, eq2⟩ := rfPairs_part (adj := adjR n rs) (f := f) (j := j + 1) ew
      rw [hys] at eq2
      have esn : rfPairs (adjR n rs) f (wss.take i) ++ (ys.take (j + 1)).map (fun y => (w, y)) = (rfPairs (adjR n rs) f (wss.take i) ++ (ys.take j).map fun y => (w, y)) ++ [(w, y)] := by
        rw [← take_snoc ey, List.map_append, List.append_assoc]
        rfl
      have hst := foldE_snoc (x := (w, y)) hfe5
      rw [← esn] at hst
      obtain ⟨ln1, ln2⟩ := turn_len hadj.srt hadj.rng bi eq1 hfe5
      have lus := hus5.length
      rw [show rfStep f st5 (w, y) = if y = f then .error w else if f < y ∧ y ∉ st5.1 then .ok (st5.1 ++ [y], st5.2 ++ [w ++ [y]]) else .ok st5 from rfl] at hst
      walk_at "s"
      refine if_d (fun c => ?_) (fun c => ?_)
      · walk_at "s"
        rw [if_pos c] at hst
        have herr := foldE_err (q := q2) hst
        rw [← eq2] at herr
        refine q p H5 sm5 hpf ?_
        rw [← hres, rf, if_neg hv, herr]
        exact hp5
      rw [if_neg c] at hst
      walk_at "s"
      refine if_d (fun c2 => ?_) (fun c2 => ?_)
      · walk_at "s"
        refine notin_i hsa5 ?_
        by_cases c3 : y ∈ st5.1
        · rw [decide_eq_true c3]
          rw [if_neg fun z => z.2 c3] at hst
          walk_at "s"
          exact ⟨st5, us5, _, rfl, hst, hnl5, hwa5, hll5, hsa5, hla5, hus5, sm5, hp5⟩
        · rw [decide_eq_false c3]
          rw [if_pos ⟨c2, c3⟩] at hst
          walk_at "s"
          rename_i t1 ht1 t2 ht2
          have e1 : st5.1.map V.int ++ [V.int y] = (st5.1 ++ [y]).map V.int := by simp
          have e2 : w.map V.int ++ [V.int y] = (w ++ [y]).map V.int := by simp
          rw [e1] at ht1 ht2 ⊢
          rw [e2]
          have kp : ∀ p o, p ≠ sa → p ≠ la → H5 p = some o → (upd (upd (upd (upd H5 sa (.lst ((st5.1 ++ [y]).map V.int))) t1 (.lst [.int y])) t2 (.lst ((w ++ [y]).map V.int))) la (.lst (us5 ++ [.ref t2]))) p = some o := fun p o h1 h2 h => by walk_at "hp"
          have s5 : (upd H5 sa (.lst ((st5.1 ++ [y]).map V.int))) sa = some (.lst ((st5.1 ++ [y]).map V.int)) := upd_same
          have t2s : t2 ≠ sa := fun z => by rw [z, upd_ne (ne_of_none s5 ht1), s5] at ht2; cases ht2
          have l5 : (upd H5 sa (.lst ((st5.1 ++ [y]).map V.int))) la = some (.lst us5) := by rw [upd_ne dla]; exact hla5
          have t2l : t2 ≠ la := fun z => by rw [z, upd_ne (ne_of_none l5 ht1), l5] at ht2; cases ht2
          have t2f : H t2 = none := by
            have s6 : Same H (upd (upd H5 sa (.lst ((st5.1 ++ [y]).map V.int))) t1 (.lst [.int y])) := by walk_at "sm"
            exact L2.Same.free s6 ht2
          exact ⟨(st5.1 ++ [y], st5.2 ++ [w ++ [y]]), us5 ++ [.ref t2], _, rfl, hst, kp _ _ nls nll hnl5, kp _ _ hne dlw.symm hwa5, hll5.mono fun p xs hp h => ⟨hp, kp _ _ (by simp at hp; exact hp.1) (by simp at hp; exact hp.2) h⟩, by walk_at "hp", upd_same,
            (hus5.mono fun p xs hp h => ⟨hp, kp _ _ (by simp at hp; exact hp.1) (by simp at hp; exact hp.2) h⟩).append (.one t2f (by simp; exact ⟨t2s, t2l⟩) (by rw [upd_ne t2l, upd_same])), by walk_at "sm", kp _ _ hps hpl hp5⟩
      · walk_at "s"
        rw [if_neg fun z => c2 z.1] at hst
        exact ⟨st5, us5, _, rfl, hst, hnl5, hwa5, hll5, hsa5, hla5, hus5, sm5, hp5⟩
    · rintro σ' H5 ⟨st5, us5, y6'', rfl, hfe5, hnl5, hwa5, hll5, hsa5, hla5, hus5, sm5, hp5⟩
      rw [List.length_map, List.take_length] at hfe5
      refine ⟨st5, us5, _, _, rfl, ?_, hwa5, hll5, hsa5, hla5, hus5, sm5⟩
      rw [rfPairs_snoc ew, hys]
      exact hfe5
  · rintro σ' H3 ⟨st, us, y5', y6', rfl, hfe, hwa3, hll3, hsa3, hla3, hus3, sm3⟩
    rw [lvs, List.take_length] at hfe
    obtain ⟨bi', _⟩ := bi.next hadj.srt hv hfe
    walk_at "s"
    refine ⟨m, Nat.lt_succ_self _, la, sa, us, st.2, st.1, k + 1, _, _, _, rfl, hla3, hus3.mono fun p xs hp h => ⟨fun z => hp (by simp at z; simp [z]), h⟩, hsa3, hsf, fla, dla, sm3, bi', meas_next hadj hf bi hv hfe hm, ?_⟩
    rw [← hres, rf, if_neg hv, hfe]
end
end Fl

-- after: fo1.tpl lawtab.tpl rg.tpl
namespace Fl
open PySem PySem.Spec PyProof.Rows L2 RZ
/-! ### the form that is drawn -/
theorem Rule.ok_sub {g g' : Sg} (hL : g'.L = g.L) (hT : g'.T = g.T) (hC : g'.C = g.C) (hs : ∀ k ∈ g.seen, k ∈ g'.seen) (hp : ∀ s ∈ g.pool, s ∈ g'.pool) : ∀ {n : Nat} {r : Rule}, r.ok g n → r.ok g' n
  | 0, _, h => h.elim
  | _ + 1, .num _, h => h
  | _ + 1, .paper _, h => hp _ h
  | _ + 1, .line _, h => hs _ h
  | _ + 1, .earl _, h => ⟨h.1, by rw [hL]; exact h.2⟩
  | _ + 1, .two _ _ _, h => ⟨h.1, ok_sub hL hT hC hs hp h.2.1, ok_sub hL hT hC hs hp h.2.2⟩
  | _ + 1, .part _ _, h => ⟨h.1, ok_sub hL hT hC hs hp h.2⟩
  | _ + 1, .table _ _, h => ⟨⟨h.1.1, by rw [hT]; exact h.1.2⟩, ok_sub hL hT hC hs hp h.2⟩
  | _ + 1, .wher _ _ _, h => ⟨ok_sub hL hT hC hs hp h.1, ok_sub hL hT hC hs hp h.2.1, ok_sub hL hT hC hs hp h.2.2⟩
  | _ + 1, .choo _ _ _, h => ⟨⟨h.1.1, by rw [hC]; exact h.1.2⟩, ok_sub hL hT hC hs hp h.2.1, ok_sub hL hT hC hs hp h.2.2⟩
theorem Rule.ok_lines {g : Sg} : ∀ {n : Nat} {r : Rule}, r.ok g n → ∀ k ∈ r.lines, k ∈ g.seen
  | 0, _, h, _, _ => h.elim
  | _ + 1, .num _, _, _, hk => by cases hk
  | _ + 1, .paper _, _, _, hk => by cases hk
  | _ + 1, .line _, h, k, hk => by rw [List.mem_singleton.mp hk]; exact h
  | _ + 1, .earl _, _, _, hk => by cases hk
  | _ + 1, .two _ _ _, h, k, hk => (List.mem_append.mp hk).elim (ok_lines h.2.1 k) (ok_lines h.2.2 k)
  | _ + 1, .part _ _, h, k, hk => ok_lines (r := _) h.2 k hk
  | _ + 1, .table _ _, h, k, hk => ok_lines (r := _) h.2 k hk
  | _ + 1, .wher _ _ _, h, k, hk => (List.mem_append.mp hk).elim (fun z => (List.mem_append.mp z).elim (ok_lines h.1 k) (ok_lines h.2.1 k)) (ok_lines h.2.2 k)
  | _ + 1, .choo _ _ _, h, k, hk => (List.mem_append.mp hk).elim (ok_lines h.2.1 k) (ok_lines h.2.2 k)
structure Frm where
  rs : List Rule
  tbs : List (List (Int × Int × Int))
  C : Nat
  owed : Nat
  ws : List Str
def tbD (rows : List (Int × Int × Int)) : PyData := .tuple (rows.map isRowT)
def Frm.g (F : Frm) : Sg := ⟨F.rs.length, F.tbs.length, F.C, rangeI F.rs.length, F.ws ++ [("a" : Str)]⟩
structure Frm.Ok (F : Frm) (most : Nat) : Prop where
  good : ∀ r ∈ F.rs, r.ok F.g 8
  acy : Acy F.rs
  n1 : 1 ≤ F.rs.length
  n2 : F.rs.length ≤ most
  t5 : F.tbs.length ≤ 5
  c8 : F.C ≤ 8
  ow : F.owed < F.rs.length
  tb : ∀ t ∈ F.tbs, Drawn t
  w1 : 1 ≤ F.ws.length
  w8 : F.ws.length ≤ 8
  wd : ∀ s ∈ F.ws, WdT s
theorem wdt_a : WdT "a" := ⟨⟨by decide +kernel, by decide +kernel⟩, by decide +kernel⟩
theorem Frm.Ok.pool {F : Frm} {m : Nat} (h : F.Ok m) : ∀ s ∈ F.g.pool, WdT s := fun s hs => (List.mem_append.mp hs).elim (h.wd s) fun z => by rw [List.mem_singleton.mp z]; exact wdt_a
theorem Frm.Ok.goodR {F : Frm} {m : Nat} (h : F.Ok m) : ∀ r ∈ F.rs, GoodR F.g r := fun r hr =>
  ⟨h.good r hr, ⟨fun w hw => (h.pool w hw).word, fun k hk => mem_rangeI.mp hk⟩, h.pool, by show (F.ws ++ [("a" : Str)]).length ≤ 40; have := h.w8; simp; omega⟩
theorem Frm.Ok.lns {F : Frm} {m : Nat} (h : F.Ok m) (m40 : m ≤ 1000) : Lns F.g F.rs.length F.rs := ⟨h.goodR, rfl, rfl, by have := h.n2; omega⟩
/-- the parts of a form, as a list -/
def Parts (H0 H : Hp) (p : Addr) (F : Frm) : Prop := ∃ (L Tb W : Addr) (vs ts : List V), H p = some (.lst [.ref L, .ref Tb, .int F.C, .int F.owed, .ref W]) ∧ H L = some (.lst vs) ∧ AtAll H (F.rs.map Rule.d) vs ∧
  H Tb = some (.lst ts) ∧ AtAll H (F.tbs.map tbD) ts ∧ H W = some (.lst (F.ws.map V.str)) ∧ (L ≠ Tb ∧ L ≠ W ∧ L ≠ p) ∧ H0 L = none ∧ H0 p = none
theorem AtAll.set {H : Hp} : ∀ {ds : List PyData} {vs : List V} {j : Nat} {d : PyData} {v : V}, AtAll H ds vs → At H d v → AtAll H (ds.set j d) (vs.set j v)
  | [], _, j, _, _, h, _ => by rw [show _ = _ from h]; simp; exact rfl
  | _ :: _, _, 0, _, _, ⟨u, r, q, h, t⟩, a => by subst q; exact ⟨_, r, rfl, a, t⟩
  | _ :: _, _, j + 1, _, _, ⟨u, r, q, h, t⟩, a => by subst q; exact ⟨u, _, rfl, h, t.set (j := j) a⟩
theorem ixN_nat {n j : Nat} (h : j < n) : ixN n (j : Int) = some j := by
  unfold ixN
  simp
  omega
theorem tbs_tupO (tbs : List (List (Int × Int × Int))) : tupsOnly (tbs.map tbD) = true := tupsOnly_all fun d hd => by
  obtain ⟨t, _, rfl⟩ := List.mem_map.mp hd
  exact isRowT_tup t
theorem rep_flat {x : V} : ∀ n : Nat, (List.replicate n [x]).flatten = List.replicate n x
  | 0 => rfl
  | n + 1 => by rw [List.replicate_succ, List.flatten_cons, rep_flat n]; rfl
theorem atAll_rep {H : Hp} {d : PyData} {v : V} (h : At H d v) : ∀ n : Nat, AtAll H (List.replicate n d) (List.replicate n v)
  | 0 => rfl
  | n + 1 => ⟨v, _, rfl, h, atAll_rep h n⟩
section
variable {P : Program} {w : World} {K : PySem.W.Frag} {mg : Str → Option Value} {base : Heap}
abbrev s__law_form : Stmt := topS 70
theorem sc__law_form : FnScope ["_law_script", "_law_most", "_law_state", "_law_sizes_here", "_law_words_here", "_law_lines", "_law_seen", "_law_line", "_law_deep", "_law_tables", "_law_k"] ["_law_script", "_law_most"] (defScope s__law_form) := ⟨rfl, rfl, rfl, by decide +kernel, rfl, by decide +kernel, by decide +kernel⟩
def sp_form (K : PySem.W.Frag) : Sp2 := fun a b H Q _ => ∃ (sc : Addr) (ns : List Int) (most : Nat), a = .ref sc ∧ Scr K H sc ns ∧ b = .int most ∧ (7 ≤ most ∧ most ≤ 40) ∧ ∀ (F : Frm) p H', F.Ok most → Same H H' → Parts H H' p F → Q (.ref p) H'
theorem ok_form (M : Mg mg) (G__law_cell_at : Has P w K mg base "_law_cell_at" ["_law_script", "_law_k"] 1 (sp2 (sp_cell_at K))) (G__law_mixed : Has P w K mg base "_law_mixed" ["_law_cell", "_law_k"] 1 (sp2 sp_mixed)) (G__law_next : Has P w K mg base "_law_next" ["_law_state", "_law_size"] 1 (sp2 sp_next))
    (G__law_sizes : Has P w K mg base "_law_sizes" ["_law_cell", "_law_most"] 1 (sp2 sp_sizes)) (G__law_words : Has P w K mg base "_law_words" ["_law_state"] 2 (sp1 sp_words)) (G__law_order : Has P w K mg base "_law_order" ["_law_state", "_law_many"] 2 (sp2 sp_order))
    (G__law_rule : Has P w K mg base "_law_rule" ["_law_state", "_law_deep", "_law_seen", "_law_sizes_here", "_law_words_here"] 11 (sp5 (sp_rule 8))) (G__law_table : Has P w K mg base "_law_table" ["_law_state"] 3 (sp1 sp_law_table)) (D : DefAt K mg "_law_form" s__law_form ["_law_script", "_law_most"]) :
    Has P w K mg base "_law_form" ["_law_script", "_law_most"] 12 (sp2 (sp_form K)) := by
  refine .mk2 D sc__law_form fun fa cdv A outer s0 H a b Q E hr h => ⟨_, (pss_cons (ps_set (i := 2) sc__law_form.nd rfl (by first | exact Or.inl rfl | exact Or.inr rfl) (pe_lst (pa_cons (pe_own G__law_mixed (hr.mono (by first | decide | omega)) (by rfl) p_body (pa_cons (pe_own G__law_cell_at (hr.mono (by first | decide | omega)) (by rfl) p_body (pa_cons (pv 0) (pa_cons pe_int pa_nil))) (pa_cons pe_int pa_nil))) pa_nil)))
    (pss_cons (ps_set (i := 3) sc__law_form.nd rfl (by first | exact Or.inl rfl | exact Or.inr rfl) (pe_own G__law_sizes (hr.mono (by first | decide | omega)) (by rfl) p_body (pa_cons (pe_own G__law_mixed (hr.mono (by first | decide | omega)) (by rfl) p_body (pa_cons (pe_own G__law_cell_at (hr.mono (by first | decide | omega)) (by rfl) p_body (pa_cons (pv 0) (pa_cons pe_int pa_nil))) (pa_cons pe_int pa_nil))) (pa_cons (pv 1) pa_nil))))
    (pss_cons (ps_set (i := 4) sc__law_form.nd rfl (by first | exact Or.inl rfl | exact Or.inr rfl) (pe_own G__law_words (hr.mono (by first | decide | omega)) (by rfl) p_body (pa_cons (pv 2) pa_nil)))
    (pss_cons (ps_set (i := 5) sc__law_form.nd rfl (by first | exact Or.inl rfl | exact Or.inr rfl) (pe_op o_mul (pe_lst (pa_cons (pe_tup (pa_cons pe_str (pa_cons pe_int pa_nil))) pa_nil)) (pe_ix (k_ix K rfl) (pv 3) pe_int (fun _ _ => rfl))))
    (pss_cons (ps_set (i := 6) sc__law_form.nd rfl (by first | exact Or.inl rfl | exact Or.inr rfl) (pe_lst pa_nil))
    (pss_cons (ps_for own_p (by rfl) (k_pi K rfl (pe_own G__law_order (hr.mono (by first | decide | omega)) (by rfl) p_body (pa_cons (pv 2) (pa_cons (pe_ix (k_ix K rfl) (pv 3) pe_int (fun _ _ => rfl)) pa_nil)))) (pg_name (i := 7) sc__law_form.nd rfl (by first | exact Or.inl rfl | exact Or.inr rfl)) (pss_cons (ps_set (i := 8) sc__law_form.nd rfl (by first | exact Or.inl rfl | exact Or.inr rfl) (pe_op (k_add K rfl) pe_int (pe_own G__law_next (hr.mono (by first | decide | omega)) (by rfl) p_body (pa_cons (pv 2) (pa_cons pe_int pa_nil)))))
    (pss_meet (ps_if (pt_cmpR (k_eq K rfl hr) (pe_own G__law_next (hr.mono (by first | decide | omega)) (by rfl) p_body (pa_cons (pv 2) (pa_cons pe_int pa_nil))) pe_int (nomark _)) (pss_one (ps_set (i := 8) sc__law_form.nd rfl (by first | exact Or.inl rfl | exact Or.inr rfl) (pe_op (k_add K rfl) pe_int (pe_own G__law_next (hr.mono (by first | decide | omega)) (by rfl) p_body (pa_cons (pv 2) (pa_cons pe_int pa_nil)))))) pss_nil)
    (pss_cons (ps_asg (pe_own G__law_rule (hr.mono (by first | decide | omega)) (by rfl) p_body (pa_cons (pv 2) (pa_cons (pv 8) (pa_cons (pe_callTy (k_list K rfl) (by rfl) M.list (by decide +kernel) (pa_cons (pv 6) pa_nil)) (pa_cons (pv 3) (pa_cons (pv 4) pa_nil)))))) (pg_sub (pv 5) (pv 7) set_list))
    (pss_one (ps_expr (k_bm K rfl PySem.F.plainAttrs_list PySem.F.slot_list_append PySem.F.type_list_append mt_append (pv 6) (pa_cons (pv 7) pa_nil))))))))
    (pss_cons (ps_setLc (i := 9) (own := [("_law_k", 10)]) (g := gName 10) (by rfl) sc__law_form.nd rfl rfl (sw_true rfl rfl rfl (by decide +kernel)) (pi_range1 (by rfl) M.range (pa_cons (pe_ix (k_ix K rfl) (pv 3) pe_int (fun _ _ => rfl)) pa_nil)) (blkOk_by (N := ["_law_script", "_law_most", "_law_state", "_law_sizes_here", "_law_words_here", "_law_lines", "_law_seen", "_law_line", "_law_deep", "_law_tables", "_law_k"]) (sc := (defScope s__law_form)) (own := [("_law_k", 10)]) (by decide +kernel)) (fun _ _ _ _ _ => (pg_name (i := 10) sc__law_form.nd rfl (by first | exact Or.inl rfl | exact Or.inr rfl))) (fun _ _ _ _ _ => pts_nil) (fun _ _ _ _ _ => (pe_own G__law_table (hr.mono (by first | decide | omega)) (by rfl) passL (pa_cons (pv 2) pa_nil))))
    (pss_one (ps_ret (pe_lst (pa_cons (pv 5) (pa_cons (pv 9) (pa_cons (pe_ix (k_ix K rfl) (pv 3) pe_int (fun _ _ => rfl)) (pa_cons (pe_own G__law_next (hr.mono (by first | decide | omega)) (by rfl) p_body (pa_cons (pv 2) (pa_cons (pe_ix (k_ix K rfl) (pv 3) pe_int (fun _ _ => rfl)) pa_nil))) (pa_cons (pv 4) pa_nil))))))))))))))), ?_⟩
  obtain ⟨sc, scn, most, rfl, hS, rfl, ⟨m7, m40⟩, q⟩ := h
  refine Fl.go_start (σ0 := [some _, some _, none, none, none, none, none, none, none, none, none]) rfl ?_
  walk_at "s"
  rename_i za zb zbl zbh st hst zc cell c0 c1
  refine ⟨cell, most, rfl, rfl, c0, ⟨m7, m40⟩, fun n T C z H1 so sm1 hz => ?_⟩
  have hst1 : H1 st = some (.lst [.int zb]) := sm1 _ _ upd_same
  have sm01 : Same H H1 := by walk_at "sm"
  walk_at "s"
  refine ⟨st, zb, rfl, hst1, fun W H2 ws gs2 hW hWf w1 w8 ow => ?_⟩
  obtain ⟨x2, hx2⟩ := gs2.st
  have hzs : z ≠ st := fun e => by rw [e, hst1] at hz; cases hz
  have hz2 := gs2.keep _ _ hzs hz
  have hWs : W ≠ st := fun e => by rw [e, hst1] at hWf; cases hWf
  have sm02 : Same H H2 := fun b u hb => gs2.keep _ _ (fun e => by rw [e, hst] at hb; cases hb) (sm01 _ _ hb)
  have n1 := so.n1
  have n2 := so.n2
  have t5 := so.t
  have c8 := so.c
  walk_at "s"
  rename_i p0 hp0 l1 hl1 L hL S hSS
  rw [Int.toNat_natCast, rep_flat] at *
  have hLs : L ≠ st := by
    have h1 : (upd (upd H2 p0 (.tup [.str "number", .int 0])) l1 (.lst [.ref p0])) st = some (.lst [.int x2]) := by walk_at "hp"
    exact fun e => by rw [e, h1] at hL; cases hL
  have hSs : S ≠ st := by
    have h1 : (upd (upd (upd H2 p0 (.tup [.str "number", .int 0])) l1 (.lst [.ref p0])) L (.lst (List.replicate n (.ref p0)))) st = some (.lst [.int x2]) := by walk_at "hp"
    exact fun e => by rw [e, h1] at hSS; cases hSS
  have hSL : S ≠ L := fun e => by rw [e, upd_same] at hSS; cases hSS
  have hLW : L ≠ W := by
    have h1 : (upd (upd H2 p0 (.tup [.str "number", .int 0])) l1 (.lst [.ref p0])) W = some (.lst (ws.map V.str)) := by walk_at "hp"
    exact fun e => by rw [e, h1] at hL; cases hL
  have hSW : S ≠ W := by
    have h1 : (upd (upd (upd H2 p0 (.tup [.str "number", .int 0])) l1 (.lst [.ref p0])) L (.lst (List.replicate n (.ref p0)))) W = some (.lst (ws.map V.str)) := by walk_at "hp"
    exact fun e => by rw [e, h1] at hSS; cases hSS
  have sm3 : Same H (upd (upd (upd (upd H2 p0 (.tup [.str "number", .int 0])) l1 (.lst [.ref p0])) L (.lst (List.replicate n (.ref p0)))) S (.lst [])) := by walk_at "sm"
  have fL : H L = none := by
    have h1 : Same H (upd (upd H2 p0 (.tup [.str "number", .int 0])) l1 (.lst [.ref p0])) := by walk_at "sm"
    exact L2.Same.free h1 hL
  have fS : H S = none := by
    have h1 : Same H (upd (upd (upd H2 p0 (.tup [.str "number", .int 0])) l1 (.lst [.ref p0])) L (.lst (List.replicate n (.ref p0)))) := by walk_at "sm"
    exact L2.Same.free h1 hSS
  have f3 : (upd (upd (upd (upd H2 p0 (.tup [.str "number", .int 0])) l1 (.lst [.ref p0])) L (.lst (List.replicate n (.ref p0)))) S (.lst [])) st = some (.lst [.int x2]) := by walk_at "hp"
  have z3 : (upd (upd (upd (upd H2 p0 (.tup [.str "number", .int 0])) l1 (.lst [.ref p0])) L (.lst (List.replicate n (.ref p0)))) S (.lst [])) z = some (.tup [.int n, .int T, .int C]) := by walk_at "hp"
  have w3 : (upd (upd (upd (upd H2 p0 (.tup [.str "number", .int 0])) l1 (.lst [.ref p0])) L (.lst (List.replicate n (.ref p0)))) S (.lst [])) W = some (.lst (ws.map V.str)) := by walk_at "hp"
  have L3 : (upd (upd (upd (upd H2 p0 (.tup [.str "number", .int 0])) l1 (.lst [.ref p0])) L (.lst (List.replicate n (.ref p0)))) S (.lst [])) L = some (.lst (List.replicate n (.ref p0))) := by walk_at "hp"
  have S3 : (upd (upd (upd (upd H2 p0 (.tup [.str "number", .int 0])) l1 (.lst [.ref p0])) L (.lst (List.replicate n (.ref p0)))) S (.lst [])) S = some (.lst []) := upd_same
  have A3 : At (upd (upd (upd (upd H2 p0 (.tup [.str "number", .int 0])) l1 (.lst [.ref p0])) L (.lst (List.replicate n (.ref p0)))) S (.lst [])) (Rule.num 0).d (.ref p0) :=
    (show At _ (.tuple [.str "number", .int 0]) _ by walk_at "at2")
  clear hSS hL hl1 hp0
  generalize upd (upd (upd (upd H2 p0 (.tup [.str "number", .int 0])) l1 (.lst [.ref p0])) L (.lst (List.replicate n (.ref p0)))) S (.lst []) = H3 at *
  clear hz2 hx2 sm02 sm01 hst1 hS
  refine ⟨st, x2, n, rfl, f3, rfl, by omega, fun ord o H4 gs4 hof ho pm => ?_⟩
  have plen := pm.length_eq
  rw [rangeI_len] at plen
  have ond : ord.Nodup := pm.nodup_iff.mpr (rangeI_nodup n)
  have orng : ∀ k ∈ ord, 0 ≤ k ∧ k < n := fun k hk => mem_rangeI.mp (pm.mem_iff.mp hk)
  have hos : o ≠ st := fun e => by rw [e, f3] at hof; cases hof
  have hoL : o ≠ L := fun e => by rw [e, L3] at hof; cases hof
  have hoS : o ≠ S := fun e => by rw [e, S3] at hof; cases hof
  obtain ⟨g, hg⟩ : ∃ g : Sg, g = ⟨n, T, C, rangeI n, ws⟩ := ⟨_, rfl⟩
  have hzL : z ≠ L := fun e => by rw [e, L3] at z3; cases z3
  have hzS : z ≠ S := fun e => by rw [e, S3] at z3; cases z3
  have z4 := gs4.keep _ _ hzs z3
  have w4 := gs4.keep _ _ hWs w3
  refine for_lst (fun i σ' H' => ∃ (rs : List Rule) (vs : List V) (y7 y8 : Option V), σ' = [some (.ref sc), some (.int most), some (.ref st), some (.ref z), some (.ref W), some (.ref L), some (.ref S), y7, y8, none, none] ∧ H' L = some (.lst vs) ∧ AtAll H' (rs.map Rule.d) vs ∧ rs.length = n ∧ (∀ r ∈ rs, r.ok g 8) ∧
      (∀ j k r, j < i → ord[j]? = some k → rs[k.toNat]? = some r → r.ok { g with seen := ord.take j } 8) ∧ H' S = some (.lst ((ord.take i).map V.int)) ∧ (∃ x, H' st = some (.lst [.int x])) ∧ (∀ b u, b ≠ st → b ≠ L → b ≠ S → H4 b = some u → H' b = some u) ∧ Same H H')
    ho ⟨List.replicate n (.num 0), List.replicate n (.ref p0), none, none, rfl, gs4.keep _ _ hLs L3, ?_, by simp, fun r hr => ?_, fun j k r hj => by omega, gs4.keep _ _ hSs S3, gs4.st, fun b u _ _ _ h => h, ?_⟩ (fun i σ' H' _ ⟨_, _, _, _, _, _, _, _, _, _, _, _, kp, _⟩ => kp _ _ hos hoL hoS ho) ?_ ?_
  · rw [List.map_replicate]
    exact (atAll_rep A3 n).le (gs4.le f3)
  · rw [List.eq_of_mem_replicate hr]
    exact ⟨by decide, by decide⟩
  · exact fun b u hb => gs4.keep _ _ (fun e => by rw [e, hst] at hb; cases hb) (sm3 _ _ hb)
  · rintro i x σ' H5 ex ⟨rs, vs, y7, y8, rfl, hL5, ha5, lr, hok, hseen, hS5, ⟨x5, hx5⟩, kp, sm5⟩
    obtain ⟨k, ek, rfl⟩ : ∃ k, ord[i]? = some k ∧ x = .int k := by
      rw [List.getElem?_map] at ex
      cases e : ord[i]? with
      | none => rw [e] at ex; cases ex
      | some y => rw [e] at ex; exact ⟨y, rfl, (Option.some.inj ex).symm⟩
    have kr := orng k (List.mem_of_getElem? ek)
    obtain ⟨kn, rfl⟩ : ∃ kn : Nat, k = kn := ⟨k.toNat, by omega⟩
    have il := (List.getElem?_eq_some_iff.mp ek).1
    have lv := ha5.length
    rw [List.length_map, lr] at lv
    have z5 := kp _ _ hzs hzL hzS z4
    have w5 := kp _ _ hWs hLW.symm hSW.symm w4
    walk_at "s"
    refine meet (fun σ' H' => ∃ deep : Int, σ' = [some (.ref sc), some (.int most), some (.ref st), some (.ref z), some (.ref W), some (.ref L), some (.ref S), some (.int kn), some (.int deep), none, none] ∧ (1 ≤ deep ∧ deep ≤ 8) ∧ Gs st H5 H') ?_ ?_
    · walk_at "s"
      refine if_d (fun c => ?_) (fun c => ?_)
      · walk_at "s"
        exact ⟨_, rfl, ⟨by omega, by omega⟩, by walk_at "gs"⟩
      · walk_at "s"
        exact ⟨_, rfl, ⟨by omega, by omega⟩, by walk_at "gs"⟩
    rintro σ' H6 ⟨deep, rfl, hdeep, gs6⟩
    obtain ⟨x6, hx6⟩ := gs6.st
    have L6 := gs6.keep _ _ hLs hL5
    have S6 := gs6.keep _ _ hSs hS5
    have z6 := gs6.keep _ _ hzs z5
    have w6 := gs6.keep _ _ hWs w5
    have a6 := ha5.le (gs6.le hx5)
    walk_at "s"
    rename_i qa hqa
    have hqs : qa ≠ st := fun e => by rw [e, hx6] at hqa; cases hqa
    refine ⟨{ g with seen := ord.take i }, ⟨⟨x6, by walk_at "hp"⟩, upd_same, hqs, by rw [hg]; walk_at "hp", by rw [hg]; walk_at "hp", hWs, by rw [hg]; exact w1, by rw [hg]; show ws.length ≤ 1000; omega, by show (ord.take i).length ≤ 1000; rw [List.length_take]; omega, by rw [hg]; show (1 : Int) ≤ n; omega⟩, ⟨by omega, by omega⟩, fun r v H7 gs7 ⟨ro, ra⟩ => ?_⟩
    have ro8 : r.ok { g with seen := ord.take i } 8 := Rule.ok_mono (by omega) ro
    have gs67 : Gs st H6 H7 := (show Gs st H6 (upd H6 qa (.lst ((ord.take i).map V.int))) by walk_at "gs").trans gs7
    have L7 := gs67.keep _ _ hLs L6
    have S7 := gs67.keep _ _ hSs S6
    obtain ⟨x7, hx7⟩ := gs67.st
    have a7 := a6.le (gs67.le hx6)
    walk_at "s"
    refine ex_j (ixN_nat (n := vs.length) (j := kn) (by omega)) ?_
    walk_at "s"
    have lt7 : LeT H7 (upd (upd H7 L (.lst (vs.set kn v))) S (.lst ((ord.take i).map V.int ++ [V.int kn]))) := LeT.put1 (by rw [upd_ne hSL]; exact S7) (LeT.put1 L7 (.refl _))
    refine ⟨rs.set kn r, vs.set kn v, _, _, rfl, by walk_at "hp", ?_, by rw [List.length_set]; exact lr, fun r' hr' => ?_, fun j k' r' hj ej er => ?_, ?_, ⟨x7, by walk_at "hp"⟩, fun b u h1 h2 h3 h => ?_, ?_⟩
    · rw [List.map_set]
      exact (a7.leT lt7 (rules_tupO rs)).set (ra.leT lt7 r.tupO)
    · rcases List.mem_or_eq_of_mem_set hr' with z | z
      · exact hok r' z
      · rw [z]
        exact Rule.ok_sub (g := { g with seen := ord.take i }) (g' := g) rfl rfl rfl (fun k hk => by rw [hg]; show k ∈ rangeI n; exact pm.mem_iff.mp (List.mem_of_mem_take hk)) (fun s hs => hs) ro8
    · have k'r := orng k' (List.mem_of_getElem? ej)
      obtain ⟨kk, rfl⟩ : ∃ kk : Nat, k' = kk := ⟨k'.toNat, by omega⟩
      rw [Int.toNat_natCast] at er
      rcases Nat.lt_or_eq_of_le (show j ≤ i by omega) with c | c
      · have ne : kn ≠ kk := fun e => by
          subst e
          have h1 := pos_get ond ek
          have h2 := pos_get ond ej
          omega
        rw [List.getElem?_set_ne ne] at er
        exact hseen j kk r' c ej (by rw [Int.toNat_natCast]; exact er)
      · subst c
        rw [ek] at ej
        have e : kn = kk := by
          have := Option.some.inj ej
          omega
        subst e
        rw [List.getElem?_set_self (by omega)] at er
        rw [← Option.some.inj er]
        exact ro8
    · rw [upd_same, ← take_snoc ek, List.map_append]
      rfl
    · have h5 := kp b u h1 h2 h3 h
      have h7 := gs67.keep _ _ h1 (gs6.keep _ _ h1 h5)
      walk_at "hp"
    · refine Same.mut (Same.mut ?_ fL) fS
      exact fun b u hb => gs67.keep _ _ (fun e => by rw [e, hst] at hb; cases hb) (gs6.keep _ _ (fun e => by rw [e, hst] at hb; cases hb) (sm5 _ _ hb))
  · rintro σ' H5 ⟨rs, vs, y7, y8, rfl, hL5, ha5, lr, hok, hseen, hS5, ⟨x5, hx5⟩, kp, sm5⟩
    rw [List.length_map] at hseen hS5
    have z5 := kp _ _ hzs hzL hzS z4
    have w5 := kp _ _ hWs hLW.symm hSW.symm w4
    walk_at "s"
    refine lc_rng (fun D i H' => ∃ (tbs : List (List (Int × Int × Int))) (acc : List V), H' D = some (.lst acc) ∧ AtAll H' (tbs.map tbD) acc ∧ tbs.length = i ∧ (∀ t ∈ tbs, Drawn t) ∧ Gs st H5 H') (fun D hD => ⟨[], [], upd_same, rfl, rfl, by simp, (Gs.refl hx5).new hD⟩) (fun D i H' hD hi ⟨tbs, acc, hacc, ha, lt, ho, gs⟩ => ?_) (fun Tb H6 hTb ⟨tbs, acc, hacc, ha, lt, ho, gs⟩ => ?_)
    · have := so.t
      obtain ⟨x', hx'⟩ := gs.st
      have hDs : D ≠ st := fun e => by rw [e, hx5] at hD; cases hD
      have la := ha.length
      rw [List.length_map] at la
      refine ⟨rfl, ?_⟩
      walk_at "s"
      rename_i rows v H7 gs7 wz wy hwy
      obtain ⟨dr, av⟩ := wz
      have hD7 := gs7.keep _ _ hDs hacc
      have ha7 := ha.le (gs7.le hx')
      have ltt : LeT H7 (upd H7 D (.lst (acc ++ [v]))) := LeT.put1 hD7 (.refl _)
      refine ⟨tbs ++ [rows], acc ++ [v], upd_same, ?_, by simp [lt], fun t ht => ?_, (gs.trans gs7).mut hD hDs.symm⟩
      · rw [List.map_append]
        exact (ha7.leT ltt (tbs_tupO tbs)).append (.one (av.leT ltt (isRowT_tup rows)))
      · exact (List.mem_append.mp ht).elim (ho t) fun z => by rw [List.mem_singleton.mp z]; exact dr
    have hTst : Tb ≠ st := fun e => by rw [e, hx5] at hTb; cases hTb
    have hTL : L ≠ Tb := fun e => by rw [← e, hL5] at hTb; cases hTb
    obtain ⟨x6, hx6⟩ := gs.st
    have L6 := gs.keep _ _ hLs hL5
    have z6 := gs.keep _ _ hzs z5
    have w6 := gs.keep _ _ hWs w5
    have a6 := ha5.le (gs.le hx5)
    walk_at "s"
    rename_i yo ro ro0 ro1 p hp
    have lT : tbs.length = T := by omega
    have fp : H p = none := by
      have h1 : Same H (upd H6 st (.lst [.int yo])) := fun b u hb => by
        have ne : b ≠ st := fun e => by rw [e, hst] at hb; cases hb
        rw [upd_ne ne]
        exact gs.keep _ _ ne (sm5 _ _ hb)
      exact L2.Same.free h1 hp
    have hLp : L ≠ p := fun e => by
      rw [← e, upd_ne hLs, L6] at hp
      cases hp
    refine q ⟨rs, tbs, C, ro.toNat, ws⟩ p _ ⟨fun r hr => ?_, ?_, by show 1 ≤ rs.length; omega, by show rs.length ≤ most; omega, by show tbs.length ≤ 5; have := so.t; omega, so.c, by show ro.toNat < rs.length; omega, ho, w1, w8, ow⟩ ?_
      ⟨L, Tb, W, vs, acc, by rw [upd_same]; show some (HO.lst [_, _, _, V.int ro, _]) = some (HO.lst [_, _, _, V.int (ro.toNat : Int), _]); rw [Int.toNat_of_nonneg ro0], by walk_at "hp", a6.le (by walk_at "le"), by walk_at "hp", ha.le (by walk_at "le"), by walk_at "hp", ⟨hTL, hLW, hLp⟩, fL, fp⟩
    · refine Rule.ok_sub (g := g) (g' := Frm.g ⟨rs, tbs, C, ro.toNat, ws⟩) ?_ ?_ ?_ (fun k hk => ?_) (fun s hs => ?_) (hok r hr)
      · rw [hg]; show (rs.length : Int) = n; omega
      · rw [hg]; show (tbs.length : Int) = T; omega
      · rw [hg]; rfl
      · rw [hg] at hk
        show k ∈ rangeI rs.length
        rw [lr]
        exact hk
      · rw [hg] at hs
        exact List.mem_append_left _ hs
    · refine ⟨pos ord, fun i r k er hk => ?_⟩
      have il := (List.getElem?_eq_some_iff.mp er).1
      have hm : ((i : Nat) : Int) ∈ ord := pm.mem_iff.mpr (mem_rangeI.mpr ⟨by omega, by show (i : Int) < n; have : i < rs.length := il; omega⟩)
      obtain ⟨j, hj, ej⟩ := List.getElem_of_mem hm
      have ej' : ord[j]? = some (i : Int) := by rw [List.getElem?_eq_getElem hj, ej]
      have h1 := hseen j i r (by omega) ej' (by rw [Int.toNat_natCast]; exact er)
      have h2 : k ∈ ord.take j := Rule.ok_lines h1 k hk
      rw [pos_get ond ej']
      exact pos_take h2
    · exact Same.new (fun b u hb => by
        have ne : b ≠ st := fun e => by rw [e, hst] at hb; cases hb
        rw [upd_ne ne]
        exact gs.keep _ _ ne (sm5 _ _ hb)) hp
end
end Fl

-- after: rg.tpl
namespace Fl
open PySem PySem.Spec PyProof.Rows L2 RZ
section
variable {P : Program} {w : World} {K : PySem.W.Frag} {mg : Str → Option Value} {base : Heap}
abbrev s_ring_of : Stmt := topS 38
theorem sc_ring_of : FnScope ["lines", "found", "first", "one"] ["lines"] (defScope s_ring_of) := ⟨rfl, rfl, rfl, by decide +kernel, rfl, by decide +kernel, by decide +kernel⟩
def sp_ring_of : Sp1 := fun a H Q _ => ∃ (l : Addr) (vs : List V) (rs : List Rule) (g : Sg) (n : Nat), a = .ref l ∧ H l = some (.lst vs) ∧ AtAll H (rs.map Rule.d) vs ∧ Lns g n rs ∧
  ∀ p H', Same H H' → H p = none → H' p = some (.lst ((roN (adjR n rs) n n).map V.int)) → Q (.ref p) H'
theorem ok_ring_of (M : Mg mg) (G_ring_from : Has P w K mg base "ring_from" ["lines", "first"] 3 (sp2 sp_ring_from)) (D : DefAt K mg "ring_of" s_ring_of ["lines"]) : Has P w K mg base "ring_of" ["lines"] 4 (sp1 sp_ring_of) := by
  refine .mk1 D sc_ring_of fun fa cdv A outer s H a Q E hr h => ⟨_, (pss_cons (ps_set (i := 1) sc_ring_of.nd rfl (by first | exact Or.inl rfl | exact Or.inr rfl) (pe_lst pa_nil))
    (pss_cons (ps_for own_p (by rfl) (pi_range1 (by rfl) M.range (pa_cons (pe_callB (k_len K rfl) (by rfl) M.len (by decide +kernel) (pa_cons (pv 0) pa_nil)) pa_nil)) (pg_name (i := 2) sc_ring_of.nd rfl (by first | exact Or.inl rfl | exact Or.inr rfl)) (pss_cons (ps_set (i := 3) sc_ring_of.nd rfl (by first | exact Or.inl rfl | exact Or.inr rfl) (pe_own G_ring_from (hr.mono (by first | decide | omega)) (by rfl) p_body (pa_cons (pv 0) (pa_cons (pv 2) pa_nil))))
    (pss_one (ps_if (PW.pt (pw_and (pt_cmpR (k_neE K rfl hr) (pv 3) (pe_lst pa_nil) (nomark _)) (pw_and1 (PW.pt (pw_or (pt_cmpR (k_eqE K rfl hr) (pv 1) (pe_lst pa_nil) (nomark _)) (pw_or1 (pt_cmpR o_lt (pe_callB (k_len K rfl) (by rfl) M.len (by decide +kernel) (pa_cons (pv 3) pa_nil)) (pe_callB (k_len K rfl) (by rfl) M.len (by decide +kernel) (pa_cons (pv 1) pa_nil)) (nomark _)))))))) (pss_one (ps_set (i := 1) sc_ring_of.nd rfl (by first | exact Or.inl rfl | exact Or.inr rfl) (pv 3))) pss_nil))))
    (pss_one (ps_ret (pv 1))))), ?_⟩
  obtain ⟨l, lv, rs, g, n, rfl, hl, hat, hL, q⟩ := h
  have lvn : lv.length = n := by
    have := hat.length
    rw [List.length_map, hL.len] at this
    exact this
  have hn := hL.few
  refine Fl.go_start (σ0 := [some _, none, none, none]) rfl ?_
  walk_at "s"
  rename_i f0 hf0
  refine for_rng (fun i σ' H' => ∃ (p : Addr) (y2 y3 : Option V), σ' = [some (.ref l), some (.ref p), y2, y3] ∧ H' p = some (.lst ((roN (adjR n rs) n i).map V.int)) ∧ H p = none ∧ Same H H') ⟨f0, none, none, rfl, upd_same, hf0, by walk_at "sm"⟩ ?_ ?_
  · rintro i σ' H1 hi ⟨p, y2, y3, rfl, hp, hpf, sm⟩
    have hi' : i < n := by omega
    have hl1 := sm _ _ hl
    walk_at "s"
    refine ⟨l, lv, rs, g, n, 0 + (i : Int), rfl, hl1, hat.le (Same.le sm), hL, rfl, ⟨by omega, by omega⟩, fun o H2 sm2 hof ho => ?_⟩
    rw [Int.zero_add] at ho
    have hp2 := sm2 _ _ hp
    obtain ⟨ok, ol⟩ := rfAll_ok hL.adj (f := (i : Int)) ⟨by omega, by omega⟩
    have ol2 : (roN (adjR n rs) n i).length ≤ n := by
      have o := roN_ok hL.adj i (by omega)
      by_cases c : roN (adjR n rs) n i = []
      · rw [c]; simp
      · exact (o.ring c).1
    walk_at "s"
    rename_i p1 hp1
    refine ne_eI (by walk_at "hp") (by walk_at "hp") ?_
    walk_at "s"
    have res : roN (adjR n rs) n (i + 1) = roStep (adjR n rs) n (roN (adjR n rs) n i) i := rfl
    unfold roStep at res
    have fin1 : ∀ H', Same H2 H' → roN (adjR n rs) n (i + 1) = rfAll (adjR n rs) n i → ∃ (p : Addr) (y2 y3 : Option V), [some (.ref l), some (.ref o), some (.int (0 + (i : Int))), some (.ref o)] = [some (V.ref l), some (.ref p), y2, y3] ∧ H' p = some (.lst ((roN (adjR n rs) n (i + 1)).map V.int)) ∧ H p = none ∧ Same H H' :=
      fun H' e r => ⟨o, _, _, rfl, by rw [r]; exact e _ _ ho, L2.Same.free sm hof, L2.Same.trans sm (L2.Same.trans sm2 e)⟩
    have fin0 : ∀ H', Same H2 H' → roN (adjR n rs) n (i + 1) = roN (adjR n rs) n i → ∃ (p' : Addr) (y2 y3 : Option V), [some (.ref l), some (.ref p), some (.int (0 + (i : Int))), some (.ref o)] = [some (V.ref l), some (.ref p'), y2, y3] ∧ H' p' = some (.lst ((roN (adjR n rs) n (i + 1)).map V.int)) ∧ H p' = none ∧ Same H H' :=
      fun H' e r => ⟨p, _, _, rfl, by rw [r]; exact e _ _ hp2, hpf, L2.Same.trans sm (L2.Same.trans sm2 e)⟩
    by_cases c : rfAll (adjR n rs) n i = []
    · rw [if_neg fun z => z.1 c] at res
      rw [c]
      walk_at "s"
      exact fin0 _ (by walk_at "sm") res
    have c' : (rfAll (adjR n rs) n i).isEmpty = false := by simpa using c
    rw [c']
    walk_at "s"
    rename_i p2 hp2'
    refine eq_eI (by walk_at "hp") (by walk_at "hp") ?_
    walk_at "s"
    by_cases c2 : roN (adjR n rs) n i = []
    · rw [if_pos ⟨c, .inl c2⟩] at res
      rw [c2]
      walk_at "s"
      exact fin1 _ (by walk_at "sm") res
    have c2' : (roN (adjR n rs) n i).isEmpty = false := by simpa using c2
    rw [c2']
    walk_at "s"
    refine if_d (fun c3 => ?_) (fun c3 => ?_)
    · rw [if_pos ⟨c, .inr (by simpa using c3)⟩] at res
      walk_at "s"
      exact fin1 _ (by walk_at "sm") res
    · rw [if_neg fun z => z.2.elim c2 fun z2 => c3 (by simpa using z2)] at res
      walk_at "s"
      exact fin0 _ (by walk_at "sm") res
  · rintro σ' H1 ⟨p, y2, y3, rfl, hp, hpf, sm⟩
    walk_at "s"
    refine q p H1 sm hpf ?_
    rw [hp]
    congr 5
end
end Fl

-- after: fo2.tpl ro.tpl r2.tpl tabs.tpl
namespace Fl
open PySem PySem.Spec PyProof.Rows L2 RZ
def Frm.d (F : Frm) : PyData := .tuple [.tuple (F.rs.map Rule.d), .tuple (F.tbs.map tbD), .int F.C, .int F.owed]
theorem Frm.tupO (F : Frm) : tupOnly F.d = true := by
  show tupsOnly [.tuple (F.rs.map Rule.d), .tuple (F.tbs.map tbD), .int F.C, .int F.owed] = true
  simp [tupsOnly, tupOnly, rules_tupO, tbs_tupO]
theorem Frm.at {F : Frm} {H : Hp} {v : V} (h : At H F.d v) : ∃ (f L T : Addr) (vs ts : List V), v = .ref f ∧ H f = some (.tup [.ref L, .ref T, .int F.C, .int F.owed]) ∧ H L = some (.tup vs) ∧ AtAll H (F.rs.map Rule.d) vs ∧ H T = some (.tup ts) ∧ AtAll H (F.tbs.map tbD) ts := by
  obtain ⟨f, us, rfl, hf, u0, r0, rfl, ⟨L, vs, rfl, hL, ha⟩, u1, r1, rfl, ⟨T, ts, rfl, hT, hb⟩, u2, r2, rfl, h2, u3, r3, rfl, h3, h4⟩ := h
  cases (show u2 = .int F.C from h2)
  cases (show u3 = .int F.owed from h3)
  cases (show r3 = [] from h4)
  exact ⟨f, L, T, vs, ts, rfl, hf, hL, ha, hT, hb⟩
section
variable {P : Program} {w : World} {K : PySem.W.Frag} {mg : Str → Option Value} {base : Heap}
abbrev s_form_of : Stmt := topS 36
theorem sc_form_of : FnScope ["lines", "tables", "choices", "owed", "many", "line", "table"] ["lines", "tables", "choices", "owed"] (defScope s_form_of) := ⟨rfl, rfl, rfl, by decide +kernel, rfl, by decide +kernel, by decide +kernel⟩
def sp_form_of : Sp4 := fun a b c e H Q _ => ∃ (F : Frm) (L Tb : Addr) (vs ts : List V), F.Ok 40 ∧ a = .ref L ∧ H L = some (.lst vs) ∧ AtAll H (F.rs.map Rule.d) vs ∧ b = .ref Tb ∧ H Tb = some (.lst ts) ∧ AtAll H (F.tbs.map tbD) ts ∧ c = .int F.C ∧ e = .int F.owed ∧
  ∀ v H', Same H H' → At H' F.d v → Q v H'
theorem ok_form_of (M : Mg mg) (c_MOST_LINES : ∃ t, mg "MOST_LINES" = some (.int 40 t)) (c_MOST_TABLES : ∃ t, mg "MOST_TABLES" = some (.int 5 t)) (c_MOST_CHOICES : ∃ t, mg "MOST_CHOICES" = some (.int 8 t))
    (G_is_table : Has P w K mg base "is_table" ["thing"] 4 (sp1 sp_is_table)) (G_is_whole : Has P w K mg base "is_whole" ["thing", "least", "most"] 1 (sp3 sp_is_whole)) (G_is_rule : Has P w K mg base "is_rule" ["thing", "lines", "tables", "choices"] 4 (sp4 sp_is_rule)) (G_ring_of : Has P w K mg base "ring_of" ["lines"] 4 (sp1 sp_ring_of))
    (D : DefAt K mg "form_of" s_form_of ["lines", "tables", "choices", "owed"]) : Has P w K mg base "form_of" ["lines", "tables", "choices", "owed"] 5 (sp4 sp_form_of) := by
  refine .mk4 D sc_form_of fun fa cdv A outer s0 H a b c e Q E hr h => ⟨_, (pss_cons (ps_if (PW.pt (pw_or (pt_cmpR o_gt (pe_callB (k_len K rfl) (by rfl) M.len (by decide +kernel) (pa_cons (pv 1) pa_nil)) (pe_gi (by rfl) c_MOST_TABLES) (nomark _)) (pw_or1 (pt_not (pt_val (pe_callB (k_all K rfl rfl) (by rfl) M.all (by decide +kernel) (pa_cons (pe_lc (own := [("table", 6)]) (g := gName 6) (by rfl) sc_form_of.nd (k_pi K rfl (pv 1)) (blkOk_by (N := ["lines", "tables", "choices", "owed", "many", "line", "table"]) (sc := (defScope s_form_of)) (own := [("table", 6)]) (by decide +kernel)) (fun _ _ _ _ _ => (pg_name (i := 6) sc_form_of.nd rfl (by first | exact Or.inl rfl | exact Or.inr rfl))) (fun _ _ _ _ _ => pts_nil) (fun _ _ _ _ _ => (pe_own G_is_table (hr.mono (by first | decide | omega)) (by rfl) passL (pa_cons (pv 6) pa_nil)))) pa_nil))))))) (pss_one ps_no) pss_nil)
    (pss_cons (ps_set (i := 4) sc_form_of.nd rfl (by first | exact Or.inl rfl | exact Or.inr rfl) (pe_callB (k_len K rfl) (by rfl) M.len (by decide +kernel) (pa_cons (pv 0) pa_nil)))
    (pss_cons (ps_if (PW.pt (pw_or (pt_cmpR o_lt (pv 4) pe_int (nomark _)) (pw_or (pt_cmpR o_gt (pv 4) (pe_gi (by rfl) c_MOST_LINES) (nomark _)) (pw_or (pt_not (pt_val (pe_own G_is_whole (hr.mono (by first | decide | omega)) (by rfl) p_body (pa_cons (pv 2) (pa_cons pe_int (pa_cons (pe_gi (by rfl) c_MOST_CHOICES) pa_nil)))))) (pw_or1 (pt_not (pt_val (pe_own G_is_whole (hr.mono (by first | decide | omega)) (by rfl) p_body (pa_cons (pv 3) (pa_cons pe_int (pa_cons (pe_op o_sub (pv 4) pe_int) pa_nil))))))))))) (pss_one ps_no) pss_nil)
    (pss_cons (ps_for own_p (by rfl) (k_pi K rfl (pv 0)) (pg_name (i := 5) sc_form_of.nd rfl (by first | exact Or.inl rfl | exact Or.inr rfl)) (pss_one (ps_if (pt_not (pt_val (pe_own G_is_rule (hr.mono (by first | decide | omega)) (by rfl) p_body (pa_cons (pv 5) (pa_cons (pv 4) (pa_cons (pe_callB (k_len K rfl) (by rfl) M.len (by decide +kernel) (pa_cons (pv 1) pa_nil)) (pa_cons (pv 2) pa_nil))))))) (pss_one ps_no) pss_nil)))
    (pss_cons (ps_if (pt_cmpR (k_neE K rfl hr) (pe_own G_ring_of (hr.mono (by first | decide | omega)) (by rfl) p_body (pa_cons (pv 0) pa_nil)) (pe_lst pa_nil) (nomark _)) (pss_one ps_no) pss_nil)
    (pss_one (ps_ret (pe_tup (pa_cons (pe_callTy (k_tuple K rfl) (by rfl) M.tuple (by decide +kernel) (pa_cons (pv 0) pa_nil)) (pa_cons (pe_callTy (k_tuple K rfl) (by rfl) M.tuple (by decide +kernel) (pa_cons (pv 1) pa_nil)) (pa_cons (pv 2) (pa_cons (pv 3) pa_nil)))))))))))), ?_⟩
  obtain ⟨F, L, Tb, vs, ts, ok, rfl, hL, hvs, rfl, hT, hts, rfl, rfl, q⟩ := h
  have lvs := hvs.length
  have lts := hts.length
  rw [List.length_map] at lvs lts
  have n1 := ok.n1
  have n2 := ok.n2
  have t5 := ok.t5
  have c8 := ok.c8
  have hw := ok.ow
  have hLn := ok.lns (by decide)
  refine Fl.go_start (σ0 := [some _, some _, some _, some _, none, none, none]) rfl ?_
  walk_at "s"
  refine if_df (by omega) ?_
  walk_at "s"
  refine lc_seqL (List.replicate ts.length (.bl true)) hT (by simp) (by simp; omega) (fun _ => rfl) (fun i x y H' ex ey sm R hR => ?_) (fun D1 H1 hD1 sm1 eD1 => ?_)
  · obtain ⟨d0, ed, hd⟩ := hts.ix ex
    obtain ⟨t, et, rfl⟩ : ∃ t, F.tbs[i]? = some t ∧ d0 = tbD t := by
      rw [List.getElem?_map] at ed
      cases e : F.tbs[i]? with
      | none => rw [e] at ed; cases ed
      | some t => rw [e] at ed; exact ⟨t, rfl, (Option.some.inj ed).symm⟩
    have il := (List.getElem?_eq_some_iff.mp ex).1
    have : y = .bl true := by
      rw [List.getElem?_replicate] at ey
      rw [if_pos il] at ey
      exact (Option.some.inj ey).symm
    subst this
    have e := (ok.tb t (List.mem_of_getElem? et)).table
    have e : isTable (tbD t) = true := e
    have hd' := hd.le (Same.le sm)
    walk_at "s"
    rename_i H2 sm2
    rw [e]
    exact hR _ sm2
  have ebl : List.replicate ts.length (V.bl true) = (List.replicate ts.length true).map V.bl := by rw [List.map_replicate]
  rw [ebl] at eD1
  walk_at "s"
  rw [show (List.replicate ts.length true).all id = true by simp]
  have hL1 := sm1 _ _ hL
  have hT1 := sm1 _ _ hT
  walk_at "s"
  refine if_df (by omega) ?_
  walk_at "s"
  refine if_df (by omega) ?_
  walk_at "s"
  rw [show isWhole (.int F.C) 0 8 = true from isWhole_of (by omega) (by omega)]
  walk_at "s"
  rw [show isWhole (.int F.owed) 0 ((vs.length : Int) - 1) = true from isWhole_of (by omega) (by omega)]
  walk_at "s"
  refine for_lst (fun i σ' H' => ∃ y5 : Option V, σ' = [some (.ref L), some (.ref Tb), some (.int F.C), some (.int F.owed), some (.int vs.length), y5, none] ∧ Same H1 H') hL1 ⟨none, rfl, .refl _⟩ (fun i σ' H' _ ⟨_, _, e⟩ => e _ _ hL1) ?_ ?_
  · rintro i x σ' H2 ex ⟨y5, rfl, sm2⟩
    obtain ⟨d0, ed, hd⟩ := hvs.ix ex
    obtain ⟨r, er, rfl⟩ : ∃ r, F.rs[i]? = some r ∧ d0 = r.d := by
      rw [List.getElem?_map] at ed
      cases e : F.rs[i]? with
      | none => rw [e] at ed; cases ed
      | some t => rw [e] at ed; exact ⟨t, rfl, (Option.some.inj ed).symm⟩
    have gr := ok.goodR r (List.mem_of_getElem? er)
    have e : isR (vs.length : Int) (ts.length : Int) F.C 8 r.d = true := by
      rw [lvs, lts]
      exact Rule.isR gr.fine gr.ok
    have hT2 := sm2 _ _ hT1
    walk_at "s"
    refine ⟨r.d, vs.length, ts.length, F.C, hd.le (Same.le (L2.Same.trans sm1 sm2)), ⟨gr.okD, Nat.le_trans gr.sz (by decide)⟩, rfl, rfl, rfl, fun H3 sm3 => ?_⟩
    rw [e]
    walk_at "s"
    exact ⟨_, rfl, L2.Same.trans sm2 sm3⟩
  · rintro σ' H2 ⟨y5, rfl, sm2⟩
    have sm12 := L2.Same.trans sm1 sm2
    have hL2 := sm12 _ _ hL
    walk_at "s"
    refine ⟨L, vs, F.rs, F.g, F.rs.length, rfl, hL2, hvs.le (Same.le sm12), hLn, fun R H3 sm3 hR hR3 => ?_⟩
    rw [ok.acy.ro] at hR3
    have sm13 := L2.Same.trans sm12 sm3
    have hL3 := sm13 _ _ hL
    have hT3 := sm13 _ _ hT
    walk_at "s"
    rename_i pe hpe
    refine ne_eI (ns := []) (by walk_at "hp") (by walk_at "hp") ?_
    walk_at "s"
    rename_i a4 H4 sm4 e4 a5 H5 sm5 e5 p6 hp6
    have e45 := sm5 _ _ e4
    have sm35 : Same H3 H5 := by walk_at "sm"
    have sm05 := L2.Same.trans sm13 sm35
    exact q _ _ (Same.new sm05 hp6) (at4 upd_same (at_tup (by walk_at "hp") ((hvs.le (Same.le sm05)).le (by walk_at "le"))) (at_tup (by walk_at "hp") ((hts.le (Same.le sm05)).le (by walk_at "le"))) rfl rfl)
end
end Fl

-- after: fo3.tpl
namespace Fl
open PySem PySem.Spec PyProof.Rows L2 RZ
/-! ### the order of a form -/
def ordT (adj : Int → List Int) (found : List Int) (k : Int) : Bool := decide (k ∉ found) && (adj k).all fun y => decide (y ∈ found)
def ordNext (adj : Int → List Int) (n : Nat) (found : List Int) : Option Int := (rangeI n).find? (ordT adj found)
def ordN (adj : Int → List Int) (n : Nat) : Nat → List Int
  | 0 => []
  | i + 1 => match ordNext adj n (ordN adj n i) with
    | some k => ordN adj n i ++ [k]
    | none => ordN adj n i
theorem min_rk {rk : Int → Nat} : ∀ {xs : List Int}, xs ≠ [] → ∃ m ∈ xs, ∀ x ∈ xs, rk m ≤ rk x
  | [], h => absurd rfl h
  | [a], _ => ⟨a, by simp, by simp⟩
  | a :: b :: r, _ => by
    obtain ⟨m, hm, h⟩ := min_rk (rk := rk) (xs := b :: r) (by simp)
    by_cases c : rk a ≤ rk m
    · refine ⟨a, by simp, fun x hx => ?_⟩
      rcases List.mem_cons.mp hx with e | e
      · rw [e]; exact Nat.le_refl _
      · exact Nat.le_trans c (h x e)
    · refine ⟨m, List.mem_cons_of_mem _ hm, fun x hx => ?_⟩
      rcases List.mem_cons.mp hx with e | e
      · rw [e]; omega
      · exact h x e
theorem rangeI_succ (n : Nat) : rangeI (n + 1) = rangeI n ++ [(n : Int)] := by
  unfold rangeI
  rw [List.range_succ, List.map_append]
  rfl
theorem find_range {p : Int → Bool} {j : Nat} (hp : p j = true) (no : ∀ i : Nat, i < j → p i = false) : ∀ {n : Nat}, j < n → (rangeI n).find? p = some (j : Int)
  | 0, h => by omega
  | n + 1, h => by
    rw [rangeI_succ, List.find?_append]
    rcases Nat.lt_or_eq_of_le (show j ≤ n by omega) with c | c
    · rw [find_range hp no c]
      rfl
    · subst c
      have e0 : (rangeI j).find? p = none := by
        rw [List.find?_eq_none]
        intro x hx
        obtain ⟨i, hi, rfl⟩ := List.mem_map.mp hx
        rw [no i (List.mem_range.mp hi)]
        simp
      rw [e0, List.find?_cons_of_pos hp]
      rfl
structure OrdOk (adj : Int → List Int) (n i : Nat) (f : List Int) : Prop where
  len : f.length = i
  nd : f.Nodup
  rng : ∀ k ∈ f, 0 ≤ k ∧ k < n
  ord : ∀ j k, f[j]? = some k → ∀ y ∈ adj k, y ∈ f.take j
theorem OrdOk.next {adj : Int → List Int} {n i : Nat} {f : List Int} (ha : Adj adj n) (hr : ∃ rk : Int → Nat, ∀ a y, y ∈ adj a → rk y < rk a) (h : OrdOk adj n i f) (hi : i < n) : ∃ k, ordNext adj n f = some k := by
  obtain ⟨rk, hk⟩ := hr
  have ne : ((rangeI n).filter fun k => decide (k ∉ f)) ≠ [] := by
    intro e
    have sub : ∀ x ∈ rangeI n, x ∈ f := fun x hx => by
      refine Classical.byContradiction fun c => ?_
      have : x ∈ (rangeI n).filter fun k => decide (k ∉ f) := List.mem_filter.mpr ⟨hx, by simpa using c⟩
      rw [e] at this
      cases this
    have := nodup_le (rangeI_nodup n) sub
    rw [rangeI_len, h.len] at this
    omega
  obtain ⟨m, hm, hmin⟩ := min_rk (rk := rk) ne
  obtain ⟨hm1, hm2⟩ := List.mem_filter.mp hm
  have t : ordT adj f m = true := by
    unfold ordT
    rw [Bool.and_eq_true, List.all_eq_true]
    refine ⟨hm2, fun y hy => ?_⟩
    rw [decide_eq_true_eq]
    refine Classical.byContradiction fun c => ?_
    have h1 := hmin y (List.mem_filter.mpr ⟨mem_rangeI.mpr (ha.rng _ _ hy), by simpa using c⟩)
    have := hk _ _ hy
    omega
  cases e : ordNext adj n f with
  | some k => exact ⟨k, rfl⟩
  | none =>
    unfold ordNext at e
    rw [List.find?_eq_none] at e
    exact absurd t (e m hm1)
theorem OrdOk.snoc {adj : Int → List Int} {n i : Nat} {f : List Int} {k : Int} (h : OrdOk adj n i f) (e : ordNext adj n f = some k) : OrdOk adj n (i + 1) (f ++ [k]) := by
  unfold ordNext at e
  have hm := List.mem_of_find?_eq_some e
  have ht := List.find?_some e
  unfold ordT at ht
  rw [Bool.and_eq_true, decide_eq_true_eq, List.all_eq_true] at ht
  refine ⟨by rw [List.length_append, h.len]; rfl, List.nodup_append.mpr ⟨h.nd, by simp, fun a ha b hb ab => ?_⟩, fun x hx => ?_, fun j x ej y hy => ?_⟩
  · rw [List.mem_singleton.mp hb] at ab
    exact ht.1 (ab ▸ ha)
  · rcases List.mem_append.mp hx with z | z
    · exact h.rng x z
    · rw [List.mem_singleton.mp z]
      exact mem_rangeI.mp hm
  · have hl := h.len
    rcases Nat.lt_or_ge j f.length with c | c
    · rw [List.getElem?_append_left c] at ej
      rw [List.take_append_of_le_length (by omega)]
      exact h.ord j x ej y hy
    · rw [List.getElem?_append_right c] at ej
      have c2 : j - f.length = 0 := by
        have := (List.getElem?_eq_some_iff.mp ej).1
        simp at this
        omega
      rw [c2] at ej
      have ex : k = x := by simpa using ej
      subst ex
      rw [show j = f.length by omega, List.take_left']
      · exact of_decide_eq_true (ht.2 y hy)
      · rfl
theorem ordN_ok {adj : Int → List Int} {n : Nat} (ha : Adj adj n) (hr : ∃ rk : Int → Nat, ∀ a y, y ∈ adj a → rk y < rk a) : ∀ i, i ≤ n → OrdOk adj n i (ordN adj n i)
  | 0, _ => ⟨rfl, List.nodup_nil, by simp [ordN], by simp [ordN]⟩
  | i + 1, hi => by
    have ih := ordN_ok ha hr i (by omega)
    obtain ⟨k, e⟩ := ih.next ha hr (by omega)
    rw [ordN, e]
    exact ih.snoc e
/-- its lines -/
def Frm.adj (F : Frm) : Int → List Int := adjR F.rs.length F.rs
def Frm.ord (F : Frm) : List Int := ordN F.adj F.rs.length F.rs.length
theorem Frm.Ok.adj {F : Frm} {m : Nat} (_ : F.Ok m) : Adj F.adj F.rs.length := ⟨fun a => (adjR_adj a).1, fun a => (adjR_adj a).2⟩
theorem Frm.Ok.ord {F : Frm} {m : Nat} (h : F.Ok m) : OrdOk F.adj F.rs.length F.rs.length F.ord := ordN_ok h.adj (h.acy.adj) _ (Nat.le_refl _)
theorem OrdOk.perm {adj : Int → List Int} {n : Nat} {f : List Int} (h : OrdOk adj n n f) : ∀ k, k ∈ f ↔ 0 ≤ k ∧ k < n := fun k => by
  refine ⟨h.rng k, fun hk => Classical.byContradiction fun c => ?_⟩
  have := range_len (n := n) (xs := k :: f) (List.nodup_cons.mpr ⟨c, h.nd⟩) fun x hx => by
    rcases List.mem_cons.mp hx with rfl | hx
    · exact hk
    · exact h.rng x hx
  rw [List.length_cons, h.len] at this
  omega
section
variable {P : Program} {w : World} {K : PySem.W.Frag} {mg : Str → Option Value} {base : Heap}
abbrev s_order_of : Stmt := topS 39
theorem sc_order_of : FnScope ["form", "found", "line", "one"] ["form"] (defScope s_order_of) := ⟨rfl, rfl, rfl, by decide +kernel, rfl, by decide +kernel, by decide +kernel⟩
def sp_order_of : Sp1 := fun a H Q _ => ∃ F : Frm, F.Ok 40 ∧ At H F.d a ∧ ∀ p H', Same H H' → H p = none → H' p = some (.lst (F.ord.map V.int)) → Q (.ref p) H'
theorem ok_order_of (M : Mg mg) (G_named : Has P w K mg base "named" ["rule", "word"] 2 (sp2 (sp_law_named 8))) (D : DefAt K mg "order_of" s_order_of ["form"]) : Has P w K mg base "order_of" ["form"] 3 (sp1 sp_order_of) := by
  refine .mk1 D sc_order_of fun fa cdv A outer s0 H a Q E hr h => ⟨_, (pss_cons (ps_set (i := 1) sc_order_of.nd rfl (by first | exact Or.inl rfl | exact Or.inr rfl) (pe_lst pa_nil))
    (pss_cons (ps_while own_p (pt_cmpR o_lt (pe_callB (k_len K rfl) (by rfl) M.len (by decide +kernel) (pa_cons (pv 1) pa_nil)) (pe_callB (k_len K rfl) (by rfl) M.len (by decide +kernel) (pa_cons (pe_ix (k_ix K rfl) (pv 0) pe_int (fun _ _ => rfl)) pa_nil)) (nomark _)) (pss_one (ps_for own_p (by rfl) (pi_range1 (by rfl) M.range (pa_cons (pe_callB (k_len K rfl) (by rfl) M.len (by decide +kernel) (pa_cons (pe_ix (k_ix K rfl) (pv 0) pe_int (fun _ _ => rfl)) pa_nil)) pa_nil)) (pg_name (i := 2) sc_order_of.nd rfl (by first | exact Or.inl rfl | exact Or.inr rfl)) (pss_one (ps_if (PW.pt (pw_and (pt_cmpR (k_notin K rfl hr) (pv 2) (pv 1) (by rfl)) (pw_and1 (pt_val (pe_callB (k_all K rfl rfl) (by rfl) M.all (by decide +kernel) (pa_cons (pe_lc (own := [("one", 3)]) (g := gName 3) (by rfl) sc_order_of.nd (k_pi K rfl (pe_own G_named (hr.mono (by first | decide | omega)) (by rfl) p_body (pa_cons (pe_ix (k_ix K rfl) (pe_ix (k_ix K rfl) (pv 0) pe_int (fun _ _ => rfl)) (pv 2) (fun _ _ => rfl)) (pa_cons pe_str pa_nil)))) (blkOk_by (N := ["form", "found", "line", "one"]) (sc := (defScope s_order_of)) (own := [("one", 3)]) (by decide +kernel)) (fun _ _ _ _ _ => (pg_name (i := 3) sc_order_of.nd rfl (by first | exact Or.inl rfl | exact Or.inr rfl))) (fun _ _ _ _ _ => pts_nil) (fun _ _ _ _ _ => (pe_cmpR (k_in K rfl hr) (pv 3) (pv 1) (by rfl)))) pa_nil)))))) (pss_cons (ps_expr (k_bm K rfl PySem.F.plainAttrs_list PySem.F.slot_list_append PySem.F.type_list_append mt_append (pv 1) (pa_cons (pv 2) pa_nil)))
    (pss_one ps_break)) pss_nil)))))
    (pss_one (ps_ret (pv 1))))), ?_⟩
  obtain ⟨F, ok, hat, q⟩ := h
  obtain ⟨f, L, T, vs, ts, rfl, hf, hL, hvs, hT, hts⟩ := Frm.at hat
  have lvs := hvs.length
  rw [List.length_map] at lvs
  have n1 := ok.n1
  have n2 := ok.n2
  have hLn := ok.lns (by decide)
  have hadj := ok.adj
  refine Fl.go_start (σ0 := [some _, none, none, none]) rfl ?_
  walk_at "s"
  rename_i p0 hp0
  refine while_go (fun m σ' H' => ∃ (i : Nat) (y2 : Option V), σ' = [some (.ref f), some (.ref p0), y2, none] ∧ m = F.rs.length - i ∧ i ≤ F.rs.length ∧ H' p0 = some (.lst ((ordN F.adj F.rs.length i).map V.int)) ∧ Same H H') F.rs.length
    ⟨0, none, rfl, by omega, by omega, upd_same, by walk_at "sm"⟩ ?_
  rintro m σ' H1 ⟨i, y2, rfl, rfl, hi, hp1, sm⟩
  have oi := ordN_ok hadj ok.acy.adj i hi
  have li := oi.len
  have hf1 := sm _ _ hf
  have hL1 := sm _ _ hL
  walk_at "s"
  rw [List.length_map, li, lvs]
  refine if_d (fun c => ?_) (fun c => ?_)
  · refine while_turn ?_
    obtain ⟨k0, ek⟩ := oi.next hadj ok.acy.adj (by omega)
    walk_at "s"
    refine for_rng (fun j σ' H' => ∃ y2 : Option V, σ' = [some (.ref f), some (.ref p0), y2, none] ∧ H' p0 = some (.lst ((ordN F.adj F.rs.length i).map V.int)) ∧ Same H H' ∧ ∀ k : Nat, k < j → ordT F.adj (ordN F.adj F.rs.length i) k = false) ⟨_, rfl, hp1, sm, fun k hk => by omega⟩ ?_ ?_
    · rintro j σ' H2 hj ⟨y2, rfl, hp2, sm2, no⟩
      rw [Int.zero_add]
      have hf2 := sm2 _ _ hf
      have hL2 := sm2 _ _ hL
      have jl : j < F.rs.length := by omega
      obtain ⟨r, er⟩ : ∃ r, F.rs[j]? = some r := ⟨F.rs[j], List.getElem?_eq_getElem jl⟩
      obtain ⟨v0, ev0, hv0⟩ := hvs.get (i := j) (d := r.d) (by rw [List.getElem?_map, er]; rfl)
      have eadj : F.adj j = nameI "line" F.rs.length r := adjR_at er
      walk_at "s"
      refine notin_i hp2 ?_
      walk_at "s"
      have skip : ∀ H3, Same H2 H3 → ordT F.adj (ordN F.adj F.rs.length i) j = false → ∃ y2' : Option V, [some (.ref f), some (.ref p0), some (.int (j : Int)), none] = [some (V.ref f), some (.ref p0), y2', none] ∧ H3 p0 = some (.lst ((ordN F.adj F.rs.length i).map V.int)) ∧ Same H H3 ∧ ∀ k : Nat, k < j + 1 → ordT F.adj (ordN F.adj F.rs.length i) k = false :=
        fun H3 sm3 e => ⟨_, rfl, sm3 _ _ hp2, L2.Same.trans sm2 sm3, fun k hk => by
          rcases Nat.lt_or_eq_of_le (show k ≤ j by omega) with z | z
          · exact no k z
          · rw [z]; exact e⟩
      by_cases c1 : (j : Int) ∈ ordN F.adj F.rs.length i
      · rw [decide_eq_true c1]
        walk_at "s"
        exact skip _ (.refl _) (by unfold ordT; simp [c1])
      rw [decide_eq_false c1]
      walk_at "s"
      refine ex_v (atI_nat ev0) ?_
      walk_at "s"
      refine named_use (ok.goodR r (List.mem_of_getElem? er)) (hv0.le (Same.le sm2)) (.inl rfl) (n := F.rs.length) (by rw [wordN, if_neg (by decide +kernel)]; rfl) fun nl H4 sm4 hnl enl => ?_
      rw [← eadj] at enl
      have lns : (F.adj j).length ≤ 40 := Nat.le_trans (range_len (pw_nodup (hadj.srt _)) (hadj.rng _)) n2
      have hp4 := sm4 _ _ hp2
      walk_at "s"
      refine lc_seqL (((F.adj j).map fun o => decide (o ∈ ordN F.adj F.rs.length i)).map V.bl) enl (by simp) (by simp; omega) (fun _ => rfl) (fun i2 x y H' ex ey sm5 R' hR' => ?_) (fun D1 H5 hD1 sm5 eD1 => ?_)
      · obtain ⟨o, eo, rfl⟩ : ∃ o, (F.adj j)[i2]? = some o ∧ x = .int o := by
          rw [List.getElem?_map] at ex
          cases e : (F.adj j)[i2]? with
          | none => rw [e] at ex; cases ex
          | some o => rw [e] at ex; exact ⟨o, rfl, (Option.some.inj ex).symm⟩
        have e : y = .bl (decide (o ∈ ordN F.adj F.rs.length i)) := by
          rw [List.getElem?_map, List.getElem?_map, eo] at ey
          exact (Option.some.inj ey).symm
        subst e
        walk_at "s"
        refine in_i (sm5 _ _ hp4) ?_
        exact hR' _ (.refl _)
      walk_at "s"
      have et : ((F.adj j).map fun o => decide (o ∈ ordN F.adj F.rs.length i)).all id = ordT F.adj (ordN F.adj F.rs.length i) j := by
        unfold ordT
        rw [decide_eq_true c1, Bool.true_and, List.all_map]
        rfl
      rw [et]
      refine if_b (fun c2 => ?_) (fun c2 => ?_)
      · have e1 : ordNext F.adj F.rs.length (ordN F.adj F.rs.length i) = some (j : Int) := find_range c2 no jl
        have e2 : ordN F.adj F.rs.length (i + 1) = ordN F.adj F.rs.length i ++ [(j : Int)] := by rw [ordN, e1]
        have hp5 := sm5 _ _ hp4
        walk_at "s"
        exact ⟨F.rs.length - (i + 1), by omega, i + 1, _, rfl, rfl, by omega, by rw [upd_same, e2]; simp, Same.mut (L2.Same.trans sm2 (L2.Same.trans sm4 sm5)) hp0⟩
      · walk_at "s"
        exact skip _ (L2.Same.trans sm4 sm5) c2
    · rintro σ' H2 ⟨y2, rfl, hp2, sm2, no⟩
      exfalso
      unfold ordNext at ek
      have hm := List.mem_of_find?_eq_some ek
      have ht := List.find?_some ek
      have kr := mem_rangeI.mp hm
      have := no k0.toNat (by omega)
      rw [Int.toNat_of_nonneg kr.1, ht] at this
      cases this
  · walk_at "s"
    have e : i = F.rs.length := by omega
    subst e
    exact q p0 H1 sm hp0 hp1
end
end Fl

-- after: fo4.tpl
namespace Fl
open PySem PySem.Spec PyProof.Rows L2 RZ
/-! ### what a rule comes to -/
structure Sgt where
  lines : List Int
  papers : Str → Int
  earl : List Int
  tbs : List (List (Int × Int × Int))
  tk : List Bool
def joinV (w : Str) (x y : Int) : Int := if w = "add" then x + y else if w = "take" then x - y else if w = "least" then (if y < x then y else x) else if y > x then y else x
def Sgt.ear (S : Sgt) (k : Int) : Int := if S.earl = [] then 0 else S.earl.getD k.toNat 0
def Rule.val (S : Sgt) : Rule → Int
  | .num n => n
  | .paper w => S.papers w
  | .line k => S.lines.getD k.toNat 0
  | .earl k => S.ear k
  | .two w a b => joinV w (a.val S) (b.val S)
  | .part a p => a.val S * p / 100
  | .table k a => atTab (S.tbs.getD k.toNat []) (a.val S)
  | .wher a b c => if 0 < a.val S then b.val S else c.val S
  | .choo k a b => if S.tk.getD k.toNat false = true then b.val S else a.val S
theorem names_paper (w : Str) : ∀ r : Rule, (V.str w ∈ r.names "paper" → True) := fun _ _ => trivial
theorem Rule.val_congr {S S' : Sgt} (ht : S.tbs = S'.tbs) : ∀ {r : Rule}, (∀ k ∈ r.lines, S.lines.getD k.toNat 0 = S'.lines.getD k.toNat 0) → (∀ w, V.str w ∈ r.names "paper" → S.papers w = S'.papers w) →
    (∀ k, V.int k ∈ r.names "earlier" → S.ear k = S'.ear k) → (∀ k, V.int k ∈ r.names "choose" → S.tk.getD k.toNat false = S'.tk.getD k.toNat false) → r.val S = r.val S'
  | .num _, _, _, _, _ => rfl
  | .paper w, _, hp, _, _ => hp w (by simp [Rule.names])
  | .line k, hl, _, _, _ => hl k (by simp [Rule.lines])
  | .earl k, _, _, he, _ => he k (by simp [Rule.names])
  | .two w a b, hl, hp, he, hc => by
    simp only [Rule.val]
    rw [val_congr ht (r := a) (fun k h => hl k (List.mem_append_left _ h)) (fun w h => hp w (List.mem_append_left _ h)) (fun k h => he k (List.mem_append_left _ h)) (fun k h => hc k (List.mem_append_left _ h)),
      val_congr ht (r := b) (fun k h => hl k (List.mem_append_right _ h)) (fun w h => hp w (List.mem_append_right _ h)) (fun k h => he k (List.mem_append_right _ h)) (fun k h => hc k (List.mem_append_right _ h))]
  | .part a p, hl, hp, he, hc => by
    simp only [Rule.val]
    rw [val_congr ht (r := a) hl hp he hc]
  | .table k a, hl, hp, he, hc => by
    simp only [Rule.val]
    rw [ht, val_congr ht (r := a) hl (fun w h => hp w (List.mem_append_right _ h)) (fun k h => he k (List.mem_append_right _ h)) (fun k h => hc k (List.mem_append_right _ h))]
  | .wher a b c, hl, hp, he, hc => by
    simp only [Rule.val]
    rw [val_congr ht (r := a) (fun k h => hl k (List.mem_append_left _ (List.mem_append_left _ h))) (fun w h => hp w (List.mem_append_left _ h)) (fun k h => he k (List.mem_append_left _ h)) (fun k h => hc k (List.mem_append_left _ h)),
      val_congr ht (r := b) (fun k h => hl k (List.mem_append_left _ (List.mem_append_right _ h))) (fun w h => hp w (List.mem_append_right _ (List.mem_append_left _ h))) (fun k h => he k (List.mem_append_right _ (List.mem_append_left _ h))) (fun k h => hc k (List.mem_append_right _ (List.mem_append_left _ h))),
      val_congr ht (r := c) (fun k h => hl k (List.mem_append_right _ h)) (fun w h => hp w (List.mem_append_right _ (List.mem_append_right _ h))) (fun k h => he k (List.mem_append_right _ (List.mem_append_right _ h))) (fun k h => hc k (List.mem_append_right _ (List.mem_append_right _ h)))]
  | .choo k a b, hl, hp, he, hc => by
    simp only [Rule.val]
    rw [hc k (List.mem_append_left _ (by simp)),
      val_congr ht (r := a) (fun k h => hl k (List.mem_append_left _ h)) (fun w h => hp w (List.mem_append_right _ (List.mem_append_left _ h))) (fun k h => he k (List.mem_append_right _ (List.mem_append_left _ h))) (fun k h => hc k (List.mem_append_right _ (List.mem_append_left _ h))),
      val_congr ht (r := b) (fun k h => hl k (List.mem_append_right _ h)) (fun w h => hp w (List.mem_append_right _ (List.mem_append_right _ h))) (fun k h => he k (List.mem_append_right _ (List.mem_append_right _ h))) (fun k h => hc k (List.mem_append_right _ (List.mem_append_right _ h)))]
/-! ### a year -/
def Frm.rule (F : Frm) (k : Int) : Rule := F.rs.getD k.toNat (.num 0)
def Frm.put (F : Frm) (S : Sgt) (ls : List Int) (k : Int) : List Int := ls.set k.toNat ((F.rule k).val { S with lines := ls })
def Frm.upto (F : Frm) (S : Sgt) (j : Nat) : List Int := (F.ord.take j).foldl (F.put S) (List.replicate F.rs.length 0)
/-- the lines of a year -/
def Frm.year (F : Frm) (S : Sgt) : List Int := F.upto S F.rs.length
theorem Frm.upto_succ {F : Frm} {S : Sgt} {j : Nat} {k : Int} (h : F.ord[j]? = some k) : F.upto S (j + 1) = F.put S (F.upto S j) k := by
  unfold Frm.upto
  rw [List.take_add_one, h, List.foldl_append]
  rfl
theorem Frm.upto_len {F : Frm} {S : Sgt} : ∀ j, (F.upto S j).length = F.rs.length := by
  intro j
  unfold Frm.upto
  have : ∀ (ks : List Int) (ls : List Int), (ks.foldl (F.put S) ls).length = ls.length := by
    intro ks
    induction ks with
    | nil => intro ls; rfl
    | cons k r ih =>
      intro ls
      rw [List.foldl_cons, ih]
      unfold Frm.put
      rw [List.length_set]
  rw [this, List.length_replicate]
theorem Frm.year_len {F : Frm} {S : Sgt} : (F.year S).length = F.rs.length := F.upto_len _
theorem getD_set_ne {ls : List Int} {i j : Nat} {x : Int} (h : i ≠ j) : (ls.set i x).getD j 0 = ls.getD j 0 := by
  rw [List.getD_eq_getElem?_getD, List.getD_eq_getElem?_getD, List.getElem?_set_ne h]
theorem getD_set_self {ls : List Int} {i : Nat} {x : Int} (h : i < ls.length) : (ls.set i x).getD i 0 = x := by
  rw [List.getD_eq_getElem?_getD, List.getElem?_set_self h]
  rfl
/-- what has been told stays -/
theorem Frm.upto_keep {F : Frm} {m : Nat} (ok : F.Ok m) {S : Sgt} {j : Nat} {k : Int} (hk : k ∈ F.ord.take j) : ∀ i, j ≤ i → (F.upto S i).getD k.toNat 0 = (F.upto S j).getD k.toNat 0 := by
  have o := ok.ord
  intro i hi
  induction hi with
  | refl => rfl
  | @step i hi ih =>
    have hi : j ≤ i := hi
    rcases Nat.lt_or_ge i F.ord.length with c | c
    · obtain ⟨x, ex⟩ : ∃ x, F.ord[i]? = some x := ⟨_, List.getElem?_eq_getElem c⟩
      rw [Frm.upto_succ ex]
      unfold Frm.put
      have h1 := o.rng k (List.mem_of_mem_take hk)
      have h2 := o.rng x (List.mem_of_getElem? ex)
      have ne : x ≠ k := fun e => by
        subst e
        have h3 := pos_take hk
        have h4 := pos_get o.nd ex
        omega
      have ne' : x.toNat ≠ k.toNat := by omega
      rw [getD_set_ne ne']
      exact ih
    · have e : F.upto S (i + 1) = F.upto S i := by
        unfold Frm.upto
        rw [List.take_of_length_le (show F.ord.length ≤ i + 1 by omega), List.take_of_length_le c]
      rw [e]
      exact ih
theorem Frm.adj_lines {F : Frm} {m : Nat} (ok : F.Ok m) {i : Nat} {r : Rule} (e : F.rs[i]? = some r) {k : Int} (hk : k ∈ r.lines) : k ∈ F.adj i := by
  unfold Frm.adj
  rw [adjR_at e]
  have g := ok.good r (List.mem_of_getElem? e)
  exact nameL_mem.mpr ⟨mem_rangeI.mp (Rule.ok_lines g k hk), hk⟩
/-- each line is what its rule comes to by the lines told -/
theorem Frm.year_fix {F : Frm} {m : Nat} (ok : F.Ok m) {S : Sgt} {i : Nat} {r : Rule} (e : F.rs[i]? = some r) : (F.year S).getD i 0 = r.val { S with lines := F.year S } := by
  have o := ok.ord
  have il := (List.getElem?_eq_some_iff.mp e).1
  have hm : (i : Int) ∈ F.ord := (o.perm i).mpr ⟨by omega, by omega⟩
  obtain ⟨j, hj, ej⟩ := List.getElem_of_mem hm
  have ej' : F.ord[j]? = some (i : Int) := by rw [List.getElem?_eq_getElem hj, ej]
  have hjn : j < F.rs.length := by rw [← o.len]; exact hj
  have e1 : (F.upto S (j + 1)).getD i 0 = r.val { S with lines := F.upto S j } := by
    rw [Frm.upto_succ ej']
    unfold Frm.put
    rw [Int.toNat_natCast, getD_set_self (by rw [Frm.upto_len]; exact il)]
    have : F.rule i = r := by
      unfold Frm.rule
      rw [Int.toNat_natCast, List.getD_eq_getElem?_getD, e]
      rfl
    rw [this]
  have mem : (i : Int) ∈ F.ord.take (j + 1) := by
    rw [List.take_add_one, ej']
    simp
  have e2 := Frm.upto_keep ok (S := S) mem F.rs.length (by omega)
  rw [Int.toNat_natCast] at e2
  unfold Frm.year
  rw [e2, e1]
  refine Rule.val_congr (S := { S with lines := F.upto S j }) (S' := { S with lines := F.upto S F.rs.length }) rfl (fun k hk => ?_) (fun _ _ => rfl) (fun _ _ => rfl) (fun _ _ => rfl)
  have h1 := Frm.adj_lines ok e hk
  have h2 := o.ord j i ej' k h1
  exact (Frm.upto_keep ok (S := S) h2 F.rs.length (by omega)).symm
end Fl

-- after: ext.tpl
namespace Fl
open PySem PySem.Spec PyProof.Rows L2 RZ
/-! ### dicts: steps -/
section
variable {σ : L2.St} {H : Hp} {nx bk ct : L2.St → Hp → Prop} {rt : VK} {Q : VK} {td ty tv tx : TE} {K : PySem.W.Frag}
instance : Step (tDGet td ty σ H Q) (td σ H fun x H1 => ty σ H1 fun y H2 => ∃ a, x = .ref a ∧ ∃ v, DGet H2 a y (some v) ∧ Q v H2) := ⟨fun h => by
  have e : (fun x H1 => ty σ H1 fun y H2 => ∃ a v, x = .ref a ∧ DGet H2 a y (some v) ∧ Q v H2) = fun (x : V) H1 => ty σ H1 fun y H2 => ∃ a, x = .ref a ∧ ∃ v, DGet H2 a y (some v) ∧ Q v H2 := by
    funext x H1
    congr 1
    funext y H2
    exact propext ⟨fun ⟨a, v, e, d, q⟩ => ⟨a, e, v, d, q⟩, fun ⟨a, e, v, d, q⟩ => ⟨a, v, e, d, q⟩⟩
  show td σ H _
  rw [e]
  exact h⟩
instance : Step (tDIn ty td σ H Q) (ty σ H fun y H1 => td σ H1 fun x H2 => ∃ a, x = .ref a ∧ ∃ o, DGet H2 a y o ∧ Q (.bl o.isSome) H2) := ⟨fun h => by
  have e : (fun y H1 => td σ H1 fun x H2 => ∃ a o, x = .ref a ∧ DGet H2 a y o ∧ Q (.bl o.isSome) H2) = fun (y : V) H1 => td σ H1 fun x H2 => ∃ a, x = .ref a ∧ ∃ o, DGet H2 a y o ∧ Q (.bl o.isSome) H2 := by
    funext y H1
    congr 1
    funext x H2
    exact propext ⟨fun ⟨a, v, e, d, q⟩ => ⟨a, e, v, d, q⟩, fun ⟨a, e, v, d, q⟩ => ⟨a, v, e, d, q⟩⟩
  show ty σ H _
  rw [e]
  exact h⟩
instance : Step (tDNotIn ty td σ H Q) (ty σ H fun y H1 => td σ H1 fun x H2 => ∃ a, x = .ref a ∧ ∃ o, DGet H2 a y o ∧ Q (.bl (!o.isSome)) H2) := ⟨fun h => by
  have e : (fun y H1 => td σ H1 fun x H2 => ∃ a o, x = .ref a ∧ DGet H2 a y o ∧ Q (.bl (!o.isSome)) H2) = fun (y : V) H1 => td σ H1 fun x H2 => ∃ a, x = .ref a ∧ ∃ o, DGet H2 a y o ∧ Q (.bl (!o.isSome)) H2 := by
    funext y H1
    congr 1
    funext x H2
    exact propext ⟨fun ⟨a, v, e, d, q⟩ => ⟨a, e, v, d, q⟩, fun ⟨a, e, v, d, q⟩ => ⟨a, v, e, d, q⟩⟩
  show ty σ H _
  rw [e]
  exact h⟩
instance : Step (sDPut td ty tv ⟨nx, rt, bk, ct⟩ σ H) (tv σ H fun v H1 => td σ H1 fun x H2 => ty σ H2 fun y H3 => ∃ a, x = .ref a ∧ ∃ H4, DPut H3 a y v H4 ∧ nx σ H4) := ⟨fun h => by
  have e : (fun v H1 => td σ H1 fun x H2 => ty σ H2 fun y H3 => ∃ a H4, x = .ref a ∧ DPut H3 a y v H4 ∧ nx σ H4) = fun (v : V) H1 => td σ H1 fun (x : V) H2 => ty σ H2 fun y H3 => ∃ a, x = .ref a ∧ ∃ H4, DPut H3 a y v H4 ∧ nx σ H4 := by
    funext v H1
    congr 1
    funext x H2
    congr 1
    funext y H3
    exact propext ⟨fun ⟨a, v, e, d, q⟩ => ⟨a, e, v, d, q⟩, fun ⟨a, e, v, d, q⟩ => ⟨a, v, e, d, q⟩⟩
  show tv σ H _
  rw [e]
  exact h⟩
instance : Step (tDGet2 td ty tx σ H Q) (td σ H fun x H1 => ∃ a, x = .ref a ∧ IsD H1 a ∧ ty σ H1 fun y H2 => tx σ H2 fun z H3 => ∃ o, DGet H3 a y o ∧ Q (o.getD z) H3) := ⟨fun h => h⟩
instance : Step (tDNewK σ H Q) (NewQ H fun p => Q (.ref p) (upd H p (.dK []))) := ⟨fun h => h⟩
theorem isD_of {a : Addr} {kvs : List (Key × V)} (h : H a = some (.dK kvs)) : IsD H a := .inl ⟨kvs, .inl h⟩
theorem dgetI {a : Addr} {kvs : List (Key × V)} {k : Int} {v : V} {R : V → Prop} (h : H a = some (.dK kvs)) (e : valV kvs (.inl k) = some v) (r : R v) : ∃ v, DGet H a (.int k) (some v) ∧ R v := ⟨v, e ▸ DGet.k (k := .inl k) h, r⟩
theorem dinI {a : Addr} {kvs : List (Key × V)} {k : Int} {R : Option V → Prop} (h : H a = some (.dK kvs)) (r : R (valV kvs (.inl k))) : ∃ o, DGet H a (.int k) o ∧ R o := ⟨_, DGet.k (k := .inl k) h, r⟩
theorem dputI {a : Addr} {kvs : List (Key × V)} {k : Int} {v : V} {R : Hp → Prop} (h : H a = some (.dK kvs)) (l : kvs.length < sizeLine) (r : R (upd H a (.dK (putK kvs (.inl k) v)))) : ∃ H', DPut H a (.int k) v H' ∧ R H' := ⟨_, DPut.k (k := .inl k) h l, r⟩
theorem dgetS {a : Addr} {kvs : List (Key × V)} {k : Str} {v : V} {R : V → Prop} (h : H a = some (.dK kvs)) (e : valV kvs (.inr k) = some v) (r : R v) : ∃ v, DGet H a (.str k) (some v) ∧ R v := ⟨v, e ▸ DGet.k (k := .inr k) h, r⟩
theorem dinS {a : Addr} {kvs : List (Key × V)} {k : Str} {R : Option V → Prop} (h : H a = some (.dK kvs)) (r : R (valV kvs (.inr k))) : ∃ o, DGet H a (.str k) o ∧ R o := ⟨_, DGet.k (k := .inr k) h, r⟩
theorem dputS {a : Addr} {kvs : List (Key × V)} {k : Str} {v : V} {R : Hp → Prop} (h : H a = some (.dK kvs)) (l : kvs.length < sizeLine) (r : R (upd H a (.dK (putK kvs (.inr k) v)))) : ∃ H', DPut H a (.str k) v H' ∧ R H' := ⟨_, DPut.k (k := .inr k) h l, r⟩
theorem putK_length {κ : Type} [DecidableEq κ] {kvs : List (κ × V)} {k : κ} {v : V} : (putK kvs k v).length ≤ kvs.length + 1 := by
  unfold putK
  split <;> simp
/-- range with a step down -/
instance {ta : TA} {R : It → Hp → Prop} : Step (iRng3 ta σ H R) (ta σ H fun vs H1 => ∃ (i j c : Int) (n : Nat), vs = [.int i, .int j, .int c] ∧ RgC i j c n ∧ R (Itc i c n) H1) := ⟨fun h => h⟩
theorem rng_down {i j : Int} {R : It → Hp → Prop} (h : -(2 ^ 62) ≤ i ∧ i < 2 ^ 62 ∧ -(2 ^ 62) ≤ j ∧ j < 2 ^ 62) (r : R (Itc i (-1) (i - j).toNat) H) : ∃ (i' j' c : Int) (n : Nat), [V.int i, V.int j, V.int (-1)] = [.int i', .int j', .int c] ∧ RgC i' j' c n ∧ R (Itc i' c n) H :=
  ⟨i, j, -1, _, rfl, RgC.neg h.1 h.2.1 h.2.2.1 h.2.2.2, r⟩
theorem for_rngC {g : TG} {tb : TS} {lo c : Int} {n : Nat} (Pv : Nat → L2.St → Hp → Prop) (h0 : Pv 0 σ H)
    (hs : ∀ (i : Nat) σ H, i < n → Pv i σ H → g (.int (lo + (i : Nat) * c)) σ H fun σ2 H2 => tb ⟨Pv (i + 1), rt, nx, Pv (i + 1)⟩ σ2 H2) (hd : ∀ σ H, Pv n σ H → nx σ H) : forG g tb ⟨nx, rt, bk, ct⟩ σ (Itc lo c n) H :=
  for_rangeC Pv h0 hs hd
theorem min_i {a : Addr} {ns : List Int} (h : H a = some (.lst (ns.map V.int))) (l : ns ≠ []) (q : ∀ m, m ∈ ns → (∀ y, y ∈ ns → m ≤ y) → Q (.int m) H) : rMin K [.ref a] H Q := ⟨a, ns, rfl, .of h, List.length_pos_iff.mpr l, q⟩
end
end Fl

-- after: va0.tpl dct.tpl
namespace Fl
open PySem PySem.Spec PyProof.Rows L2 RZ
/-! ### comes_to -/
/-- a list or a tuple of truths -/
def BoolsAt (H : Hp) (a : Addr) (bs : List Bool) : Prop := H a = some (.lst (bs.map V.bl)) ∨ H a = some (.tup (bs.map V.bl))
/-- papers by their words -/
def PapK (kvs : List (Key × V)) (f : Str → Int) : Prop := ∀ w, (valV kvs (.inr w)).getD (.int 0) = .int (f w)
structure SgtAt (H : Hp) (v : V) (F : Frm) (S : Sgt) : Prop where
  ex : ∃ (s l p e t k : Addr) (kvs : List (Key × V)) (ts : List V), v = .ref s ∧ H s = some (.tup [.ref l, .ref p, .ref e, .ref t, .ref k]) ∧ H l = some (.lst (S.lines.map V.int)) ∧ (H p = some (.dK kvs) ∧ PapK kvs S.papers) ∧
    H e = some (.lst (S.earl.map V.int)) ∧ (H t = some (.tup ts) ∧ AtAll H (S.tbs.map tbD) ts) ∧ BoolsAt H k S.tk
  tb : S.tbs = F.tbs
  ll : S.lines.length = F.rs.length
  le : S.earl = [] ∨ S.earl.length = F.rs.length
  lk : S.tk.length = F.C
theorem SgtAt.same {H H' : Hp} {v : V} {F : Frm} {S : Sgt} (h : SgtAt H v F S) (e : Same H H') : SgtAt H' v F S := by
  obtain ⟨s, l, p, e1, t, k, kvs, ts, h1, h2, h3, ⟨h4, h4'⟩, h5, ⟨h6, h6'⟩, h7⟩ := h.ex
  exact ⟨⟨s, l, p, e1, t, k, kvs, ts, h1, e _ _ h2, e _ _ h3, ⟨e _ _ h4, h4'⟩, e _ _ h5, ⟨e _ _ h6, h6'.le (Same.le e)⟩, h7.imp (e _ _) (e _ _)⟩, h.tb, h.ll, h.le, h.lk⟩
theorem bools_sq {K : PySem.W.Frag} {H : Hp} {a : Addr} {bs : List Bool} (h : BoolsAt H a bs) : IsSq K H a (bs.map V.bl) := by
  rcases h with h | h
  · exact sq_l h
  · exact sq_t h
theorem atI_getD {ls : List Int} {i : Int} (h0 : 0 ≤ i) (h1 : i < ls.length) : atI (ls.map V.int) i = some (.int (ls.getD i.toNat 0)) := by
  obtain ⟨n, rfl⟩ : ∃ n : Nat, i = n := ⟨i.toNat, by omega⟩
  have hl : n < ls.length := by omega
  rw [Int.toNat_natCast, List.getD_eq_getElem?_getD, List.getElem?_eq_getElem hl]
  exact atI_nat (by rw [List.getElem?_map, List.getElem?_eq_getElem hl]; rfl)
theorem atI_getB {ls : List Bool} {i : Int} (h0 : 0 ≤ i) (h1 : i < ls.length) : atI (ls.map V.bl) i = some (.bl (ls.getD i.toNat false)) := by
  obtain ⟨n, rfl⟩ : ∃ n : Nat, i = n := ⟨i.toNat, by omega⟩
  have hl : n < ls.length := by omega
  rw [Int.toNat_natCast, List.getD_eq_getElem?_getD, List.getElem?_eq_getElem hl]
  exact atI_nat (by rw [List.getElem?_map, List.getElem?_eq_getElem hl]; rfl)
theorem At.t2 {H : Hp} {w : Str} {a : PyData} {v : V} (h : At H (.tuple [.str w, a]) v) : ∃ x u, v = .ref x ∧ H x = some (.tup [.str w, u]) ∧ At H a u := by
  obtain ⟨x, us, rfl, hx, u0, r0, rfl, h0, u1, r1, rfl, h1, h2⟩ := h
  cases (show u0 = .str w from h0)
  cases (show r1 = [] from h2)
  exact ⟨x, u1, rfl, hx, h1⟩
theorem At.t3 {H : Hp} {w : Str} {a b : PyData} {v : V} (h : At H (.tuple [.str w, a, b]) v) : ∃ x u1 u2, v = .ref x ∧ H x = some (.tup [.str w, u1, u2]) ∧ At H a u1 ∧ At H b u2 := by
  obtain ⟨x, us, rfl, hx, u0, r0, rfl, h0, u1, r1, rfl, h1, u2, r2, rfl, h2, h3⟩ := h
  cases (show u0 = .str w from h0)
  cases (show r2 = [] from h3)
  exact ⟨x, u1, u2, rfl, hx, h1, h2⟩
theorem At.t4 {H : Hp} {w : Str} {a b c : PyData} {v : V} (h : At H (.tuple [.str w, a, b, c]) v) : ∃ x u1 u2 u3, v = .ref x ∧ H x = some (.tup [.str w, u1, u2, u3]) ∧ At H a u1 ∧ At H b u2 ∧ At H c u3 := by
  obtain ⟨x, us, rfl, hx, u0, r0, rfl, h0, u1, r1, rfl, h1, u2, r2, rfl, h2, u3, r3, rfl, h3, h4⟩ := h
  cases (show u0 = .str w from h0)
  cases (show r3 = [] from h4)
  exact ⟨x, u1, u2, u3, rfl, hx, h1, h2, h3⟩
section
variable {P : Program} {w : World} {K : PySem.W.Frag} {mg : Str → Option Value} {base : Heap}
abbrev s_joined : Stmt := topS 31
theorem sc_joined : FnScope ["kind", "one", "other"] ["kind", "one", "other"] (defScope s_joined) := ⟨rfl, rfl, rfl, by decide +kernel, rfl, by decide +kernel, by decide +kernel⟩
def sp_joined : Sp3 := fun a b c H Q _ => ∃ (w : Str) (x y : Int), a = .str w ∧ b = .int x ∧ c = .int y ∧ Q (.int (joinV w x y)) H
theorem ok_joined (M : Mg mg) (D : DefAt K mg "joined" s_joined ["kind", "one", "other"]) : Has P w K mg base "joined" ["kind", "one", "other"] 1 (sp3 sp_joined) := by
  refine .mk3 D sc_joined fun fa cdv A outer s0 H a b c Q E hr h => ⟨_, (pss_cons (ps_if (pt_cmpR (k_eq K rfl hr) (pv 0) pe_str (nomark _)) (pss_one (ps_ret (pe_op (k_add K rfl) (pv 1) (pv 2)))) pss_nil)
    (pss_cons (ps_if (pt_cmpR (k_eq K rfl hr) (pv 0) pe_str (nomark _)) (pss_one (ps_ret (pe_op o_sub (pv 1) (pv 2)))) pss_nil)
    (pss_cons (ps_if (pt_cmpR (k_eq K rfl hr) (pv 0) pe_str (nomark _)) (pss_one (ps_ret (pe_callB (c_min2 rfl) (by rfl) M.min (by decide +kernel) (pa_cons (pv 1) (pa_cons (pv 2) pa_nil))))) pss_nil)
    (pss_one (ps_ret (pe_callB (c_max2 rfl) (by rfl) M.max (by decide +kernel) (pa_cons (pv 1) (pa_cons (pv 2) pa_nil)))))))), ?_⟩
  obtain ⟨w, x, y, rfl, rfl, rfl, q⟩ := h
  unfold joinV at q
  refine Fl.go_start (σ0 := [some _, some _, some _]) rfl ?_
  walk_at "s"
  refine if_d (fun c => ?_) (fun c => ?_)
  · walk_at "s"
    rw [if_pos c] at q
    exact q
  rw [if_neg c] at q
  walk_at "s"
  refine if_d (fun c => ?_) (fun c => ?_)
  · walk_at "s"
    rw [if_pos c] at q
    exact q
  rw [if_neg c] at q
  walk_at "s"
  refine if_d (fun c => ?_) (fun c => ?_)
  · walk_at "s"
    rw [if_pos c] at q
    exact q
  rw [if_neg c] at q
  walk_at "s"
  exact q
instance {H : Hp} {Q : VK} {E : XK} {w : Str} {x y : Int} : Step (sp_joined (.str w) (.int x) (.int y) H Q E) (Q (.int (joinV w x y)) H) := ⟨fun q => ⟨w, x, y, rfl, rfl, rfl, q⟩⟩
abbrev s_comes_to : Stmt := topS 30
theorem sc_comes_to : FnScope ["rule", "sight", "kind", "one"] ["rule", "sight"] (defScope s_comes_to) := ⟨rfl, rfl, rfl, by decide +kernel, rfl, by decide +kernel, by decide +kernel⟩
def sp_comes (n : Nat) : Sp2 := fun a b H Q _ => ∃ (F : Frm) (S : Sgt) (r : Rule), F.Ok 40 ∧ At H r.d a ∧ r.ok F.g n ∧ SgtAt H b F S ∧ ∀ H', Same H H' → Q (.int (r.val S)) H'
theorem ok_comes_step {n : Nat} (M : Mg mg) (G_at_number : Has P w K mg base "at_number" ["table", "number"] 1 (sp2 sp_at_number)) (G_joined : Has P w K mg base "joined" ["kind", "one", "other"] 1 (sp3 sp_joined))
    (G_comes_to : Has P w K mg base "comes_to" ["rule", "sight"] (n + 1) (sp2 (sp_comes n))) (D : DefAt K mg "comes_to" s_comes_to ["rule", "sight"]) : Has P w K mg base "comes_to" ["rule", "sight"] (n + 1 + 1) (sp2 (sp_comes (n + 1))) := by
  refine .mk2 D sc_comes_to fun fa cdv A outer s0 H a b Q E hr h => ⟨_, (pss_cons (ps_set (i := 2) sc_comes_to.nd rfl (by first | exact Or.inl rfl | exact Or.inr rfl) (pe_ix (k_ix K rfl) (pv 0) pe_int (fun _ _ => rfl)))
    (pss_cons (ps_if (pt_cmpR (k_eq K rfl hr) (pv 2) pe_str (nomark _)) (pss_one (ps_ret (pe_ix (k_ix K rfl) (pv 0) pe_int (fun _ _ => rfl)))) pss_nil)
    (pss_cons (ps_if (pt_cmpR (k_eq K rfl hr) (pv 2) pe_str (nomark _)) (pss_one (ps_ret (pe_ix (k_ix K rfl) (pe_ix (k_ix K rfl) (pv 1) pe_int (fun _ _ => rfl)) (pe_ix (k_ix K rfl) (pv 0) pe_int (fun _ _ => rfl)) (fun _ _ => rfl)))) pss_nil)
    (pss_cons (ps_if (pt_cmpR (k_eq K rfl hr) (pv 2) pe_str (nomark _)) (pss_one (ps_ret (pe_dget2 (hu_of hr) (pe_ix (k_ix K rfl) (pv 1) pe_int (fun _ _ => rfl)) (pe_ix (k_ix K rfl) (pv 0) pe_int (fun _ _ => rfl)) pe_int ⟨rfl, rfl, rfl, rfl⟩))) pss_nil)
    (pss_cons (ps_if (pt_cmpR (k_eq K rfl hr) (pv 2) pe_str (nomark _)) (pss_one (ps_ret (pe_ifExp (pt_cmpR (k_neE K rfl hr) (pe_ix (k_ix K rfl) (pv 1) pe_int (fun _ _ => rfl)) (pe_lst pa_nil) (nomark _)) (pe_ix (k_ix K rfl) (pe_ix (k_ix K rfl) (pv 1) pe_int (fun _ _ => rfl)) (pe_ix (k_ix K rfl) (pv 0) pe_int (fun _ _ => rfl)) (fun _ _ => rfl)) pe_int))) pss_nil)
    (pss_cons (ps_if (pt_cmpR (k_eq K rfl hr) (pv 2) pe_str (nomark _)) (pss_one (ps_ret (pe_own G_at_number (hr.mono (by first | decide | omega)) (by rfl) p_body (pa_cons (pe_ix (k_ix K rfl) (pe_ix (k_ix K rfl) (pv 1) pe_int (fun _ _ => rfl)) (pe_ix (k_ix K rfl) (pv 0) pe_int (fun _ _ => rfl)) (fun _ _ => rfl)) (pa_cons (pe_own G_comes_to (hr.mono (by first | decide | omega)) (by rfl) p_body (pa_cons (pe_ix (k_ix K rfl) (pv 0) pe_int (fun _ _ => rfl)) (pa_cons (pv 1) pa_nil))) pa_nil))))) pss_nil)
    (pss_cons (ps_if (pt_cmpR (k_eq K rfl hr) (pv 2) pe_str (nomark _)) (pss_one (ps_ret (pe_own G_comes_to (hr.mono (by first | decide | omega)) (by rfl) p_body (pa_cons (pe_ifExp (pt_val (pe_ix (k_ix K rfl) (pe_ix (k_ix K rfl) (pv 1) pe_int (fun _ _ => rfl)) (pe_ix (k_ix K rfl) (pv 0) pe_int (fun _ _ => rfl)) (fun _ _ => rfl))) (pe_ix (k_ix K rfl) (pv 0) pe_int (fun _ _ => rfl)) (pe_ix (k_ix K rfl) (pv 0) pe_int (fun _ _ => rfl))) (pa_cons (pv 1) pa_nil))))) pss_nil)
    (pss_cons (ps_set (i := 3) sc_comes_to.nd rfl (by first | exact Or.inl rfl | exact Or.inr rfl) (pe_own G_comes_to (hr.mono (by first | decide | omega)) (by rfl) p_body (pa_cons (pe_ix (k_ix K rfl) (pv 0) pe_int (fun _ _ => rfl)) (pa_cons (pv 1) pa_nil))))
    (pss_cons (ps_if (pt_cmpR (k_eq K rfl hr) (pv 2) pe_str (nomark _)) (pss_one (ps_ret (pe_op o_div (pe_op o_mul (pv 3) (pe_ix (k_ix K rfl) (pv 0) pe_int (fun _ _ => rfl))) pe_int))) pss_nil)
    (pss_cons (ps_if (pt_cmpR (k_eq K rfl hr) (pv 2) pe_str (nomark _)) (pss_one (ps_ret (pe_own G_comes_to (hr.mono (by first | decide | omega)) (by rfl) p_body (pa_cons (pe_ifExp (pt_cmpR o_gt (pv 3) pe_int (nomark _)) (pe_ix (k_ix K rfl) (pv 0) pe_int (fun _ _ => rfl)) (pe_ix (k_ix K rfl) (pv 0) pe_int (fun _ _ => rfl))) (pa_cons (pv 1) pa_nil))))) pss_nil)
    (pss_one (ps_ret (pe_own G_joined (hr.mono (by first | decide | omega)) (by rfl) p_body (pa_cons (pv 2) (pa_cons (pv 3) (pa_cons (pe_own G_comes_to (hr.mono (by first | decide | omega)) (by rfl) p_body (pa_cons (pe_ix (k_ix K rfl) (pv 0) pe_int (fun _ _ => rfl)) (pa_cons (pv 1) pa_nil))) pa_nil)))))))))))))))), ?_⟩
  obtain ⟨F, S, r, ok, hat, hok, hS, q⟩ := h
  have hSx := hS
  obtain ⟨s, l, p, e, t, k, kvs, ts, rfl, hs, hl, ⟨hp, hpk⟩, he, ⟨ht, hts⟩, hk⟩ := hSx.ex
  have ll := hS.ll
  have lk := hS.lk
  have tb := hS.tb
  refine Fl.go_start (σ0 := [some _, some _, none, none]) rfl ?_
  cases r with
  | num i =>
    obtain ⟨x, u, rfl, hx, h1⟩ := At.t2 hat
    cases (show u = .int i from h1)
    walk_at "s"
    exact q _ (.refl _)
  | line i =>
    obtain ⟨x, u, rfl, hx, h1⟩ := At.t2 hat
    cases (show u = .int i from h1)
    have hi := mem_rangeI.mp (show i ∈ rangeI F.rs.length from hok)
    walk_at "s"
    refine ex_v (atI_getD hi.1 (by omega)) ?_
    exact q _ (.refl _)
  | paper x =>
    obtain ⟨x', u, rfl, hx, h1⟩ := At.t2 hat
    cases (show u = .str x from h1)
    walk_at "s"
    refine ⟨isD_of hp, ?_⟩
    walk_at "s"
    refine dinS hp ?_
    rw [hpk x]
    exact q _ (.refl _)
  | earl i =>
    obtain ⟨x, u, rfl, hx, h1⟩ := At.t2 hat
    cases (show u = .int i from h1)
    have hi := (show 0 ≤ i ∧ i < (F.rs.length : Int) from hok)
    have q' : ∀ H', Same H H' → Q (.int (S.ear i)) H' := q
    unfold Sgt.ear at q'
    walk_at "s"
    rename_i pe hpe
    refine ne_eI (by walk_at "hp") (by walk_at "hp") ?_
    walk_at "s"
    by_cases c : S.earl = []
    · rw [if_pos c] at q'
      rw [c]
      walk_at "s"
      exact q' _ (by walk_at "sm")
    · rw [if_neg c] at q'
      have c' : S.earl.isEmpty = false := by simpa using c
      have le := hS.le.resolve_left c
      rw [c']
      walk_at "s"
      refine ex_v (atI_getD hi.1 (by omega)) ?_
      exact q' _ (by walk_at "sm")
  | two x y z =>
    obtain ⟨x', u1, u2, rfl, hx, h1, h2⟩ := At.t3 hat
    have hw := hok.1
    have n1 : ¬ x = "number" := by rintro rfl; exact absurd hw (by unfold op4; decide +kernel)
    have n2 : ¬ x = "line" := by rintro rfl; exact absurd hw (by unfold op4; decide +kernel)
    have n3 : ¬ x = "paper" := by rintro rfl; exact absurd hw (by unfold op4; decide +kernel)
    have n4 : ¬ x = "earlier" := by rintro rfl; exact absurd hw (by unfold op4; decide +kernel)
    have n5 : ¬ x = "table" := by rintro rfl; exact absurd hw (by unfold op4; decide +kernel)
    have n6 : ¬ x = "choose" := by rintro rfl; exact absurd hw (by unfold op4; decide +kernel)
    have n7 : ¬ x = "part" := by rintro rfl; exact absurd hw (by unfold op4; decide +kernel)
    have n8 : ¬ x = "where" := by rintro rfl; exact absurd hw (by unfold op4; decide +kernel)
    walk_at "s"
    refine if_df n1 ?_
    walk_at "s"
    refine if_df n2 ?_
    walk_at "s"
    refine if_df n3 ?_
    walk_at "s"
    refine if_df n4 ?_
    walk_at "s"
    refine if_df n5 ?_
    walk_at "s"
    refine if_df n6 ?_
    walk_at "s"
    refine ⟨F, S, y, ok, h1, hok.2.1, hS, fun H1 sm1 => ?_⟩
    have hx1 := sm1 _ _ hx
    walk_at "s"
    refine if_df n7 ?_
    walk_at "s"
    refine if_df n8 ?_
    walk_at "s"
    refine ⟨F, S, z, ok, h2.le (Same.le sm1), hok.2.2, hS.same sm1, fun H2 sm2 => ?_⟩
    walk_at "s"
    exact q _ (L2.Same.trans sm1 sm2)
  | part x i =>
    obtain ⟨x', u1, u2, rfl, hx, h1, h2⟩ := At.t3 hat
    cases (show u2 = .int i from h2)
    have hi := hok.1
    walk_at "s"
    refine ⟨F, S, x, ok, h1, hok.2, hS, fun H1 sm1 => ?_⟩
    have hx1 := sm1 _ _ hx
    walk_at "s"
    exact q _ sm1
  | table i x =>
    obtain ⟨x', u1, u2, rfl, hx, h1, h2⟩ := At.t3 hat
    cases (show u1 = .int i from h1)
    have hi := (show 0 ≤ i ∧ i < (F.tbs.length : Int) from hok.1)
    obtain ⟨n', rfl⟩ : ∃ n' : Nat, i = n' := ⟨i.toNat, by omega⟩
    obtain ⟨rows, er⟩ : ∃ rows, S.tbs[n']? = some rows := ⟨S.tbs[n']'(by rw [tb]; omega), List.getElem?_eq_getElem _⟩
    obtain ⟨v0, ev0, hv0⟩ := hts.get (i := n') (d := tbD rows) (by rw [List.getElem?_map, er]; rfl)
    have dr := ok.tb rows (by rw [← tb]; exact List.mem_of_getElem? er)
    walk_at "s"
    refine ex_v (atI_nat ev0) ?_
    walk_at "s"
    refine ⟨F, S, x, ok, h2, hok.2, hS, fun H1 sm1 => ?_⟩
    walk_at "s"
    refine ⟨rows, x.val S, hv0.le (Same.le sm1), rfl, dr.small, ?_⟩
    have e : (Rule.table n' x).val S = atTab rows (x.val S) := by
      simp only [Rule.val]
      rw [Int.toNat_natCast, List.getD_eq_getElem?_getD, er]
      rfl
    rw [← e]
    exact q _ sm1
  | wher x y z =>
    obtain ⟨x', u1, u2, u3, rfl, hx, h1, h2, h3⟩ := At.t4 hat
    walk_at "s"
    refine ⟨F, S, x, ok, h1, hok.1, hS, fun H1 sm1 => ?_⟩
    have hx1 := sm1 _ _ hx
    have e : (Rule.wher x y z).val S = if 0 < x.val S then y.val S else z.val S := rfl
    walk_at "s"
    refine if_d (fun c => ?_) (fun c => ?_)
    · rw [e, if_pos c] at q
      walk_at "s"
      refine ⟨F, S, y, ok, h2.le (Same.le sm1), hok.2.1, hS.same sm1, fun H2 sm2 => ?_⟩
      exact q _ (L2.Same.trans sm1 sm2)
    · rw [e, if_neg c] at q
      walk_at "s"
      refine ⟨F, S, z, ok, h3.le (Same.le sm1), hok.2.2, hS.same sm1, fun H2 sm2 => ?_⟩
      exact q _ (L2.Same.trans sm1 sm2)
  | choo i x y =>
    obtain ⟨x', u1, u2, u3, rfl, hx, h1, h2, h3⟩ := At.t4 hat
    cases (show u1 = .int i from h1)
    have hi := (show 0 ≤ i ∧ i < (F.C : Int) from hok.1)
    have hkk := bools_sq (K := K) hk
    have e : (Rule.choo i x y).val S = if S.tk.getD i.toNat false = true then y.val S else x.val S := rfl
    walk_at "s"
    refine ex_v (atI_getB hi.1 (by omega)) ?_
    walk_at "s"
    cases c : S.tk.getD i.toNat false with
    | true =>
      rw [e, if_pos c] at q
      walk_at "s"
      refine ⟨F, S, y, ok, h3, hok.2.2, hS, fun H2 sm2 => ?_⟩
      exact q _ sm2
    | false =>
      rw [e, c] at q
      walk_at "s"
      refine ⟨F, S, x, ok, h2, hok.2.1, hS, fun H2 sm2 => ?_⟩
      exact q _ sm2
theorem ok_comes_to (M : Mg mg) (G_at_number : Has P w K mg base "at_number" ["table", "number"] 1 (sp2 sp_at_number)) (G_joined : Has P w K mg base "joined" ["kind", "one", "other"] 1 (sp3 sp_joined)) (D : DefAt K mg "comes_to" s_comes_to ["rule", "sight"]) :
    ∀ n : Nat, Has P w K mg base "comes_to" ["rule", "sight"] (n + 1) (sp2 (sp_comes n))
  | 0 => Has.none_left D fun vs H Q E h => by
    obtain ⟨_, _, _, F, S, r, _, _, h, _⟩ := h
    exact h
  | n + 1 => ok_comes_step M G_at_number G_joined (ok_comes_to M G_at_number G_joined D n) D
end
end Fl

-- after: gen0.tpl
namespace Fl
open PySem PySem.Spec PyProof.Rows L2 RZ
/-! ### what is refused -/
/-- a class of refusals -/
structure ExcT (K : PySem.W.Frag) (mg : Str → Option Value) (x : Str) (C : Addr) : Prop where
  xC : PySem.W.excIn K C [.type "ValueError", .type "Exception", .type "BaseException", .type "object"] "ValueError.__new__" = true
  gC : mg x = some (.ref C)
  kC : PySem.W.keepIn K (.ref C) = true
  bC : PySem.W.subIn K (.ref C) (.type "BaseException") = some true
  tC : PySem.W.typeIn K (.ref C) = some (.type "type")
  dC : PySem.W.hasDictIn K C = true
section
variable {X : L2.Cx} {x : Str} {ps : List Str} {k : Nat} {sp : Sp} {E : L2.St → XK} {p pos : Pos} {e : Expr} {es : List Expr} {t : TA}
theorem pe_gcls {c : Addr} (hg : Gl X x) (h : X.mg x = some (.ref c)) (hd : (x == ("__debug__" : Str)) = false := by decide) : PE X (.Name x pos) (tC (.ref c)) := pe_glob hg h rfl hd
/-- a call within a try -/
theorem pe_ownS (h : Has X.prog X.w X.K X.mg X.base x ps k sp) (hr : Room k X.A) (hg : Gl X x) (hx : ∀ σ, PassesAt (L2.CX X.prog X.w) X σ (E σ))
    (ha : PA X (e :: es) t) (hdb : (x == ("__debug__" : Str)) = false := by decide) (he : starEach (e :: es) X.env = (false, eval e X.env) :: starEach es X.env := by rfl) (hpl : (backTo pos (starEach es X.env)).any (·.1) = false := by rfl) :
    PE X (.Call (.Name x p) (e :: es) [] pos) (tCallS sp E t) := by
  obtain ⟨f, fd, F, hm, hk, hb⟩ := h.ex
  exact pe_callS F hr hg hm hk hb hx ha hdb he hpl
end
section
variable {σ : L2.St} {H : Hp} {Q : VK} {sp : Sp} {E : L2.St → XK} {t : TA}
instance : Step (tCallS sp E t σ H Q) (t σ H fun vs H1 => sp vs H1 Q (E σ)) := ⟨fun h => h⟩
end
/-- the clause that takes it, the clause that does not -/
theorem wm_yes {K : PySem.W.Frag} {Wo : WX} {D : Ends} {c cls : Value} {d : Option Addr} {ts : Addr → Value → Option Addr → TS} {r : List (Value × (Addr → Value → Option Addr → TS))} {σ : L2.St} {H : Hp} (e : PySem.W.exmOne K cls c = some true) (q : ∀ a, H a = none → ts a cls d D σ H) :
    WE (wMany K Wo D ((c, ts) :: r)) σ cls d H := ⟨true, e, fun _ => q, fun z => nomatch z⟩
theorem wm_no {K : PySem.W.Frag} {Wo : WX} {D : Ends} {c cls : Value} {d : Option Addr} {ts : Addr → Value → Option Addr → TS} {r : List (Value × (Addr → Value → Option Addr → TS))} {σ : L2.St} {H : Hp} (e : PySem.W.exmOne K cls c = some false) (q : WE (wMany K Wo D r) σ cls d H) :
    WE (wMany K Wo D ((c, ts) :: r)) σ cls d H := ⟨false, e, (fun z => nomatch z), fun _ => q⟩
theorem was_yes {K : PySem.W.Frag} {Wo : WX} {D : Ends} {c cls : Value} {d : Option Addr} {i : Nat} {ts : Addr → Value → Option Addr → TS} {σ : L2.St} {H : Hp} (e : PySem.W.exmOne K cls c = some true)
    (q : ∀ a, H a = none → ts a cls d { nx := fun σ' H' => D.nx (σ'.set i none) H', rt := D.rt, bk := fun σ' H' => D.bk (σ'.set i none) H', ct := fun σ' H' => D.ct (σ'.set i none) H' } (σ.set i (some (.ref a))) H) :
    WE (wAs K c i ts Wo D) σ cls d H := ⟨true, e, fun _ => q, fun z => nomatch z⟩
end Fl

-- after: va1.tpl ex.tpl
namespace Fl
open PySem PySem.Spec PyProof.Rows L2 RZ
/-! ### papers, a year -/
def prD (p : Str × Int) : PyData := .tuple [.str p.1, .int p.2]
def papF (ps : List (Str × Int)) (w : Str) : Int := ((ps.find? fun p => decide (p.1 = w)).map (·.2)).getD 0
structure PapOk (ps : List (Str × Int)) : Prop where
  wd : ∀ p ∈ ps, WdT p.1
  num : ∀ p ∈ ps, -1000000000 ≤ p.2 ∧ p.2 ≤ 1000000000
  nd : (ps.map (·.1)).Nodup
  few : ps.length ≤ 60
/-- the dict of these -/
def DicOf (ps : List (Str × Int)) (kvs : List (Key × V)) : Prop := ∀ w, valV kvs (.inr w) = ((ps.find? fun p => decide (p.1 = w)).map (·.2)).map V.int
theorem DicOf.papK {ps : List (Str × Int)} {kvs : List (Key × V)} (h : DicOf ps kvs) : PapK kvs (papF ps) := fun w => by
  rw [h w]
  unfold papF
  cases (ps.find? fun p => decide (p.1 = w)).map (·.2) <;> rfl
theorem DicOf.put {ps : List (Str × Int)} {kvs : List (Key × V)} {p : Str × Int} (h : DicOf ps kvs) (no : p.1 ∉ ps.map (·.1)) : DicOf (ps ++ [p]) (putK kvs (.inr p.1) (.int p.2)) := fun w => by
  rw [valV_put, List.find?_append]
  by_cases c : w = p.1
  · subst c
    have e : ps.find? (fun x => decide (x.1 = p.1)) = none := by
      rw [List.find?_eq_none]
      intro x hx
      have : x.1 ≠ p.1 := fun e => no (e ▸ List.mem_map.mpr ⟨x, hx, rfl⟩)
      simpa using this
    rw [if_pos rfl, e]
    simp
  · rw [if_neg (fun e => c (Sum.inr.inj e)), h w]
    have e : [p].find? (fun x => decide (x.1 = w)) = none := by
      rw [List.find?_eq_none]
      intro x hx
      rw [List.mem_singleton.mp hx]
      simpa using fun e : p.1 = w => c e.symm
    rw [e]
    cases ps.find? (fun x => decide (x.1 = w)) <;> rfl
theorem DicOf.no {ps : List (Str × Int)} {kvs : List (Key × V)} {w : Str} (h : DicOf ps kvs) (no : w ∉ ps.map (·.1)) : valV kvs (.inr w) = Option.none := by
  rw [h w]
  have e : ps.find? (fun x => decide (x.1 = w)) = none := by
    rw [List.find?_eq_none]
    intro x hx
    have : x.1 ≠ w := fun e => no (e ▸ List.mem_map.mpr ⟨x, hx, rfl⟩)
    simpa using this
  rw [e]
  rfl
/-- no paper, behind these -/
def BadP (ps : List (Str × Int)) (x y : PyData) : Prop := okD x = true ∧ (isWord x = false ∨ isWord x = true ∧ isNumber y = false ∨ ∃ w z, x = .str w ∧ y = .int z ∧ isWord x = true ∧ isNumber y = true ∧ w ∈ ps.map (·.1))
def PapBad (H : Hp) (b : V) : Prop := ∃ (l : Addr) (vs : List V) (ps : List (Str × Int)) (x y : PyData) (rest : List PyData), b = .ref l ∧ H l = some (.lst vs) ∧ AtAll H (ps.map prD ++ .tuple [x, y] :: rest) vs ∧ PapOk ps ∧ BadP ps x y
theorem PapBad.same {H H' : Hp} {b : V} (h : PapBad H b) (e : Same H H') : PapBad H' b := by
  obtain ⟨l, vs, ps, x, y, rest, e1, e2, e3, e4⟩ := h
  exact ⟨l, vs, ps, x, y, rest, e1, e _ _ e2, e3.le (Same.le e), e4⟩
section
variable {P : Program} {w : World} {K : PySem.W.Frag} {mg : Str → Option Value} {base : Heap}
abbrev s_papers_of : Stmt := topS 41
theorem sc_papers_of : FnScope ["pairs", "found", "pair"] ["pairs"] (defScope s_papers_of) := ⟨rfl, rfl, rfl, by decide +kernel, rfl, by decide +kernel, by decide +kernel⟩
def sp_papers_of : Sp1 := fun a H Q _ => ∃ (l : Addr) (vs : List V) (ps : List (Str × Int)), a = .ref l ∧ H l = some (.lst vs) ∧ AtAll H (ps.map prD) vs ∧ PapOk ps ∧ ∀ p H' kvs, Same H H' → H p = none → H' p = some (.dK kvs) → DicOf ps kvs → Q (.ref p) H'
/-- .. or the papers are none -/
def sp_papersX (CP : Addr) : Sp1 := fun a H Q E => ∃ (l : Addr) (vs : List V) (ps : List (Str × Int)) (tl : List PyData), a = .ref l ∧ H l = some (.lst vs) ∧ AtAll H (ps.map prD ++ tl) vs ∧ PapOk ps ∧
  ((tl = [] ∧ ∀ p H' kvs, Same H H' → H p = none → H' p = some (.dK kvs) → DicOf ps kvs → Q (.ref p) H') ∨ ∃ x y rest, tl = .tuple [x, y] :: rest ∧ BadP ps x y ∧ ∀ H', Same H H' → E (.ref CP) none H')
theorem papX_good {CP : Addr} {a : V} {H : Hp} {Q : VK} {E : XK} (h : sp_papers_of a H Q E) : sp_papersX CP a H Q E := by
  obtain ⟨l, vs, ps, e, hl, hv, ok, q⟩ := h
  exact ⟨l, vs, ps, [], e, hl, by rw [List.append_nil]; exact hv, ok, .inl ⟨rfl, q⟩⟩
theorem papX_bad {CP : Addr} {a : V} {H : Hp} {Q : VK} {E : XK} (h : PapBad H a) (q : ∀ H', Same H H' → E (.ref CP) none H') : sp_papersX CP a H Q E := by
  obtain ⟨l, vs, ps, x, y, rest, e, hl, hv, ok, b⟩ := h
  exact ⟨l, vs, ps, _, e, hl, hv, ok, .inr ⟨x, y, rest, rfl, b, q⟩⟩
theorem ok_papers_of {CP : Addr} (M : Mg mg) (T_NoPaper : ExcT K mg "NoPaper" CP) (G_is_word : Has P w K mg base "is_word" ["thing"] 1 (sp1 sp_is_word)) (G_is_number : Has P w K mg base "is_number" ["thing"] 2 (sp1 sp_is_number)) (D : DefAt K mg "papers_of" s_papers_of ["pairs"]) :
    Has P w K mg base "papers_of" ["pairs"] 3 (sp1 (sp_papersX CP)) := by
  refine .mk1 D sc_papers_of fun fa cdv A outer s0 H a Q E hr h => ⟨_, (pss_cons (ps_set (i := 1) sc_papers_of.nd rfl (by first | exact Or.inl rfl | exact Or.inr rfl) pe_dnewK)
    (pss_cons (ps_for own_p (by rfl) (k_pi K rfl (pv 0)) (pg_name (i := 2) sc_papers_of.nd rfl (by first | exact Or.inl rfl | exact Or.inr rfl)) (pss_cons (ps_if (PW.pt (pw_or (pt_not (pt_val (pe_own G_is_word (hr.mono (by first | decide | omega)) (by rfl) p_body (pa_cons (pe_ix (k_ix K rfl) (pv 2) pe_int (fun _ _ => rfl)) pa_nil)))) (pw_or (pt_not (pt_val (pe_own G_is_number (hr.mono (by first | decide | omega)) (by rfl) p_body (pa_cons (pe_ix (k_ix K rfl) (pv 2) pe_int (fun _ _ => rfl)) pa_nil)))) (pw_or1 (pt_cmp (pc_din (hu_of hr) (pe_ix (k_ix K rfl) (pv 2) pe_int (fun _ _ => rfl)) (pv 1))))))) (pss_one (ps_raise (by rfl) t_body (pmk_own PySem.F.excBase_ValueError T_NoPaper.xC T_NoPaper.gC T_NoPaper.kC (raises_own T_NoPaper.bC T_NoPaper.tC) (by exact rfl)))) pss_nil)
    (pss_one (ps_dput (hu_of hr) (pv 1) (pe_ix (k_ix K rfl) (pv 2) pe_int (fun _ _ => rfl)) (pe_ix (k_ix K rfl) (pv 2) pe_int (fun _ _ => rfl)) rfl))))
    (pss_one (ps_ret (pv 1))))), ?_⟩
  obtain ⟨l, vs, ps, tl, rfl, hl, hvs, ok, q⟩ := h
  have lvs := hvs.length
  rw [List.length_append, List.length_map] at lvs
  have few := ok.few
  refine Fl.go_start (σ0 := [some _, none, none]) rfl ?_
  walk_at "s"
  rename_i d hd
  refine for_lst (fun i σ' H' => i ≤ ps.length ∧ ∃ (kvs : List (Key × V)) (y2 : Option V), σ' = [some (.ref l), some (.ref d), y2] ∧ H' d = some (.dK kvs) ∧ DicOf (ps.take i) kvs ∧ kvs.length ≤ i ∧ Same H H') (by walk_at "hp") ⟨Nat.zero_le _, [], none, rfl, upd_same, fun w => by simp [valV_nil], by simp, by walk_at "sm"⟩ (fun i σ' H' _ ⟨_, _, _, _, _, _, _, e⟩ => e _ _ hl) ?_ ?_
  · rintro i x σ' H1 ex ⟨ile, kvs, y2, rfl, hd1, hk, lk, sm⟩
    obtain ⟨d0, ed, hx⟩ := hvs.ix ex
    by_cases il : i < ps.length
    · obtain ⟨pr, ep, rfl⟩ : ∃ pr, ps[i]? = some pr ∧ d0 = prD pr := by
        rw [List.getElem?_append_left (by rw [List.length_map]; exact il), List.getElem?_map, List.getElem?_eq_getElem il] at ed
        exact ⟨_, List.getElem?_eq_getElem il, (Option.some.inj ed).symm⟩
      have pm := List.mem_of_getElem? ep
      obtain ⟨t, u, rfl, ht, hu⟩ := At.t2 hx
      cases (show u = .int pr.2 from hu)
      have ht1 := sm _ _ ht
      have wd := ok.wd pr pm
      have okd := wd.ok.ok (Nat.le_refl _)
      have no : pr.1 ∉ (ps.take i).map (·.1) := fun h => by
        obtain ⟨p2, hp2, e2⟩ := List.mem_map.mp h
        obtain ⟨j, hj, e3⟩ := List.getElem_of_mem hp2
        rw [List.length_take] at hj
        rw [List.getElem_take] at e3
        have nd := List.pairwise_iff_getElem.mp ok.nd j i (by simp; omega) (by simp; omega) (by omega)
        apply nd
        rw [List.getElem_map, List.getElem_map, e3, e2]
        congr 1
        exact (Option.some.inj ((List.getElem?_eq_getElem il).symm.trans ep)).symm
      have rg := ok.num pr pm
      walk_at "s"
      rename_i H2 sm2
      rw [wd.word]
      walk_at "s"
      rw [show isNumber (.int pr.2) = true from isWhole_of rg.1 rg.2]
      have hd2 := sm2 _ _ hd1
      have ht2 := sm2 _ _ ht1
      walk_at "s"
      refine dinS hd2 ?_
      rw [hk.no no]
      walk_at "s"
      refine dputS hd2 (show kvs.length + 1 ≤ sizeLine from small_of (by omega)) ?_
      walk_at "s"
      refine ⟨_, _, rfl, upd_same, ?_, ?_, ?_⟩
      · rw [List.take_add_one, ep]
        exact hk.put no
      · exact Nat.le_trans putK_length (by omega)
      · exact Same.mut (L2.Same.trans sm sm2) hd
    · have ie : i = ps.length := by omega
      subst ie
      rw [List.take_length] at hk
      rw [List.getElem?_append_right (by rw [List.length_map]; exact Nat.le_refl _), List.length_map, Nat.sub_self] at ed
      rcases q with ⟨rfl, q⟩ | ⟨x0, y0, rest, rfl, hb, q⟩
      · cases ed
      cases (Option.some.inj ed)
      obtain ⟨t, us, rfl, ht, u0, r0, rfl, h0, u1, r1, rfl, h1, h2⟩ := hx
      cases (show r1 = [] from h2)
      have ht1 := sm _ _ ht
      have g0 := h0.le (Same.le sm)
      have g1 := h1.le (Same.le sm)
      obtain ⟨bk, hb⟩ := hb
      walk_at "s"
      rcases hb with h | ⟨h, h'⟩ | ⟨w, z, rfl, rfl, h, h', hm⟩
      · rw [h]
        walk_at "s"
        exact q _ (by walk_at "sm")
      · rw [h]
        walk_at "s"
        rw [h']
        walk_at "s"
        exact q _ (by walk_at "sm")
      · rw [h]
        walk_at "s"
        rw [h']
        walk_at "s"
        cases (show u0 = .str w from g0)
        refine dinS (by walk_at "hp") ?_
        rw [hk w]
        obtain ⟨pq, hq, eq⟩ := List.mem_map.mp hm
        obtain ⟨pf, ef⟩ : ∃ pf, ps.find? (fun p => decide (p.1 = w)) = some pf := by
          cases e : ps.find? (fun p => decide (p.1 = w)) with
          | some pf => exact ⟨pf, rfl⟩
          | none => exact absurd eq (by simpa using List.find?_eq_none.mp e pq hq)
        rw [ef]
        walk_at "s"
        exact q _ (by walk_at "sm")
  · rintro σ' H1 ⟨ile, kvs, y2, rfl, hd1, hk, lk, sm⟩
    rcases q with ⟨rfl, q⟩ | ⟨x0, y0, rest, rfl, hb, q⟩
    · walk_at "s"
      rw [lvs, List.length_nil, Nat.add_zero, List.take_length] at hk
      exact q d H1 kvs sm hd hd1 hk
    · rw [List.length_cons] at lvs
      omega
end
end Fl

-- after: ext.tpl
namespace Fl
open PySem PySem.Spec PyProof.Rows L2 RZ
/-! ### whole numbers that are taken by a test -/
def selF (p : Int → Bool) : V → Option V
  | .int o => if p o = true then some (.int o) else none
  | _ => none
theorem selF_int {p : Int → Bool} {o : Int} : selF p (.int o) = if p o = true then some (.int o) else none := rfl
theorem selF_is {p : Int → Bool} {o : Int} : (selF p (.int o)).isSome = p o := by
  rw [selF_int]
  cases p o <;> rfl
theorem selF_eq {p : Int → Bool} {o : Int} {y : V} (h : selF p (.int o) = some y) : y = .int o ∧ p o = true := by
  rw [selF_int] at h
  split at h
  · rename_i c
    exact ⟨(Option.some.inj h).symm, c⟩
  · cases h
theorem selF_map {p : Int → Bool} : ∀ ns : List Int, (ns.map V.int).filterMap (selF p) = (ns.filter p).map V.int
  | [] => rfl
  | o :: r => by
    rw [List.map_cons, List.filterMap_cons, List.filter_cons, selF_map r, selF_int]
    cases p o <;> rfl
theorem map_int_get {ns : List Int} {i : Nat} {x : V} (h : (ns.map V.int)[i]? = some x) : ∃ o, ns[i]? = some o ∧ x = .int o := by
  rw [List.getElem?_map] at h
  cases e : ns[i]? with
  | none => rw [e] at h; cases h
  | some o => rw [e] at h; exact ⟨o, rfl, (Option.some.inj h).symm⟩
theorem map_bl_get {ns : List Int} {p : Int → Bool} {i : Nat} {o : Int} {y : V} (h : ((ns.map p).map V.bl)[i]? = some y) (e : ns[i]? = some o) : y = .bl (p o) := by
  rw [List.getElem?_map, List.getElem?_map, e] at h
  exact (Option.some.inj h).symm
end Fl

-- after: va2.tpl sel.tpl
namespace Fl
open PySem PySem.Spec PyProof.Rows L2 RZ
theorem BoolsAt.same {H H' : Hp} {a : Addr} {bs : List Bool} (h : BoolsAt H a bs) (e : Same H H') : BoolsAt H' a bs := h.imp (e _ _) (e _ _)
/-- the year of a form by papers, the lines ahead, choices -/
def Frm.yr (F : Frm) (ps : List (Str × Int)) (earl : List Int) (tk : List Bool) : List Int := F.year ⟨[], papF ps, earl, F.tbs, tk⟩
section
variable {P : Program} {w : World} {K : PySem.W.Frag} {mg : Str → Option Value} {base : Heap}
abbrev s_need_choices : Stmt := topS 42
theorem sc_need_choices : FnScope ["form", "taken"] ["form", "taken"] (defScope s_need_choices) := ⟨rfl, rfl, rfl, by decide +kernel, rfl, by decide +kernel, by decide +kernel⟩
def sp_need : Sp2 := fun a b H Q _ => ∃ (F : Frm) (k : Addr) (tk : List Bool), At H F.d a ∧ b = .ref k ∧ BoolsAt H k tk ∧ tk.length = F.C ∧ Q .non H
/-- .. or there are more, or fewer -/
def sp_needX (CC : Addr) : Sp2 := fun a b H Q E => ∃ (F : Frm) (k : Addr) (tk : List Bool), At H F.d a ∧ b = .ref k ∧ BoolsAt H k tk ∧ tk.length < 100000 ∧ ((tk.length = F.C ∧ Q .non H) ∨ (tk.length ≠ F.C ∧ E (.ref CC) none H))
theorem ok_need_choices {CC : Addr} (M : Mg mg) (T_NoChoice : ExcT K mg "NoChoice" CC) (D : DefAt K mg "need_choices" s_need_choices ["form", "taken"]) : Has P w K mg base "need_choices" ["form", "taken"] 1 (sp2 (sp_needX CC)) := by
  refine .mk2 D sc_need_choices fun fa cdv A outer s0 H a b Q E hr h => ⟨_, (pss_one (ps_if (pt_cmpR (k_ne K rfl hr) (pe_callB (k_len K rfl) (by rfl) M.len (by decide +kernel) (pa_cons (pv 1) pa_nil)) (pe_ix (k_ix K rfl) (pv 0) pe_int (fun _ _ => rfl)) (nomark _)) (pss_one (ps_raise (by rfl) t_body (pmk_own PySem.F.excBase_ValueError T_NoChoice.xC T_NoChoice.gC T_NoChoice.kC (raises_own T_NoChoice.bC T_NoChoice.tC) (by exact rfl)))) pss_nil)), ?_⟩
  obtain ⟨F, k, tk, hat, rfl, hk, lk, q⟩ := h
  obtain ⟨f, L, T, vs, ts, rfl, hf, hL, hvs, hT, hts⟩ := Frm.at hat
  have hkk := bools_sq (K := K) hk
  refine Fl.go_start (σ0 := [some _, some _]) rfl ?_
  walk_at "s"
  rcases q with ⟨lk, q⟩ | ⟨lk, q⟩
  · rw [List.length_map, show (!decide ((tk.length : Int) = F.C)) = false by simp; omega]
    walk_at "s"
    exact q
  · rw [List.length_map, show (!decide ((tk.length : Int) = F.C)) = true by simp; omega]
    walk_at "s"
    exact q
abbrev s_reckoned : Stmt := topS 43
theorem sc_reckoned : FnScope ["form", "pairs", "earlier", "taken", "papers", "lines", "sight", "line"] ["form", "pairs", "earlier", "taken"] (defScope s_reckoned) := ⟨rfl, rfl, rfl, by decide +kernel, rfl, by decide +kernel, by decide +kernel⟩
def sp_reckoned : Sp4 := fun a b c e H Q _ => ∃ (F : Frm) (l : Addr) (vs : List V) (ps : List (Str × Int)) (e0 : Addr) (earl : List Int) (k : Addr) (tk : List Bool), F.Ok 40 ∧ At H F.d a ∧ b = .ref l ∧ H l = some (.lst vs) ∧ AtAll H (ps.map prD) vs ∧ PapOk ps ∧
  c = .ref e0 ∧ H e0 = some (.lst (earl.map V.int)) ∧ (earl = [] ∨ earl.length = F.rs.length) ∧ e = .ref k ∧ BoolsAt H k tk ∧ tk.length = F.C ∧
  ∀ p H', Same H H' → H p = none → H' p = some (.lst ((F.yr ps earl tk).map V.int)) → Q (.ref p) H'
/-- .. or the papers are none, or the choices others -/
def sp_reckX (CP CC : Addr) : Sp4 := fun a b c e H Q E => sp_reckoned a b c e H Q E ∨ ((PapBad H b ∧ ∀ H', Same H H' → E (.ref CP) none H') ∨
  ∃ (F : Frm) (l : Addr) (vs : List V) (ps : List (Str × Int)) (k : Addr) (tk : List Bool), At H F.d a ∧ b = .ref l ∧ H l = some (.lst vs) ∧ AtAll H (ps.map prD) vs ∧ PapOk ps ∧ e = .ref k ∧ BoolsAt H k tk ∧ tk.length < 100000 ∧ tk.length ≠ F.C ∧ ∀ H', Same H H' → E (.ref CC) none H')
theorem ok_reckoned {CP CC : Addr} (M : Mg mg) (G_papers_of : Has P w K mg base "papers_of" ["pairs"] 3 (sp1 (sp_papersX CP))) (G_need_choices : Has P w K mg base "need_choices" ["form", "taken"] 1 (sp2 (sp_needX CC))) (G_order_of : Has P w K mg base "order_of" ["form"] 3 (sp1 sp_order_of)) (G_comes_to : Has P w K mg base "comes_to" ["rule", "sight"] 9 (sp2 (sp_comes 8)))
    (D : DefAt K mg "reckoned" s_reckoned ["form", "pairs", "earlier", "taken"]) : Has P w K mg base "reckoned" ["form", "pairs", "earlier", "taken"] 10 (sp4 (sp_reckX CP CC)) := by
  refine .mk4 D sc_reckoned fun fa cdv A outer s0 H a b c e Q E hr h => ⟨_, (pss_cons (ps_set (i := 4) sc_reckoned.nd rfl (by first | exact Or.inl rfl | exact Or.inr rfl) (pe_own G_papers_of (hr.mono (by first | decide | omega)) (by rfl) p_body (pa_cons (pv 1) pa_nil)))
    (pss_cons (ps_expr (pe_own G_need_choices (hr.mono (by first | decide | omega)) (by rfl) p_body (pa_cons (pv 0) (pa_cons (pv 3) pa_nil))))
    (pss_cons (ps_set (i := 5) sc_reckoned.nd rfl (by first | exact Or.inl rfl | exact Or.inr rfl) (pe_op o_mul (pe_lst (pa_cons pe_int pa_nil)) (pe_callB (k_len K rfl) (by rfl) M.len (by decide +kernel) (pa_cons (pe_ix (k_ix K rfl) (pv 0) pe_int (fun _ _ => rfl)) pa_nil))))
    (pss_cons (ps_set (i := 6) sc_reckoned.nd rfl (by first | exact Or.inl rfl | exact Or.inr rfl) (pe_tup (pa_cons (pv 5) (pa_cons (pv 4) (pa_cons (pv 2) (pa_cons (pe_ix (k_ix K rfl) (pv 0) pe_int (fun _ _ => rfl)) (pa_cons (pv 3) pa_nil)))))))
    (pss_cons (ps_for own_p (by rfl) (k_pi K rfl (pe_own G_order_of (hr.mono (by first | decide | omega)) (by rfl) p_body (pa_cons (pv 0) pa_nil))) (pg_name (i := 7) sc_reckoned.nd rfl (by first | exact Or.inl rfl | exact Or.inr rfl)) (pss_one (ps_asg (pe_own G_comes_to (hr.mono (by first | decide | omega)) (by rfl) p_body (pa_cons (pe_ix (k_ix K rfl) (pe_ix (k_ix K rfl) (pv 0) pe_int (fun _ _ => rfl)) (pv 7) (fun _ _ => rfl)) (pa_cons (pv 6) pa_nil))) (pg_sub (pv 5) (pv 7) set_list))))
    (pss_one (ps_ret (pv 5)))))))), ?_⟩
  rcases h with h | ⟨hb, q⟩ | ⟨F, l, vs, ps, k, tk, hat, rfl, hl, hvs, pok, rfl, hk, lk, nk, q⟩
  case inr.inl =>
    refine Fl.go_start (σ0 := [some _, some _, some _, some _, none, none, none, none]) rfl ?_
    walk_at "s"
    exact papX_bad hb q
  case inr.inr =>
    refine Fl.go_start (σ0 := [some _, some _, some _, some _, none, none, none, none]) rfl ?_
    walk_at "s"
    refine papX_good ⟨l, vs, ps, rfl, hl, hvs, pok, fun pd H1 kvs sm1 npd hpd hdic => ?_⟩
    have hat1 := hat.le (Same.le sm1)
    walk_at "s"
    exact ⟨F, k, tk, hat1, rfl, hk.same sm1, lk, .inr ⟨nk, q _ sm1⟩⟩
  obtain ⟨F, l, vs, ps, e0, earl, k, tk, ok, hat, rfl, hl, hvs, pok, rfl, he, le, rfl, hk, lk, q⟩ := h
  refine Fl.go_start (σ0 := [some _, some _, some _, some _, none, none, none, none]) rfl ?_
  walk_at "s"
  refine papX_good ⟨l, vs, ps, rfl, hl, hvs, pok, fun pd H1 kvs sm1 npd hpd hdic => ?_⟩
  have hk1 := hk.same sm1
  have hat1 := hat.le (Same.le sm1)
  walk_at "s"
  have c8 := ok.c8
  refine ⟨F, k, tk, hat1, rfl, hk1, by omega, .inl ⟨lk, ?_⟩⟩
  obtain ⟨f, L, T, fs, ts, rfl, hf, hL, hfs, hT, hts⟩ := Frm.at hat1
  have he1 := sm1 _ _ he
  have lfs := hfs.length
  rw [List.length_map] at lfs
  have n2 := ok.n2
  have n1 := ok.n1
  walk_at "s"
  rename_i p1 hp1 p hp s hs
  rw [Int.toNat_natCast, rep_flat] at *
  rw [lfs] at *
  have sm2 : Same H1 (upd (upd (upd H1 p1 (.lst [V.int 0])) p (.lst (List.replicate F.rs.length (.int 0)))) s (.tup [.ref p, .ref pd, .ref e0, .ref T, .ref k])) := by walk_at "sm"
  have fp : H1 p = none := by
    have h1 : Same H1 (upd H1 p1 (.lst [V.int 0])) := by walk_at "sm"
    exact L2.Same.free h1 hp
  have p3 : (upd (upd (upd H1 p1 (.lst [V.int 0])) p (.lst (List.replicate F.rs.length (.int 0)))) s (.tup [.ref p, .ref pd, .ref e0, .ref T, .ref k])) p = some (.lst (List.replicate F.rs.length (.int 0))) := by walk_at "hp"
  have s3 : (upd (upd (upd H1 p1 (.lst [V.int 0])) p (.lst (List.replicate F.rs.length (.int 0)))) s (.tup [.ref p, .ref pd, .ref e0, .ref T, .ref k])) s = some (.tup [.ref p, .ref pd, .ref e0, .ref T, .ref k]) := upd_same
  generalize upd (upd (upd H1 p1 (.lst [V.int 0])) p (.lst (List.replicate F.rs.length (.int 0)))) s (.tup [.ref p, .ref pd, .ref e0, .ref T, .ref k]) = H2 at *
  clear hs hp hp1
  have hat2 := hat1.le (Same.le sm2)
  refine ⟨F, ok, hat2, fun o H3 sm3 hofr ho => ?_⟩
  have p4 := sm3 _ _ p3
  have s4 := sm3 _ _ s3
  have nop : o ≠ p := fun e => by rw [e, p3] at hofr; cases hofr
  have nsp : s ≠ p := fun e => by rw [e, p3] at s3; cases s3
  have npd' : pd ≠ p := fun e => by rw [e, fp] at hpd; cases hpd
  have nep : e0 ≠ p := fun e => by rw [e, fp] at he1; cases he1
  have nkp : k ≠ p := fun e => by rcases hk1 with h | h <;> (rw [e, fp] at h; cases h)
  have nTp : T ≠ p := fun e => by rw [e, fp] at hT; cases hT
  have nLp : L ≠ p := fun e => by rw [e, fp] at hL; cases hL
  have nfp : f ≠ p := fun e => by rw [e, fp] at hf; cases hf
  have sm13 := L2.Same.trans sm2 sm3
  have hpd4 := sm13 _ _ hpd
  have he4 := sm13 _ _ he1
  have hk4 := hk1.same sm13
  have hT4 := sm13 _ _ hT
  have hL4 := sm13 _ _ hL
  have hf4 := sm13 _ _ hf
  have hts4 := hts.le (Same.le sm13)
  have hfs4 := hfs.le (Same.le sm13)
  have hat4 := hat2.le (Same.le sm3)
  have sm03 : Same H H3 := L2.Same.trans sm1 sm13
  have fp0 : H p = none := L2.Same.free sm1 fp
  have oo := ok.ord
  refine for_lst (fun i σ' H' => ∃ y7 : Option V, σ' = [some (.ref f), some (.ref l), some (.ref e0), some (.ref k), some (.ref pd), some (.ref p), some (.ref s), y7] ∧ H' p = some (.lst ((F.upto ⟨[], papF ps, earl, F.tbs, tk⟩ i).map V.int)) ∧ LeT H3 H' ∧ (∀ b u, b ≠ p → H3 b = some u → H' b = some u))
    ho ⟨none, rfl, ?_, .refl _, fun b u _ h => h⟩ (fun i σ' H' _ ⟨_, _, _, _, kp⟩ => kp _ _ nop ho) ?_ ?_
  · rw [p4]
    unfold Frm.upto
    simp
  · rintro i x σ' H4 ex ⟨y7, rfl, hp4, lt4, kp⟩
    obtain ⟨q1, eq1, rfl⟩ := map_int_get ex
    have il := (List.getElem?_eq_some_iff.mp eq1).1
    rw [oo.len] at il
    have rq := oo.rng q1 (List.mem_of_getElem? eq1)
    have hf5 := kp _ _ nfp hf4
    have hL5 := kp _ _ nLp hL4
    obtain ⟨qn, rfl⟩ : ∃ qn : Nat, q1 = qn := ⟨q1.toNat, by omega⟩
    have hqn : qn < F.rs.length := by omega
    obtain ⟨v0, ev0, hv0⟩ := hfs4.get (i := qn) (d := (F.rs[qn]'hqn).d) (by rw [List.getElem?_map, List.getElem?_eq_getElem hqn]; rfl)
    walk_at "s"
    refine ex_v (atI_nat ev0) ?_
    walk_at "s"
    have hv4 : At H4 (F.rs[qn]'hqn).d v0 := hv0.leT lt4 (Rule.tupO _)
    refine ⟨F, ⟨F.upto ⟨[], papF ps, earl, F.tbs, tk⟩ i, papF ps, earl, F.tbs, tk⟩, F.rs[qn]'hqn, ok, hv4, ok.good _ (List.getElem_mem hqn), ⟨⟨s, p, pd, e0, T, k, kvs, ts, rfl, kp _ _ nsp s4, hp4, ⟨kp _ _ npd' hpd4, hdic.papK⟩, kp _ _ nep he4, ⟨kp _ _ nTp hT4, hts4.leT lt4 (tbs_tupO _)⟩, hk4.imp (kp _ _ nkp) (kp _ _ nkp)⟩, rfl, F.upto_len i, le, lk⟩, fun H5 sm5 => ?_⟩
    have hp5 := sm5 _ _ hp4
    walk_at "s"
    refine ex_j (ixN_nat (by rw [List.length_map, F.upto_len]; omega)) ?_
    walk_at "s"
    refine ⟨_, rfl, ?_, LeT.put1 hp5 (lt4.trans (Same.le sm5).let), fun b u nb h => by rw [upd_ne nb]; exact sm5 _ _ (kp _ _ nb h)⟩
    rw [upd_same, Frm.upto_succ eq1]
    unfold Frm.put Frm.rule
    rw [List.map_set, Int.toNat_natCast, List.getD_eq_getElem?_getD, List.getElem?_eq_getElem hqn]
    rfl
  · rintro σ' H4 ⟨y7, rfl, hp4, lt4, kp⟩
    rw [List.length_map, oo.len] at hp4
    walk_at "s"
    exact q p H4 (fun b u h => kp _ _ (fun e => by rw [e, fp0] at h; cases h) (sm03 _ _ h)) fp0 hp4
end
end Fl

-- after: va3.tpl
namespace Fl
open PySem PySem.Spec PyProof.Rows L2 RZ
/-! ### history -/
/-- lists of papers; lists of truths; rows of numbers -/
structure PapsAt (H : Hp) (yv : List V) (pss : List (List (Str × Int))) : Prop where
  len : yv.length = pss.length
  at_ : ∀ (i : Nat) (v : V) (ps : List (Str × Int)), yv[i]? = some v → pss[i]? = some ps → ∃ l vs, v = .ref l ∧ H l = some (.lst vs) ∧ AtAll H (ps.map prD) vs ∧ PapOk ps
structure TksAt (H : Hp) (kv : List V) (tks : List (List Bool)) (C : Nat) : Prop where
  len : kv.length = tks.length
  at_ : ∀ (i : Nat) (v : V) (tk : List Bool), kv[i]? = some v → tks[i]? = some tk → ∃ l, v = .ref l ∧ BoolsAt H l tk ∧ tk.length = C
structure RowsAt (H : Hp) (hv : List V) (n : Nat) (f : Nat → List Int) : Prop where
  len : hv.length = n
  at_ : ∀ (i : Nat) (v : V), hv[i]? = some v → ∃ l, v = .ref l ∧ H l = some (.lst ((f i).map V.int))
theorem prs_tupO (ps : List (Str × Int)) : tupsOnly (ps.map prD) = true := tupsOnly_all fun d hd => by
  obtain ⟨p, _, rfl⟩ := List.mem_map.mp hd
  rfl
theorem PapsAt.same {H H' : Hp} {yv : List V} {pss : List (List (Str × Int))} (h : PapsAt H yv pss) (e : Same H H') : PapsAt H' yv pss :=
  ⟨h.len, fun i v ps e1 e2 => let ⟨l, vs, q, h1, h2, h3⟩ := h.at_ i v ps e1 e2; ⟨l, vs, q, e _ _ h1, h2.le (Same.le e), h3⟩⟩
theorem TksAt.same {H H' : Hp} {yv : List V} {tks : List (List Bool)} {C : Nat} (h : TksAt H yv tks C) (e : Same H H') : TksAt H' yv tks C :=
  ⟨h.len, fun i v tk e1 e2 => let ⟨l, q, h1, h2⟩ := h.at_ i v tk e1 e2; ⟨l, q, h1.same e, h2⟩⟩
theorem RowsAt.same {H H' : Hp} {hv : List V} {n : Nat} {f : Nat → List Int} (h : RowsAt H hv n f) (e : Same H H') : RowsAt H' hv n f :=
  ⟨h.len, fun i v e1 => let ⟨l, q, h1⟩ := h.at_ i v e1; ⟨l, q, e _ _ h1⟩⟩
/-- the lines behind so many years -/
def Frm.hy (F : Frm) (pss : List (List (Str × Int))) (tks : List (List Bool)) : Nat → List Int
  | 0 => []
  | i + 1 => F.yr (pss.getD i []) (F.hy pss tks i) (tks.getD i [])
theorem Frm.yr_len {F : Frm} {ps : List (Str × Int)} {e : List Int} {tk : List Bool} : (F.yr ps e tk).length = F.rs.length := F.year_len
theorem Frm.hy_len {F : Frm} {pss : List (List (Str × Int))} {tks : List (List Bool)} : ∀ i, F.hy pss tks i = [] ∨ (F.hy pss tks i).length = F.rs.length
  | 0 => .inl rfl
  | _ + 1 => .inr F.yr_len
theorem forz_l {K : PySem.W.Frag} {a b : Addr} {xs ys : List V} {g : TG} {tb : TS} {nx bk ct : L2.St → Hp → Prop} {rt : VK} {σ : L2.St} {H : Hp} (Pv : Nat → L2.St → Hp → Prop) (ha : H a = some (.lst xs)) (hb : H b = some (.lst ys)) (hl : xs.length = ys.length) (h0 : Pv 0 σ H) (hq : ∀ i σ H, Pv i σ H → H a = some (.lst xs) ∧ H b = some (.lst ys))
    (hs : ∀ (i : Nat) (x y : V) (T : Addr) (σ : L2.St) (H : Hp), xs[i]? = some x → ys[i]? = some y → Pv i σ H → H T = none → g (.ref T) σ (upd H T (.tup [x, y])) fun σ2 H2 => tb ⟨Pv (i + 1), rt, nx, Pv (i + 1)⟩ σ2 H2) (hd : ∀ σ H, Pv xs.length σ H → nx σ H) :
    ZipOf K (.ref a) (.ref b) H (forG g tb ⟨nx, rt, bk, ct⟩ σ) :=
  ⟨a, b, xs, ys, rfl, rfl, .inl ⟨.of ha, .of hb, for_zipL hl Pv h0 (fun i σ H p => ⟨.of (hq i σ H p).1, .of (hq i σ H p).2⟩) hs hd⟩⟩
/-- a list or a tuple -/
def SqK (H : Hp) (a : Addr) (xs : List V) : Prop := H a = some (.lst xs) ∨ H a = some (.tup xs)
theorem SqK.same {H H' : Hp} {a : Addr} {xs : List V} (h : SqK H a xs) (e : Same H H') : SqK H' a xs := h.imp (e _ _) (e _ _)
end Fl

-- after: gen0.tpl
namespace Fl
open PySem PySem.Spec PyProof.Rows L2 RZ
/-! ### zip of a list and a tuple, by what each iterator does -/
/-- an iterator over something that stands at l: where it is, what it gives there -/
structure Stp (it l : Addr) (St : Nat → Heap → Prop) (g : Nat → Option Value) : Prop where
  keep : ∀ {k : Nat} {h h' : Heap}, St k h → (∀ c o, c = it ∨ c = l → h.get? c = some o → h'.get? c = some o) → St k h'
  here : ∀ {k : Nat} {h : Heap}, St k h → ∃ o, h.get? it = some o ∧ ∀ v, o.data ≠ .cell v
  item : ∀ {P : Program} {w : World} {A : Around} {E : Value → Shared → Prop} {s : Shared} {k : Nat} {x : Value} {Q : Value → Shared → Prop}, St k s.heap → g k = some x → (∀ h', St (k + 1) h' → Heap.SameBut it s.heap h' → Q x { s with heap := h' }) → wpAny (model P w) A (Builtin.SmallTypes.nextOf (.ref it)) Q E s
  stop : ∀ {P : Program} {w : World} {A : Around} {E : Value → Shared → Prop} {s : Shared} {k : Nat} {Q : Value → Shared → Prop}, A.handled = none → St k s.heap → g k = none → (∀ h' e, Heap.ExtBut it s.heap h' → (∃ o, h'.get? e = some o ∧ o.cls = .type "StopIteration") → E (.ref e) { s with heap := h' }) →
    wpAny (model P w) A (Builtin.SmallTypes.nextOf (.ref it)) Q E s
theorem stp_l {it l : Addr} {xs : Array Value} (ne : l ≠ it) : Stp it l (fun k h => h.IsListIter it l k ∧ h.IsList l xs) (fun k => xs[k]?) where
  keep := fun ⟨a, b⟩ up => ⟨a.at fun o e => up _ _ (.inl rfl) e, by obtain ⟨o, e, r⟩ := b; exact ⟨o, up _ _ (.inr rfl) e, r⟩⟩
  here := fun ⟨⟨o, e, _, d⟩, _⟩ => ⟨o, e, fun v q => by rw [d] at q; cases q⟩
  item := fun ⟨a, b⟩ e q => wpAny_nextOf_list_item a b e fun h' a' sb => q h' ⟨a', b.extBut sb.extBut ne⟩ sb
  stop := fun hd ⟨a, b⟩ e q => wpAny_nextOf_list_end hd a b e q
theorem stp_t {it l : Addr} {xs : Array Value} (ne : l ≠ it) : Stp it l (fun k h => h.IsTupleIter it l k ∧ h.IsTuple l xs) (fun k => xs[k]?) where
  keep := fun ⟨a, b⟩ up => ⟨a.at fun o e => up _ _ (.inl rfl) e, by obtain ⟨o, e, r⟩ := b; exact ⟨o, up _ _ (.inr rfl) e, r⟩⟩
  here := fun ⟨⟨o, e, _, d⟩, _⟩ => ⟨o, e, fun v q => by rw [d] at q; cases q⟩
  item := fun ⟨a, b⟩ e q => nextOf_tuple_item a b e fun h' a' sb => q h' ⟨a', b.extBut sb.extBut ne⟩ sb
  stop := fun hd ⟨a, b⟩ e q => nextOf_tuple_end hd a b e q
theorem orne {c it l p : Addr} (h : c = it ∨ c = l) (n1 : it ≠ p) (n2 : l ≠ p) : c ≠ p := by
  rcases h with rfl | rfl
  · exact n1
  · exact n2
section
variable {P : Program} {w : World} {A : Around} {E : Value → Shared → Prop} {s : Shared} {zz ti to j1 j2 m1 m2 : Addr} {S1 S2 : Nat → Heap → Prop} {g1 g2 : Nat → Option Value} {k : Nat} {x y a b : Value}
theorem zg_item {Q : Value → Shared → Prop} (D : ZipApart zz ti to j1 j2 m1 m2) (T1 : Stp j1 m1 S1 g1) (T2 : Stp j2 m2 S2 g2) (zp : IsZip s.heap zz ti to .none) (pi : IsPair s.heap ti (.ref j1) (.ref j2)) (po : IsPair s.heap to a b) (c1 : S1 k s.heap) (c2 : S2 k s.heap) (e1 : g1 k = some x) (e2 : g2 k = some y)
    (fin : ∀ h', IsZip h' zz ti to (rawInt s.heap.objs.size) → IsPair h' to x y → S1 (k + 1) h' → S2 (k + 1) h' → IsPair h' s.heap.objs.size x y → (∀ c o, c ≠ zz → c ≠ to → c ≠ j1 → c ≠ j2 → s.heap.get? c = some o → h'.get? c = some o) → Q (.ref s.heap.objs.size) { s with heap := h' }) :
    wpAny (model P w) A (Builtin.«zip.__next__» ⟨[.ref zz], []⟩) (fun f s' => ∃ v, f = .done (.ret v) ∧ Q v s') E s := by
  show wpAny _ _ (field (.ref zz) 2 >>= _) _ _ _
  refine wpAny_bind (wpAny_field zp rfl (x := .bool false) rfl ?_)
  show wpAny _ _ (field (.ref zz) 3 >>= _) _ _ _
  refine wpAny_bind (wpAny_field zp rfl (x := .ref ti) rfl ?_)
  refine wpAny_bind (wpAny_seqItems pi rfl ?_)
  show wpAny _ _ (Builtin.SmallTypes.ownedTupleIsFree (.ref zz) >>= _) _ _ _
  refine wpAny_bind ?_
  delta Builtin.SmallTypes.ownedTupleIsFree
  refine wpAny_bind (wpAny_field zp rfl (x := .none) rfl (wpAny_pure ?_))
  rw [if_pos rfl]
  refine wpAny_bind (wpAny_rule ?_)
  refine wpAny_bind (wpAny_field zp rfl (x := .ref to) rfl ?_)
  refine wpAny_bind (wpAny_setField_rec zp (by simp) fun ha za sa => ?_)
  have za : IsZip ha zz ti to .ellipsis := za
  have ua := sa.extBut
  refine wpAny_bind ?_
  simp only [List.forIn_cons, List.forIn_nil, List.zipIdx_cons, List.zipIdx_nil]
  have c1a : S1 k ha := T1.keep c1 fun c o hc e => ua c o (orne hc D.i1z D.l1z) e
  have c2a : S2 k ha := T2.keep c2 fun c o hc e => ua c o (orne hc D.i2z D.l2z) e
  have poa : IsPair ha to a b := ua _ _ D.TOz po
  refine wpAny_bind (wpAny_bind ((wpAny_onRaise ?_)))
  show wpAny _ _ (Builtin.SmallTypes.nextOf (.ref j1) >>= _) _ _ _
  refine wpAny_bind (T1.item (s := { s with heap := ha }) c1a e1 fun hb c1b sb => wpAny_pure ?_)
  have ub := Heap.SameBut.extBut sb
  have pob : IsPair hb to a b := ub _ _ D.TOi1 poa
  have c2b : S2 k hb := T2.keep c2a fun c o hc e => ub c o (orne hc D.i12.symm D.l2i1) e
  refine wpAny_bind (wpAny_seqItems pob rfl ?_)
  refine wpAny_bind (wpAny_updateSeq_pair pob fun hc poc sc => ?_)
  have poc : IsPair hc to x b := poc
  have uc := Heap.SameBut.extBut sc
  have c1c : S1 (k + 1) hc := T1.keep c1b fun c o h e => uc c o (orne h D.TOi1.symm D.l1TO) e
  have c2c : S2 k hc := T2.keep c2b fun c o h e => uc c o (orne h D.TOi2.symm D.l2TO) e
  refine wpAny_bind ((wpAny_letGo (wpAny_pure ?_)))
  refine wpAny_bind (wpAny_bind ((wpAny_onRaise ?_)))
  show wpAny _ _ (Builtin.SmallTypes.nextOf (.ref j2) >>= _) _ _ _
  refine wpAny_bind (T2.item (s := { s with heap := hc }) c2c e2 fun hd c2d sd => wpAny_pure ?_)
  have ud := Heap.SameBut.extBut sd
  have pod : IsPair hd to x b := ud _ _ D.TOi2 poc
  have c1d : S1 (k + 1) hd := T1.keep c1c fun c o h e => ud c o (orne h D.i12 D.l1i2) e
  refine wpAny_bind (wpAny_seqItems pod rfl ?_)
  refine wpAny_bind (wpAny_updateSeq_pair pod fun he poe se => ?_)
  have poe : IsPair he to x y := poe
  have ue := Heap.SameBut.extBut se
  have c1e : S1 (k + 1) he := T1.keep c1d fun c o h e => ue c o (orne h D.TOi1.symm D.l1TO) e
  have c2e : S2 (k + 1) he := T2.keep c2d fun c o h e => ue c o (orne h D.TOi2.symm D.l2TO) e
  refine wpAny_bind ((wpAny_letGo (wpAny_pure (wpAny_pure ?_))))
  refine wpAny_bind (wpAny_seqItems poe rfl ?_)
  refine wpAny_bind ((wpAny_newTuple ?_))
  have size : he.objs.size = s.heap.objs.size := by rw [se.1, sd.1, sc.1, sb.1, sa.1]
  have ze : IsZip he zz ti to .ellipsis := ue _ _ D.TOz.symm (ud _ _ D.i2z.symm (uc _ _ D.TOz.symm (ub _ _ D.i1z.symm za)))
  have kept : ∀ c o, c ≠ zz → c ≠ to → c ≠ j1 → c ≠ j2 → s.heap.get? c = some o → he.get? c = some o := fun c o n1 n2 n3 n4 e => ue _ _ n2 (ud _ _ n4 (uc _ _ n2 (ub _ _ n3 (ua _ _ n1 e))))
  have zlt := Heap.lt_size ze
  show wpAny _ _ (Builtin.SmallTypes.ownedTupleHandOut (.ref zz) (.ref he.objs.size) >>= _) _ _ _
  refine wpAny_bind ?_
  delta Builtin.SmallTypes.ownedTupleHandOut
  have zf : IsZip (he.push { cls := .type "tuple", data := .seq #[x, y] }) zz ti to .ellipsis := Heap.get?_push_of_some _ ze
  refine wpAny_bind (wpAny_setField_rec zf (by simp) fun hg zg sg => ?_)
  have zg : IsZip hg zz ti to (rawInt he.objs.size) := zg
  refine wpAny_setField_rec zg (by simp) fun hi zi si => wpAny_pure ⟨_, rfl, ?_⟩
  have zi : IsZip hi zz ti to (rawInt he.objs.size) := zi
  have up : ∀ c o, c ≠ zz → he.get? c = some o → hi.get? c = some o := fun c o n e => Heap.SameBut.extBut si _ _ n (Heap.SameBut.extBut sg _ _ n (Heap.get?_push_of_some _ e))
  have new : IsPair hi he.objs.size x y := Heap.SameBut.extBut si _ _ (Nat.ne_of_gt zlt) (Heap.SameBut.extBut sg _ _ (Nat.ne_of_gt zlt) (Heap.get?_push_size _ rfl))
  rw [size] at zi new
  show Q (.ref he.objs.size) _
  rw [size]
  exact fin hi zi (up _ _ D.TOz poe) (T1.keep c1e fun c o h e => up c o (orne h D.i1z D.l1z) e) (T2.keep c2e fun c o h e => up c o (orne h D.i2z D.l2z) e) new fun c o n1 n2 n3 n4 e => up c o n1 (kept c o n1 n2 n3 n4 e)
theorem zg_end {Q : Fin → Shared → Prop} (cool : A.handled = none) (D : ZipApart zz ti to j1 j2 m1 m2) (T1 : Stp j1 m1 S1 g1) (T2 : Stp j2 m2 S2 g2) (zp : IsZip s.heap zz ti to .none) (pi : IsPair s.heap ti (.ref j1) (.ref j2)) (po : IsPair s.heap to a b) (c1 : S1 k s.heap) (c2 : S2 k s.heap) (no : g1 k = none ∨ g2 k = none)
    (fin : ∀ h' e, (∀ c o, c ≠ zz → c ≠ to → c ≠ j1 → c ≠ j2 → s.heap.get? c = some o → h'.get? c = some o) → (∃ o, h'.get? e = some o ∧ o.cls = .type "StopIteration") → E (.ref e) { s with heap := h' }) :
    wpAny (model P w) A (Builtin.«zip.__next__» ⟨[.ref zz], []⟩) Q E s := by
  show wpAny _ _ (field (.ref zz) 2 >>= _) _ _ _
  refine wpAny_bind (wpAny_field zp rfl (x := .bool false) rfl ?_)
  show wpAny _ _ (field (.ref zz) 3 >>= _) _ _ _
  refine wpAny_bind (wpAny_field zp rfl (x := .ref ti) rfl ?_)
  refine wpAny_bind (wpAny_seqItems pi rfl ?_)
  show wpAny _ _ (Builtin.SmallTypes.ownedTupleIsFree (.ref zz) >>= _) _ _ _
  refine wpAny_bind ?_
  delta Builtin.SmallTypes.ownedTupleIsFree
  refine wpAny_bind (wpAny_field zp rfl (x := .none) rfl (wpAny_pure ?_))
  rw [if_pos rfl]
  refine wpAny_bind (wpAny_rule ?_)
  refine wpAny_bind (wpAny_field zp rfl (x := .ref to) rfl ?_)
  refine wpAny_bind (wpAny_setField_rec zp (by simp) fun ha za sa => ?_)
  have za : IsZip ha zz ti to .ellipsis := za
  have ua := sa.extBut
  refine wpAny_bind ?_
  simp only [List.forIn_cons, List.forIn_nil, List.zipIdx_cons, List.zipIdx_nil]
  have c1a : S1 k ha := T1.keep c1 fun c o hc e => ua c o (orne hc D.i1z D.l1z) e
  have c2a : S2 k ha := T2.keep c2 fun c o hc e => ua c o (orne hc D.i2z D.l2z) e
  have poa : IsPair ha to a b := ua _ _ D.TOz po
  refine wpAny_bind (wpAny_bind ((wpAny_onRaise ?_)))
  show wpAny _ _ (Builtin.SmallTypes.nextOf (.ref j1) >>= _) _ _ _
  cases e1 : g1 k with
  | none =>
    refine wpAny_bind (T1.stop (s := { s with heap := ha }) cool c1a e1 fun hb e ub ho => ?_)
    obtain ⟨oe, he, hc⟩ := ho
    have zb : IsZip hb zz ti to .ellipsis := ub _ _ D.i1z.symm za
    have ne : e ≠ zz := fun q => by
      rw [q, zb] at he
      cases he
      simp at hc
    exact wpAny_setField_rec zb (by simp) fun hd _ sd => fin hd e (fun c o n1 _ n3 _ q => Heap.SameBut.extBut sd _ _ n1 (ub _ _ n3 (ua _ _ n1 q))) ⟨oe, Heap.SameBut.extBut sd _ _ ne he, hc⟩
  | some x =>
    have e2 : g2 k = none := no.resolve_left fun q => by rw [e1] at q; cases q
    refine wpAny_bind (T1.item (s := { s with heap := ha }) c1a e1 fun hb c1b sb => wpAny_pure ?_)
    have ub := Heap.SameBut.extBut sb
    have pob : IsPair hb to a b := ub _ _ D.TOi1 poa
    have c2b : S2 k hb := T2.keep c2a fun c o hc e => ub c o (orne hc D.i12.symm D.l2i1) e
    refine wpAny_bind (wpAny_seqItems pob rfl ?_)
    refine wpAny_bind (wpAny_updateSeq_pair pob fun hc poc sc => ?_)
    have uc := Heap.SameBut.extBut sc
    have c2c : S2 k hc := T2.keep c2b fun c o h e => uc c o (orne h D.TOi2.symm D.l2TO) e
    refine wpAny_bind ((wpAny_letGo (wpAny_pure ?_)))
    refine wpAny_bind (wpAny_bind ((wpAny_onRaise ?_)))
    show wpAny _ _ (Builtin.SmallTypes.nextOf (.ref j2) >>= _) _ _ _
    refine wpAny_bind (T2.stop (s := { s with heap := hc }) cool c2c e2 fun hd e ud ho => ?_)
    obtain ⟨oe, he, hcl⟩ := ho
    have zd : IsZip hd zz ti to .ellipsis := ud _ _ D.i2z.symm (uc _ _ D.TOz.symm (ub _ _ D.i1z.symm za))
    have ne : e ≠ zz := fun q => by
      rw [q, zd] at he
      cases he
      simp at hcl
    exact wpAny_setField_rec zd (by simp) fun hf _ sf => fin hf e (fun c o n1 n2 n3 n4 q => Heap.SameBut.extBut sf _ _ n1 (ud _ _ n4 (uc _ _ n2 (ub _ _ n3 (ua _ _ n1 q))))) ⟨oe, Heap.SameBut.extBut sf _ _ ne he, hcl⟩
theorem zg_next {Q : Option Value → Shared → Prop} (D : ZipApart zz ti to j1 j2 m1 m2) (T1 : Stp j1 m1 S1 g1) (T2 : Stp j2 m2 S2 g2) (zp : IsZip s.heap zz ti to .none) (pi : IsPair s.heap ti (.ref j1) (.ref j2)) (po : IsPair s.heap to a b) (c1 : S1 k s.heap) (c2 : S2 k s.heap) (e1 : g1 k = some x) (e2 : g2 k = some y)
    (fin : ∀ h', IsZip h' zz ti to (rawInt s.heap.objs.size) → IsPair h' to x y → S1 (k + 1) h' → S2 (k + 1) h' → IsPair h' s.heap.objs.size x y → (∀ c o, c ≠ zz → c ≠ to → c ≠ j1 → c ≠ j2 → s.heap.get? c = some o → h'.get? c = some o) → Q (some (.ref s.heap.objs.size)) { s with heap := h' }) :
    wpAny (model P w) A (pyNext (.ref zz)) Q E s := by
  have ty : s.TypeIs (.ref zz) "zip" := ⟨_, zp, rfl⟩
  delta pyNext
  exact wpAny_bind (wpAny_attempt (wpAny_callSpecial?_slot (name := Str.ofString "__next__") ty F.slot_zip_next (wpAny_call_entry F.slot_zip_next ty F.entry_zip_next
    (zg_item D T1 T2 zp pi po c1 c2 e1 e2 fun h' a1 a2 a3 a4 a5 a6 => wpAny_pure (fin h' a1 a2 a3 a4 a5 a6)) (F.args_zip_next_1 _))))
theorem zg_last {Q : Option Value → Shared → Prop} (cool : A.handled = none) (D : ZipApart zz ti to j1 j2 m1 m2) (T1 : Stp j1 m1 S1 g1) (T2 : Stp j2 m2 S2 g2) (zp : IsZip s.heap zz ti to .none) (pi : IsPair s.heap ti (.ref j1) (.ref j2)) (po : IsPair s.heap to a b) (c1 : S1 k s.heap) (c2 : S2 k s.heap) (no : g1 k = none ∨ g2 k = none)
    (fin : ∀ h', (∀ c o, c ≠ zz → c ≠ to → c ≠ j1 → c ≠ j2 → s.heap.get? c = some o → h'.get? c = some o) → Q none { s with heap := h' }) : wpAny (model P w) A (pyNext (.ref zz)) Q E s := by
  have ty : s.TypeIs (.ref zz) "zip" := ⟨_, zp, rfl⟩
  delta pyNext
  refine wpAny_bind (wpAny_attempt (wpAny_callSpecial?_slot (name := Str.ofString "__next__") ty F.slot_zip_next (wpAny_call_entry F.slot_zip_next ty F.entry_zip_next (zg_end cool D T1 T2 zp pi po c1 c2 no fun h' e kept ho => ?_) (F.args_zip_next_1 _))))
  obtain ⟨o, he, hc⟩ := ho
  exact wpAny_bind (wpAny_isInstance (T := "StopIteration") (b := true) ⟨o, he, hc⟩ isSubtype_stop (wpAny_pure (fin _ kept)))
end
end Fl

-- after: zlt.tpl
namespace Fl
open PySem PySem.Spec PyProof.Rows L2 RZ
/-! ### zip(list, tuple): made, walked -/
abbrev zlA (h : Heap) (l : Addr) : Heap := h.push { cls := .type "list_iterator", data := .fields #[.ref l, .int 0 0] }
abbrev zlB (h : Heap) (l t : Addr) : Heap := (zlA h l).push { cls := .type "tuple_iterator", data := .fields #[.ref t, .int 0 0] }
abbrev zlC (h : Heap) (l t : Addr) : Heap := (zlB h l t).push { cls := .type "tuple", data := .seq #[.ref h.objs.size, .ref (zlA h l).objs.size] }
abbrev zlD (h : Heap) (l t : Addr) : Heap := (zlC h l t).push { cls := .type "tuple", data := .seq #[.none, .none] }
abbrev zlE (h : Heap) (l t : Addr) : Heap := (zlD h l t).push { cls := .type "zip", data := .fields #[.none, .bool false, .bool false, .ref (zlB h l t).objs.size, .ref (zlC h l t).objs.size] }
theorem meets_zl (l t : Addr) (xs ys : Array Value) : Meets (Builtin.«zip.__new__» ⟨[.type "zip", .ref l, .ref t], []⟩) (fun _ R s => s.heap.IsList l xs ∧ s.heap.IsTuple t ys ∧ R (.ok (.ret (.ref (zlD s.heap l t).objs.size))) { s with heap := zlE s.heap l t }) :=
  .of_wp fun prog w A R s h => by
    obtain ⟨hp, g, d, tk, os⟩ := s; obtain ⟨il, it, h⟩ := h
    have hsub := sub_zip
    have q1 : Heap.IsList (Shared.heap ⟨hp, g, d, tk, os⟩) l xs := il
    have q2 : Heap.IsTuple (Shared.heap ⟨hp.push { cls := .type "list_iterator", data := .fields #[.ref l, .int 0 0] }, g, d, tk, os⟩) t ys := Heap.IsTuple.push it _
    wp_walk using wpAny_pyIter_list q1, wpAny_pyIter_tuple q2
    exact ⟨_, rfl, h⟩
section
variable {P : Program} {w : World} {A : Around} {E : Value → Shared → Prop} {s : Shared}
theorem call_zl {l t : Addr} {xs ys : Array Value} {Q : Value → Shared → Prop} (il : s.heap.IsList l xs) (it : s.heap.IsTuple t ys)
    (fin : ∀ h', IsZip h' (s.heap.objs.size + 4) (s.heap.objs.size + 2) (s.heap.objs.size + 3) .none → IsPair h' (s.heap.objs.size + 2) (.ref s.heap.objs.size) (.ref (s.heap.objs.size + 1)) → IsPair h' (s.heap.objs.size + 3) .none .none → h'.IsListIter s.heap.objs.size l 0 → h'.IsTupleIter (s.heap.objs.size + 1) t 0 →
      (∀ c o, s.heap.get? c = some o → h'.get? c = some o) → Q (.ref (s.heap.objs.size + 4)) { s with heap := h' }) : wpAny (model P w) A (call (.type "zip") [.ref l, .ref t]) Q E s := by
  refine callType_new F.called_zip (by decide) (F.typeCall_zip_2 _ _) (F.newCall_zip_2 _ _) (fun obj => F.args_object_init_3 obj _ _) F.entry_zip_new (meets_zl l t xs ys) ⟨il, it, ?_⟩
  have n1 : (zlA s.heap l).objs.size = s.heap.objs.size + 1 := Heap.size_push ..
  have n2 : (zlB s.heap l t).objs.size = s.heap.objs.size + 2 := by rw [Heap.size_push, n1]
  have n3 : (zlC s.heap l t).objs.size = s.heap.objs.size + 3 := by rw [Heap.size_push, n2]
  have n4 : (zlD s.heap l t).objs.size = s.heap.objs.size + 4 := by rw [Heap.size_push, n3]
  have p5 : (zlE s.heap l t).get? (zlD s.heap l t).objs.size = some _ := Heap.get?_push_size _ rfl
  have p4 : (zlE s.heap l t).get? (zlC s.heap l t).objs.size = some _ := Heap.get?_push_of_some _ (Heap.get?_push_size _ rfl)
  have p3 : (zlE s.heap l t).get? (zlB s.heap l t).objs.size = some _ := Heap.get?_push_of_some _ (Heap.get?_push_of_some _ (Heap.get?_push_size _ rfl))
  have p2 : (zlE s.heap l t).get? (zlA s.heap l).objs.size = some _ := Heap.get?_push_of_some _ (Heap.get?_push_of_some _ (Heap.get?_push_of_some _ (Heap.get?_push_size _ rfl)))
  have p1 : (zlE s.heap l t).get? s.heap.objs.size = some _ := Heap.get?_push_of_some _ (Heap.get?_push_of_some _ (Heap.get?_push_of_some _ (Heap.get?_push_of_some _ (Heap.get?_push_size _ rfl))))
  rw [n2, n3, n4] at p5
  rw [n1, n2] at p3
  rw [n3] at p4
  rw [n1] at p2
  rw [n4]
  exact ⟨⟨_, p5, rfl⟩, fin _ p5 p3 p4 ⟨_, p1, rfl, rfl⟩ ⟨_, p2, rfl, rfl⟩ fun c o q => Heap.get?_push_of_some _ (Heap.get?_push_of_some _ (Heap.get?_push_of_some _ (Heap.get?_push_of_some _ (Heap.get?_push_of_some _ q))))⟩
end
/-- the list at a, the tuple at b, as they stand at each turn -/
def Izl (K : PySem.W.Frag) (a b : Addr) : It :=
  ⟨fun i H => ∃ (xs ys : List V) (x y : V), SqL K H a xs ∧ SqT K H b ys ∧ xs[i]? = some x ∧ ys[i]? = some y,
    fun i H v H' => ∃ T x y, v = .ref T ∧ H T = none ∧ H' = upd H T (.tup [x, y]) ∧ (∀ xs, SqL K H a xs → xs[i]? = some x) ∧ ∀ ys, SqT K H b ys → ys[i]? = some y,
    fun i H => ∃ xs ys : List V, SqL K H a xs ∧ SqT K H b ys ∧ (xs.length ≤ i ∨ ys.length ≤ i)⟩
theorem five {c z ti to j1 j2 : Addr} (h : c ∈ [z, ti, to, j1, j2]) : c = z ∨ c = ti ∨ c = to ∨ c = j1 ∨ c = j2 := by simpa using h
theorem five_ne {c z ti to j1 j2 : Addr} (h : c ∉ [z, ti, to, j1, j2]) : c ≠ z ∧ c ≠ to ∧ c ≠ j1 ∧ c ≠ j2 := by
  simp only [List.mem_cons, List.not_mem_nil, or_false, not_or] at h
  exact ⟨h.1, h.2.2.1, h.2.2.2.1, h.2.2.2.2⟩
theorem turn_zl {P : Program} {w : World} {K : PySem.W.Frag} {es : List Expr} {kk : Nat} {tp : Pos} {a b z ti to j1 j2 : Addr} (D : ZipApart z ti to j1 j2 a b) :
    Turn P w K (.Tuple es kk tp) (Izl K a b) [z, ti, to, j1, j2] z (fun i h => IsZip h z ti to .none ∧ IsPair h ti (.ref j1) (.ref j2) ∧ (∃ x y, IsPair h to x y) ∧ h.IsListIter j1 a i ∧ h.IsTupleIter j2 b i) where
  mem := List.mem_cons_self
  obj := fun i h ⟨zp, pi, ⟨x, y, po⟩, ⟨o1, e1, _, d1⟩, ⟨o2, e2, _, d2⟩⟩ c hc => by
    rcases five hc with rfl | rfl | rfl | rfl | rfl
    · exact ⟨_, zp, fun v q => nomatch q⟩
    · exact ⟨_, pi, fun v q => nomatch q⟩
    · exact ⟨_, po, fun v q => nomatch q⟩
    · exact ⟨o1, e1, fun v q => by rw [d1] at q; cases q⟩
    · exact ⟨o2, e2, fun v q => by rw [d2] at q; cases q⟩
  keep := fun i h h' ⟨zp, pi, ⟨x, y, po⟩, a1, a2⟩ up => ⟨up z (by simp) _ zp, up ti (by simp) _ pi, ⟨x, y, up to (by simp) _ po⟩, a1.at fun o q => up j1 (by simp) o q, a2.at fun o q => up j2 (by simp) o q⟩
  item := by
    intro X hP hw hK cool i pins s σ H E I fp ⟨zp, pi, ⟨x0, y0, po⟩, a1, a2⟩ ⟨xs, ys, x, y, sx, sy, ex, ey⟩
    subst hP hw hK
    obtain ⟨us, rv1, p1, _⟩ := I.list sx
    obtain ⟨ws, rv2, p2, _⟩ := I.tuple sy
    obtain ⟨u1, eu1, r1⟩ := rv1.get ex
    obtain ⟨u2, eu2, r2⟩ := rv2.get ey
    have zlt := Heap.lt_size zp
    refine zg_next D (stp_l (xs := us.toArray) D.l1i1) (stp_t (xs := ws.toArray) D.l2i2) zp pi po ⟨a1, p1.isList⟩ ⟨a2, p2⟩ (x := u1) (y := u2) (by simpa using eu1) (by simpa using eu2) fun h' z' o' b1 b2 new kept => ?_
    refine ⟨_, rfl, wpAny_letOwnedTupleGo_zip (s := { s with heap := h' }) z' fun h2 z2 sb => ?_⟩
    have T2 : h2.get? s.heap.objs.size = some { cls := .type "tuple", data := .seq #[u1, u2] } := (sb.2 _ (Nat.ne_of_gt zlt)).trans new
    have ok2 : ObjOk X.prog X.w (upd H s.heap.objs.size (.tup [x, y])) h2 s.heap.objs.size (.tup [x, y]) := ⟨by show 2 ≤ sizeLine; decide, [u1, u2], .cons r1 (.cons r2 .nil), ⟨_, T2, rfl, _, rfl⟩⟩
    have I2 : Inv X pins σ (upd H s.heap.objs.size (.tup [x, y])) { s with heap := h2 } := I.turnedNew (t' := s.toks) (ch := [z, ti, to, j1, j2]) (fun c o hb q => (sb.2 c (five_ne hb).1).trans (kept c o (five_ne hb).1 (five_ne hb).2.1 (five_ne hb).2.2.1 (five_ne hb).2.2.2 q)) fp (Nat.le_refl _) ok2
    have old : ∀ c o, c ∈ [z, ti, to, j1, j2] → s.heap.get? c = some o → c < s.heap.objs.size := fun c o _ e => Heap.lt_size e
    refine ⟨.ref s.heap.objs.size, _, I2, rfl, ⟨_, x, y, rfl, I.hok.fresh (Nat.le_refl _), rfl, fun l hl => by rw [I.list_inj hl sx]; exact ex, fun l hl => by rw [I.tuple_inj hl sy]; exact ey⟩, ⟨z2, (sb.2 _ D.TIz).trans (kept _ _ D.TIz D.TITO D.TIi1 D.TIi2 pi), ⟨u1, u2, (sb.2 _ D.TOz).trans o'⟩, b1.1.at fun o q => (sb.2 _ D.i1z).trans q, b2.1.at fun o q => (sb.2 _ D.i2z).trans q⟩, fun c hc => ?_⟩
    have lt : c < s.heap.objs.size := by
      rcases five hc with rfl | rfl | rfl | rfl | rfl
      · exact zlt
      · exact Heap.lt_size pi
      · exact Heap.lt_size po
      · obtain ⟨_, e, _⟩ := a1; exact Heap.lt_size e
      · obtain ⟨_, e, _⟩ := a2; exact Heap.lt_size e
    rw [upd_ne (Nat.ne_of_lt lt)]
    exact (fp c hc).1
  done := by
    intro X hP hw hK cool i pins s σ H E I fp ⟨zp, pi, ⟨x0, y0, po⟩, a1, a2⟩ ⟨xs, ys, sx, sy, no⟩
    subst hP hw hK
    obtain ⟨us, rv1, p1, _⟩ := I.list sx
    obtain ⟨ws, rv2, p2, _⟩ := I.tuple sy
    have l1 := rv1.length
    have l2 := rv2.length
    have no' : us.toArray[i]? = none ∨ ws.toArray[i]? = none := no.imp (fun q => by simp; omega) (fun q => by simp; omega)
    exact zg_last (I.ok.hd cool) D (stp_l (xs := us.toArray) D.l1i1) (stp_t (xs := ws.toArray) D.l2i2) zp pi po ⟨a1, p1.isList⟩ ⟨a2, p2⟩ no' fun h' kept => ⟨rfl, I.turnedL (t' := s.toks) (ch := [z, ti, to, j1, j2]) (fun c o hb q => kept c o (five_ne hb).1 (five_ne hb).2.1 (five_ne hb).2.2.1 (five_ne hb).2.2.2 q) fp⟩
  self := fun A i s Q E st q => wpAny_pyIter_zip st.1 q
/-- zip of two lists, or of a list and a tuple -/
def iZip3 (K : PySem.W.Frag) (ta : TA) : L2.TI := fun σ H R => ta σ H fun vs H1 => ∃ a b xs ys, vs = [.ref a, .ref b] ∧ ((SqL K H1 a xs ∧ SqL K H1 b ys ∧ R (Itz K a b) H1) ∨ (SqL K H1 a xs ∧ SqT K H1 b ys ∧ R (Izl K a b) H1))
theorem pi_zip3 {X : L2.Cx} {e e2 : Expr} {ta : TA} {p pos tp : Pos} {es : List Expr} {kk : Nat} (hg : Gl X "zip") (hm : X.mg "zip" = none) (ha : PA X [e, e2] ta)
    (hs : starEach [e, e2] X.env = (false, eval e X.env) :: starEach [e2] X.env := by rfl) (hpl : (backTo pos (starEach [e2] X.env)).any (·.1) = false := by rfl) :
    PI X (.Tuple es kk tp) (.Call (.Name "zip" p) [e, e2] [] pos) (iZip3 X.K ta) := by
  refine ⟨fun pins s σ H R I h => Call_ (ld_blt I hg hm PyProof.Rows.boot_zip (PyProof.Rows.callWith_type1 (thn (ha.run pos pins s σ H _ I h) fun us s1 ⟨vs, H1, J, rv, q⟩ => ?_) hs hpl))⟩
  obtain ⟨a, b, xs, ys, rfl, q⟩ := q
  obtain ⟨u1, u2, rfl, r1, r2⟩ := vals2 rv
  cases r1
  cases r2
  have free : ∀ c, c ∈ [s1.heap.objs.size + 4, s1.heap.objs.size + 2, s1.heap.objs.size + 3, s1.heap.objs.size, s1.heap.objs.size + 1] → FpOk X pins H1 c := fun c hc => by
    have le : s1.heap.objs.size ≤ c := by rcases five hc with rfl | rfl | rfl | rfl | rfl <;> omega
    exact J.fpOk le (J.hok.fresh le)
  rcases q with ⟨sx, sy, q⟩ | ⟨sx, sy, q⟩
  · obtain ⟨us, _, p1, _⟩ := J.list sx
    obtain ⟨ws, _, p2, _⟩ := J.list sy
    refine call_zip_2 p1.isList p2.isList fun h' zp pi po a1 a2 _ up => wpAny_pyIter_zip zp ?_
    exact ⟨_, [s1.heap.objs.size + 4, s1.heap.objs.size + 2, s1.heap.objs.size + 3, s1.heap.objs.size, s1.heap.objs.size + 1], _, _, H1, rfl, J.kept (t' := s1.toks) up, turn_zip (PySem.W.ktu_apart s1.heap.objs.size a b p1.lt p2.lt), ⟨zp, pi, ⟨_, _, po⟩, a1, a2⟩, free, q⟩
  · obtain ⟨us, _, p1, _⟩ := J.list sx
    obtain ⟨ws, _, p2, _⟩ := J.tuple sy
    obtain ⟨o2, e2, _⟩ := id p2
    refine call_zl p1.isList (show s1.heap.IsTuple b ws.toArray from p2) fun h' zp pi po a1 a2 up => wpAny_pyIter_zip zp ?_
    exact ⟨_, [s1.heap.objs.size + 4, s1.heap.objs.size + 2, s1.heap.objs.size + 3, s1.heap.objs.size, s1.heap.objs.size + 1], _, _, H1, rfl, J.kept (t' := s1.toks) up, turn_zl (PySem.W.ktu_apart s1.heap.objs.size a b p1.lt (Heap.lt_size e2)), ⟨zp, pi, ⟨_, _, po⟩, a1, a2⟩, free, q⟩
theorem k_zip3 (K : PySem.W.Frag) {X : L2.Cx} (h : X.K = K) {e e2 : Expr} {ta : TA} {p pos tpos : Pos} {elts : List Expr} {kk : Nat} (hg : Gl X "zip") (hm : X.mg "zip" = none) (ha : PA X [e, e2] ta)
    (hs : starEach [e, e2] X.env = (false, eval e X.env) :: starEach [e2] X.env := by rfl) (hpl : (backTo pos (starEach [e2] X.env)).any (·.1) = false := by rfl) :
    PI X (.Tuple elts kk tpos) (.Call (.Name "zip" p) [e, e2] [] pos) (iZip3 K ta) := by subst h; exact pi_zip3 hg hm ha hs hpl
end Fl

-- after: va4.tpl zlt2.tpl
namespace Fl
open PySem PySem.Spec PyProof.Rows L2 RZ
/-! ### history, the choices in a list or in a tuple -/
def Zip3 (K : PySem.W.Frag) (x y : V) (H : Hp) (R : It → Hp → Prop) : Prop := ∃ a b xs ys, x = .ref a ∧ y = .ref b ∧ ((SqL K H a xs ∧ SqL K H b ys ∧ R (Itz K a b) H) ∨ (SqL K H a xs ∧ SqT K H b ys ∧ R (Izl K a b) H))
section
variable {σ : L2.St} {H : Hp} {K : PySem.W.Frag}
instance {ta : TA} {R : It → Hp → Prop} : Step (iZip3 K ta σ H R) (ta σ H fun vs H1 => ∃ v w, vs = [v, w] ∧ Zip3 K v w H1 R) := ⟨fun h => by
  have e : (fun (vs : List V) (H1 : Hp) => ∃ v w, vs = [v, w] ∧ Zip3 K v w H1 R) = (fun vs H1 => ∃ a b xs ys, vs = [.ref a, .ref b] ∧ ((SqL K H1 a xs ∧ SqL K H1 b ys ∧ R (Itz K a b) H1) ∨ (SqL K H1 a xs ∧ SqT K H1 b ys ∧ R (Izl K a b) H1))) := by
    funext vs H1
    exact propext ⟨fun ⟨v, w, e, a, b, xs, ys, e1, e2, r⟩ => ⟨a, b, xs, ys, by rw [e, e1, e2], r⟩, fun ⟨a, b, xs, ys, e, r⟩ => ⟨_, _, e, a, b, xs, ys, rfl, rfl, r⟩⟩
  show ta σ H _
  rw [← e]
  exact h⟩
end
theorem forz3 {K : PySem.W.Frag} {a b : Addr} {xs ys : List V} {g : TG} {tb : TS} {nx bk ct : L2.St → Hp → Prop} {rt : VK} {σ : L2.St} {H : Hp} (Pv : Nat → L2.St → Hp → Prop) (ha : H a = some (.lst xs)) (hb : SqK H b ys) (hl : xs.length = ys.length) (h0 : Pv 0 σ H) (hq : ∀ i σ H', Pv i σ H' → H' a = some (.lst xs) ∧ ∀ o, H b = some o → H' b = some o)
    (hs : ∀ (i : Nat) (x y : V) (T : Addr) (σ : L2.St) (H : Hp), xs[i]? = some x → ys[i]? = some y → Pv i σ H → H T = none → g (.ref T) σ (upd H T (.tup [x, y])) fun σ2 H2 => tb ⟨Pv (i + 1), rt, nx, Pv (i + 1)⟩ σ2 H2) (hd : ∀ σ H, Pv xs.length σ H → nx σ H) :
    Zip3 K (.ref a) (.ref b) H (forG g tb ⟨nx, rt, bk, ct⟩ σ) := by
  rcases hb with hb | hb
  · exact ⟨a, b, xs, ys, rfl, rfl, .inl ⟨.of ha, .of hb, for_zipL hl Pv h0 (fun i σ H p => ⟨.of (hq i σ H p).1, .of ((hq i σ H p).2 _ hb)⟩) hs hd⟩⟩
  refine ⟨a, b, xs, ys, rfl, rfl, .inr ⟨.of ha, .of hb, fun i m σ H => m = xs.length - i ∧ i ≤ xs.length ∧ Pv i σ H, ⟨xs.length, rfl, Nat.zero_le _, h0⟩, ?_⟩⟩
  rintro i m σ H' ⟨rfl, le, pv⟩
  have sx : SqL K H' a xs := .of (hq i σ H' pv).1
  have sy : SqT K H' b ys := .of ((hq i σ H' pv).2 _ hb)
  rcases Nat.lt_or_ge i xs.length with lt | ge
  · have ex := List.getElem?_eq_getElem lt
    have ey : ys[i]? = some (ys[i]'(by omega)) := List.getElem?_eq_getElem (by omega)
    refine .inr ⟨⟨xs, ys, _, _, sx, sy, ex, ey⟩, Pv (i + 1), fun σ2 H2 p2 => ⟨_, Nat.sub_lt_sub_left lt (Nat.lt_succ_self i), rfl, lt, p2⟩, fun v H2 yv => ?_⟩
    obtain ⟨T, x, y, rfl, fT, rfl, k1, k2⟩ := yv
    exact hs i x y T σ H' (k1 _ sx) (k2 _ sy) pv fT
  · have e : i = xs.length := by omega
    subst e
    exact .inl ⟨⟨xs, ys, sx, sy, .inl (Nat.le_refl _)⟩, hd σ H' pv⟩
section
variable {P : Program} {w : World} {K : PySem.W.Frag} {mg : Str → Option Value} {base : Heap}
abbrev s_history : Stmt := topS 44
theorem sc_history : FnScope ["form", "years", "taken", "found", "earlier", "pairs", "choices"] ["form", "years", "taken"] (defScope s_history) := ⟨rfl, rfl, rfl, by decide +kernel, rfl, by decide +kernel, by decide +kernel⟩
def sp_history : Sp3 := fun a b c H Q _ => ∃ (F : Frm) (y : Addr) (yv : List V) (pss : List (List (Str × Int))) (k : Addr) (kv : List V) (tks : List (List Bool)), F.Ok 40 ∧ At H F.d a ∧ b = .ref y ∧ H y = some (.lst yv) ∧ PapsAt H yv pss ∧
  c = .ref k ∧ SqK H k kv ∧ TksAt H kv tks F.C ∧ pss.length = tks.length ∧ pss.length ≤ 20 ∧
  ∀ p H' hv, Same H H' → H p = none → H' p = some (.lst hv) → RowsAt H' hv pss.length (fun i => F.hy pss tks (i + 1)) → (∀ l, V.ref l ∈ hv → H l = none) → hv.Nodup → Q (.ref p) H'
/-- a year that is none -/
def YearBad (H : Hp) (F : Frm) (CP CC : Addr) (E : XK) (u z : V) : Prop := (PapBad H u ∧ ∀ H', Same H H' → E (.ref CP) none H') ∨
  ∃ (l : Addr) (vs : List V) (ps : List (Str × Int)) (k : Addr) (tk : List Bool), u = .ref l ∧ H l = some (.lst vs) ∧ AtAll H (ps.map prD) vs ∧ PapOk ps ∧ z = .ref k ∧ BoolsAt H k tk ∧ tk.length < 100000 ∧ tk.length ≠ F.C ∧ ∀ H', Same H H' → E (.ref CC) none H'
/-- .. or one year is none -/
def sp_histX (CP CC : Addr) : Sp3 := fun a b c H Q E => ∃ (F : Frm) (y : Addr) (yv : List V) (pss : List (List (Str × Int))) (k : Addr) (kv : List V) (tks : List (List Bool)) (j : Nat), F.Ok 40 ∧ At H F.d a ∧ b = .ref y ∧ H y = some (.lst yv) ∧ PapsAt H (yv.take j) pss ∧
  c = .ref k ∧ SqK H k kv ∧ TksAt H (kv.take j) tks F.C ∧ yv.length = kv.length ∧ yv.length ≤ 20 ∧ j ≤ yv.length ∧
  ((j = yv.length ∧ ∀ p H' hv, Same H H' → H p = none → H' p = some (.lst hv) → RowsAt H' hv pss.length (fun i => F.hy pss tks (i + 1)) → (∀ l, V.ref l ∈ hv → H l = none) → hv.Nodup → Q (.ref p) H') ∨
  ∃ u z, yv[j]? = some u ∧ kv[j]? = some z ∧ YearBad H F CP CC E u z)
theorem histX_good {CP CC : Addr} {a b c : V} {H : Hp} {Q : VK} {E : XK} (h : sp_history a b c H Q E) : sp_histX CP CC a b c H Q E := by
  obtain ⟨F, y, yv, pss, k, kv, tks, ok, hat, e1, hy, hps, e2, hk, htk, len, l8, q⟩ := h
  have lps := hps.len
  have ltk := htk.len
  exact ⟨F, y, yv, pss, k, kv, tks, yv.length, ok, hat, e1, hy, by rw [List.take_length]; exact hps, e2, hk, by rw [List.take_of_length_le (by omega)]; exact htk, by omega, by omega, Nat.le_refl _, .inl ⟨rfl, q⟩⟩
theorem ok_history {CP CC : Addr} (M : Mg mg) (G_reckoned : Has P w K mg base "reckoned" ["form", "pairs", "earlier", "taken"] 10 (sp4 (sp_reckX CP CC))) (D : DefAt K mg "history" s_history ["form", "years", "taken"]) : Has P w K mg base "history" ["form", "years", "taken"] 11 (sp3 (sp_histX CP CC)) := by
  refine .mk3 D sc_history fun fa cdv A outer s0 H a b c Q E hr h => ⟨_, (pss_cons (ps_set (i := 3) sc_history.nd rfl (by first | exact Or.inl rfl | exact Or.inr rfl) (pe_lst pa_nil))
    (pss_cons (ps_set (i := 4) sc_history.nd rfl (by first | exact Or.inl rfl | exact Or.inr rfl) (pe_lst pa_nil))
    (pss_cons (ps_for own_p (by rfl) (k_zip3 K rfl (by rfl) M.zip (pa_cons (pv 1) (pa_cons (pv 2) pa_nil))) (pg_tup (by rfl) (pgs_cons (pg_name (i := 5) sc_history.nd rfl (by first | exact Or.inl rfl | exact Or.inr rfl)) (pgs_cons (pg_name (i := 6) sc_history.nd rfl (by first | exact Or.inl rfl | exact Or.inr rfl)) pgs_nil))) (pss_cons (ps_set (i := 4) sc_history.nd rfl (by first | exact Or.inl rfl | exact Or.inr rfl) (pe_own G_reckoned (hr.mono (by first | decide | omega)) (by rfl) p_body (pa_cons (pv 0) (pa_cons (pv 5) (pa_cons (pv 4) (pa_cons (pv 6) pa_nil))))))
    (pss_one (ps_expr (k_bm K rfl PySem.F.plainAttrs_list PySem.F.slot_list_append PySem.F.type_list_append mt_append (pv 3) (pa_cons (pe_callTy (k_list K rfl) (by rfl) M.list (by decide +kernel) (pa_cons (pv 4) pa_nil)) pa_nil))))))
    (pss_one (ps_ret (pv 3)))))), ?_⟩
  obtain ⟨F, y, yv, pss, k, kv, tks, j, ok, hat, rfl, hy, hps, rfl, hk, htk, len, l8, jl, q⟩ := h
  have lps := hps.len
  have ltk := htk.len
  rw [List.length_take, Nat.min_eq_left jl] at lps
  rw [List.length_take, Nat.min_eq_left (by omega)] at ltk
  refine Fl.go_start (σ0 := [some _, some _, some _, none, none, none, none]) rfl ?_
  walk_at "s"
  rename_i p hp e0 he0
  have nkp : k ≠ p := fun e => by rcases hk with h | h <;> (rw [e, hp] at h; cases h)
  have nke : k ≠ e0 := fun e => by
    rw [← e, upd_ne nkp] at he0
    rcases hk with h | h <;> (rw [he0] at h; cases h)
  refine forz3 (fun i σ' H' => i ≤ j ∧ ∃ (e : Addr) (hv : List V) (y5 y6 : Option V), σ' = [some a, some (.ref y), some (.ref k), some (.ref p), some (.ref e), y5, y6] ∧ H' e = some (.lst ((F.hy pss tks i).map V.int)) ∧ e ≠ p ∧ H' p = some (.lst hv) ∧ RowsAt H' hv i (fun i => F.hy pss tks (i + 1)) ∧ (∀ l, V.ref l ∈ hv → H l = none ∧ l ≠ p) ∧ hv.Nodup ∧ Same H H')
    (by walk_at "hp") (hk.same (by walk_at "sm")) (by omega) ⟨Nat.zero_le _, e0, [], none, none, rfl, upd_same, ?_, by walk_at "hp", ⟨rfl, by simp⟩, by simp, by simp, by walk_at "sm"⟩ (fun i σ' H' ⟨_, _, _, _, _, _, _, _, _, _, _, _, sm⟩ => ⟨sm _ _ hy, fun o h => sm _ _ (by rwa [upd_ne nke, upd_ne nkp] at h)⟩) ?_ ?_
  · rintro rfl
    rw [upd_same] at he0
    cases he0
  · rintro i x z T σ' H1 ex ez ⟨ile, e, hv, y5, y6, rfl, he, nep, hp1, hrow, hfr, nd, sm⟩ hT
    by_cases il : i < j
    · obtain ⟨ps, eps⟩ : ∃ ps, pss[i]? = some ps := ⟨_, List.getElem?_eq_getElem (by omega)⟩
      obtain ⟨tk, etk⟩ : ∃ tk, tks[i]? = some tk := ⟨_, List.getElem?_eq_getElem (by omega)⟩
      obtain ⟨l, vs, rfl, hl, hvs, pok⟩ := (hps.same sm).at_ i x _ (by rw [List.getElem?_take_of_lt il]; exact ex) eps
      obtain ⟨tl, rfl, htl, ltl⟩ := (htk.same sm).at_ i z _ (by rw [List.getElem?_take_of_lt il]; exact ez) etk
      have sT : Same H1 (upd H1 T (.tup [.ref l, .ref tl])) := Same.new (.refl _) hT
      have hT1 : (upd H1 T (.tup [.ref l, .ref tl])) T = some (.tup [.ref l, .ref tl]) := upd_same
      generalize upd H1 T (.tup [.ref l, .ref tl]) = H2 at *
      have sm2 := L2.Same.trans sm sT
      have hp2 := sT _ _ hp1
      walk_at "s"
      refine ⟨rfl, ?_⟩
      walk_at "s"
      refine .inl ⟨F, l, vs, ps, e, F.hy pss tks i, tl, tk, ok, hat.le (Same.le sm2), rfl, sT _ _ hl, hvs.le (Same.le sT), pok, rfl, sT _ _ he, F.hy_len i, rfl, htl.same sT, ltl, fun e' H3 sm3 fe' he' => ?_⟩
      have hp3 := sm3 _ _ hp2
      have ne' : e' ≠ p := fun z => by rw [z, hp2] at fe'; cases fe'
      have eqy : F.yr ps (F.hy pss tks i) tk = F.hy pss tks (i + 1) := by
        rw [Frm.hy, List.getD_eq_getElem?_getD, eps, List.getD_eq_getElem?_getD, etk]
        rfl
      rw [eqy] at he'
      walk_at "s"
      rename_i c hc
      have lh := hrow.len
      have sm13 := L2.Same.trans sT sm3
      have sm03 := L2.Same.trans sm sm13
      have frc : H c = none := L2.Same.free sm03 hc
      have ncp : c ≠ p := fun z => by rw [z, hp3] at hc; cases hc
      have nce : c ≠ e' := fun z => by rw [z, he'] at hc; cases hc
      have nin : V.ref c ∉ hv := fun h => by
        obtain ⟨j, hj, ej⟩ := List.getElem_of_mem h
        obtain ⟨l', q', h'⟩ := hrow.at_ j _ (List.getElem?_eq_getElem hj)
        rw [ej] at q'
        cases q'
        rw [L2.Same.free sm13 hc] at h'
        cases h'
      refine ⟨show hv.length + 1 ≤ sizeLine from small_of (by omega), by omega, e', hv ++ [.ref c], _, _, rfl, ?_, ne', upd_same, ⟨by rw [List.length_append, lh]; rfl, fun j v ej => ?_⟩, fun l' h => ?_, ?_, ?_⟩
      · rw [upd_ne ne', upd_ne nce.symm]
        exact he'
      · rcases Nat.lt_or_ge j hv.length with c1 | c1
        · rw [List.getElem?_append_left c1] at ej
          obtain ⟨l', q', h'⟩ := hrow.at_ j v ej
          subst q'
          have nl := (hfr l' (List.mem_of_getElem? ej)).2
          have nlc : l' ≠ c := fun z => nin (z ▸ List.mem_of_getElem? ej)
          exact ⟨l', rfl, by rw [upd_ne nl, upd_ne nlc]; exact sm13 _ _ h'⟩
        · rw [List.getElem?_append_right c1] at ej
          have c2 : j - hv.length = 0 := by
            have := (List.getElem?_eq_some_iff.mp ej).1
            simp at this
            omega
          rw [c2] at ej
          have ev : V.ref c = v := by simpa using ej
          subst ev
          refine ⟨c, rfl, ?_⟩
          rw [upd_ne ncp, upd_same, show j = i by omega]
      · rcases List.mem_append.mp h with h | h
        · exact hfr l' h
        · cases List.mem_singleton.mp h
          exact ⟨frc, ncp⟩
      · exact List.nodup_append.mpr ⟨nd, by simp, fun x hx y hy' => by rw [List.mem_singleton.mp hy']; rintro rfl; exact nin hx⟩
      · exact Same.mut (Same.new sm03 hc) hp
    · have ie : i = j := by omega
      subst ie
      rcases q with ⟨ej, q⟩ | ⟨u, z', eu, ez', hb⟩
      · have := (List.getElem?_eq_some_iff.mp ex).1
        omega
      rw [ex] at eu
      cases eu
      rw [ez] at ez'
      cases ez'
      have sT : Same H1 (upd H1 T (.tup [x, z])) := Same.new (.refl _) hT
      have hT1 : (upd H1 T (.tup [x, z])) T = some (.tup [x, z]) := upd_same
      generalize upd H1 T (.tup [x, z]) = H2 at *
      have sm2 := L2.Same.trans sm sT
      walk_at "s"
      refine ⟨rfl, ?_⟩
      walk_at "s"
      rcases hb with ⟨hb, q⟩ | ⟨l, vs, ps, k', tk, rfl, hl, hvs, pok, rfl, hk', lk, nk, q⟩
      · exact .inr (.inl ⟨hb.same sm2, fun H' e => q H' (L2.Same.trans sm2 e)⟩)
      · exact .inr (.inr ⟨F, l, vs, ps, k', tk, hat.le (Same.le sm2), rfl, sm2 _ _ hl, hvs.le (Same.le sm2), pok, rfl, hk'.same sm2, lk, nk, fun H' e => q H' (L2.Same.trans sm2 e)⟩)
  · rintro σ' H1 ⟨ile, e, hv, y5, y6, rfl, he, nep, hp1, hrow, hfr, nd, sm⟩
    rcases q with ⟨ej, q⟩ | ⟨u, z', eu, ez', hb⟩
    · rw [← ej, lps] at hrow
      walk_at "s"
      exact q p H1 hv sm hp hp1 hrow (fun l h => (hfr l h).1) nd
    · have := (List.getElem?_eq_some_iff.mp eu).1
      omega
end
end Fl

-- after: gen0.tpl
namespace Fl
open PySem PySem.Spec PyProof.Rows L2 RZ
theorem leT_keep {H H' : Hp} {s : Addr} {xs : List V} (k : ∀ b u, b ≠ s → H b = some u → H' b = some u) (hs : H s = some (.lst xs)) : LeT H H' := fun b ys h => k _ _ (fun e => by rw [e, hs] at h; cases h) h
theorem set_cut {α : Type} {xs : List α} {i : Nat} {x : α} (h : i < xs.length) : xs.take i ++ [x] ++ xs.drop (i + 1) = xs.set i x := by
  rw [List.set_eq_take_append_cons_drop, if_pos h]
  simp
theorem get_set {α : Type} {xs : List α} {i j : Nat} {x y : α} (h : (xs.set i x)[j]? = some y) : (j = i ∧ x = y) ∨ (j ≠ i ∧ xs[j]? = some y) := by
  by_cases c : i = j
  · subst c
    have hl : i < xs.length := by
      have := (List.getElem?_eq_some_iff.mp h).1
      rwa [List.length_set] at this
    rw [List.getElem?_set_self hl] at h
    exact .inl ⟨rfl, Option.some.inj h⟩
  · rw [List.getElem?_set_ne c] at h
    exact .inr ⟨fun e => c e.symm, h⟩
theorem get_snoc {α : Type} {xs : List α} {x y : α} {i : Nat} (h : (xs ++ [x])[i]? = some y) : xs[i]? = some y ∨ i = xs.length ∧ x = y := by
  rcases Nat.lt_or_ge i xs.length with c | c
  · rw [List.getElem?_append_left c] at h
    exact .inl h
  · rw [List.getElem?_append_right c] at h
    have c2 : i - xs.length = 0 := by
      have := (List.getElem?_eq_some_iff.mp h).1
      simp at this
      omega
    rw [c2] at h
    exact .inr ⟨by omega, by simpa using h⟩
end Fl

-- after: va4t.tpl hp0.tpl
namespace Fl
open PySem PySem.Spec PyProof.Rows L2 RZ
/-! ### all choices -/
def binR : Nat → List (List Bool)
  | 0 => [[]]
  | n + 1 => (binR n).flatMap fun r => [r ++ [false], r ++ [true]]
theorem binR_len : ∀ n, (binR n).length = 2 ^ n
  | 0 => rfl
  | n + 1 => by
    rw [binR, List.length_flatMap]
    have : (List.map (fun a : List Bool => [a ++ [false], a ++ [true]].length) (binR n)) = List.replicate (binR n).length 2 := by
      rw [List.map_eq_replicate_iff.mpr]
      intro r _
      rfl
    rw [this, List.sum_replicate_nat, binR_len n, Nat.pow_succ]
theorem binR_row : ∀ {n : Nat} {r : List Bool}, r ∈ binR n → r.length = n
  | 0, r, h => by
    rw [List.mem_singleton.mp h]
    rfl
  | n + 1, r, h => by
    obtain ⟨q, hq, h⟩ := List.mem_flatMap.mp h
    have := binR_row hq
    simp only [List.mem_cons, List.not_mem_nil, or_false] at h
    rcases h with rfl | rfl <;> simp [this]
def blD (r : List Bool) : PyData := .tuple (r.map PyData.bool)
/-- a row, parted -/
def byY (C n : Nat) (r : List Bool) : List (List Bool) := (List.range n).map fun k => (r.drop (k * C)).take C
theorem cutB (r : List Bool) (a c : Nat) : cutV (r.map V.bl) (some (a : Int)) (some ((a : Int) + c)) = ((r.drop a).take c).map V.bl := by
  unfold cutV HT.sIx
  simp only []
  rw [if_neg (by omega), if_neg (by omega), Int.toNat_natCast, show ((a : Int) + c).toNat = a + c by omega, List.length_map, List.map_take, List.map_drop]
  by_cases h : a ≤ r.length
  · rw [Nat.min_eq_left h]
    by_cases h2 : a + c ≤ r.length
    · rw [Nat.min_eq_left h2, show a + c - a = c by omega]
    · rw [Nat.min_eq_right (by omega), List.take_of_length_le (by simp), List.take_of_length_le (by simp; omega)]
  · rw [Nat.min_eq_right (by omega), Nat.min_eq_right (by omega), List.drop_eq_nil_of_le (by rw [List.length_map]; exact Nat.le_refl _), List.drop_eq_nil_of_le (by rw [List.length_map]; omega), List.take_nil, List.take_nil]
def rowsT (H : Hp) (rs : List (List Bool)) (vs : List V) : Prop := vs.length = rs.length ∧ ∀ (i : Nat) v r, vs[i]? = some v → rs[i]? = some r → ∃ t, v = .ref t ∧ H t = some (.tup (r.map V.bl))
theorem rowsT.le {H H' : Hp} {rs : List (List Bool)} {vs : List V} (h : rowsT H rs vs) (k : ∀ b ys, H b = some (.tup ys) → H' b = some (.tup ys)) : rowsT H' rs vs := ⟨h.1, fun i v r e1 e2 => let ⟨t, q, ht⟩ := h.2 i v r e1 e2; ⟨t, q, k _ _ ht⟩⟩
theorem rowsT.nil {H : Hp} : rowsT H [] [] := ⟨rfl, by simp⟩
theorem rowsT.snoc {H : Hp} {rs : List (List Bool)} {vs : List V} {r : List Bool} {t : Addr} (h : rowsT H rs vs) (ht : H t = some (.tup (r.map V.bl))) : rowsT H (rs ++ [r]) (vs ++ [.ref t]) := by
  have hl := h.1
  refine ⟨by simp [hl], fun i v r' e1 e2 => ?_⟩
  rcases get_snoc e1 with a | ⟨a1, a2⟩
  · have := (List.getElem?_eq_some_iff.mp a).1
    rw [List.getElem?_append_left (by omega)] at e2
    exact h.2 i v r' a e2
  · subst a2
    rw [List.getElem?_append_right (by omega), show i - rs.length = 0 by omega] at e2
    have e : r = r' := by simpa using e2
    subst e
    exact ⟨t, rfl, ht⟩
section
variable {P : Program} {w : World} {K : PySem.W.Frag} {mg : Str → Option Value} {base : Heap}
abbrev s_all_taken : Stmt := topS 51
theorem sc_all_taken : FnScope ["many", "rows", "k", "longer", "row"] ["many"] (defScope s_all_taken) := ⟨rfl, rfl, rfl, by decide +kernel, rfl, by decide +kernel, by decide +kernel⟩
def sp_all_taken : Sp1 := fun a H Q _ => ∃ n : Nat, a = .int n ∧ n ≤ 8 ∧ ∀ p H' vs, Same H H' → H p = none → H' p = some (.lst vs) → rowsT H' (binR n) vs → Q (.ref p) H'
theorem ok_all_taken (M : Mg mg) (D : DefAt K mg "all_taken" s_all_taken ["many"]) : Has P w K mg base "all_taken" ["many"] 1 (sp1 sp_all_taken) := by
  refine .mk1 D sc_all_taken fun fa cdv A outer s0 H a Q E hr h => ⟨_, (pss_cons (ps_set (i := 1) sc_all_taken.nd rfl (by first | exact Or.inl rfl | exact Or.inr rfl) (pe_lst (pa_cons (pe_tup pa_nil) pa_nil)))
    (pss_cons (ps_for own_p (by rfl) (pi_range1 (by rfl) M.range (pa_cons (pv 0) pa_nil)) (pg_name (i := 2) sc_all_taken.nd rfl (by first | exact Or.inl rfl | exact Or.inr rfl)) (pss_cons (ps_set (i := 3) sc_all_taken.nd rfl (by first | exact Or.inl rfl | exact Or.inr rfl) (pe_lst pa_nil))
    (pss_cons (ps_for own_p (by rfl) (k_pi K rfl (pv 1)) (pg_name (i := 4) sc_all_taken.nd rfl (by first | exact Or.inl rfl | exact Or.inr rfl)) (pss_one (ps_set (i := 3) sc_all_taken.nd rfl (by first | exact Or.inl rfl | exact Or.inr rfl) (pe_op (k_add K rfl) (pv 3) (pe_lst (pa_cons (pe_op (k_add K rfl) (pv 4) (pe_tup (pa_cons pe_bl pa_nil))) (pa_cons (pe_op (k_add K rfl) (pv 4) (pe_tup (pa_cons pe_bl pa_nil))) pa_nil)))))))
    (pss_one (ps_set (i := 1) sc_all_taken.nd rfl (by first | exact Or.inl rfl | exact Or.inr rfl) (pv 3))))))
    (pss_one (ps_ret (pv 1))))), ?_⟩
  obtain ⟨n, rfl, n8, q⟩ := h
  refine Fl.go_start (σ0 := [some _, none, none, none, none]) rfl ?_
  walk_at "s"
  rename_i t0 ht0 p0 hp0
  rw [Int.toNat_natCast]
  have sm1 : Same H (upd (upd H t0 (.tup [])) p0 (.lst [.ref t0])) := by walk_at "sm"
  have p01 : (upd (upd H t0 (.tup [])) p0 (.lst [.ref t0])) p0 = some (.lst [.ref t0]) := upd_same
  have t01 : (upd (upd H t0 (.tup [])) p0 (.lst [.ref t0])) t0 = some (.tup []) := by walk_at "hp"
  have fp0 : H p0 = none := by walk_at "fr"
  generalize upd (upd H t0 (.tup [])) p0 (.lst [.ref t0]) = H1 at *
  clear ht0 hp0
  refine for_rng (fun i σ' H' => ∃ (rp : Addr) (vs : List V) (y2 y3 y4 : Option V), σ' = [some (.int n), some (.ref rp), y2, y3, y4] ∧ H' rp = some (.lst vs) ∧ rowsT H' (binR i) vs ∧ Same H H' ∧ H rp = none)
    ⟨p0, [.ref t0], none, none, none, rfl, p01, rowsT.nil.snoc t01, sm1, fp0⟩ ?_ ?_
  · rintro i σ' H2 hi ⟨rp, vs, y2, y3, y4, rfl, hrp, hrow, sm2, frp⟩
    have lb : (binR i).length ≤ 128 := by
      rw [binR_len]
      exact Nat.le_trans (Nat.pow_le_pow_right (by decide) (show i ≤ 7 by omega)) (by decide)
    have lv := hrow.1
    walk_at "s"
    rename_i lp0 hlp0
    have sm3 : Same H2 (upd H2 lp0 (.lst [])) := Same.new (.refl _) hlp0
    have lp3 : (upd H2 lp0 (.lst [])) lp0 = some (.lst []) := upd_same
    have flp : H lp0 = none := L2.Same.free sm2 hlp0
    generalize upd H2 lp0 (.lst []) = H3 at *
    have hrp3 := sm3 _ _ hrp
    refine for_lst (fun j σ' H' => ∃ (lp : Addr) (ws : List V) (y4 : Option V), σ' = [some (.int n), some (.ref rp), some (.int (0 + i)), some (.ref lp), y4] ∧ H' lp = some (.lst ws) ∧ rowsT H' (((binR i).take j).flatMap fun r => [r ++ [false], r ++ [true]]) ws ∧ Same H3 H' ∧ H lp = none ∧ ws.length = 2 * j)
      hrp3 ⟨lp0, [], y4, rfl, lp3, rowsT.nil, .refl _, flp, rfl⟩ (fun j σ' H' _ ⟨_, _, _, _, _, _, sm, _⟩ => sm _ _ hrp3) ?_ ?_
    · rintro j x σ' H4 ex ⟨lp, ws, y4', rfl, hlp, hws, sm4, flp', lw⟩
      have jl := (List.getElem?_eq_some_iff.mp ex).1
      obtain ⟨r, er⟩ : ∃ r, (binR i)[j]? = some r := ⟨_, List.getElem?_eq_getElem (by omega)⟩
      have sm24 := L2.Same.trans sm3 sm4
      obtain ⟨t, rfl, ht⟩ := (hrow.le fun b ys h => sm24 _ _ h).2 j x r ex er
      have lr := binR_row (List.mem_of_getElem? er)
      walk_at "s"
      rename_i b1 hb1 t1 HA smA ht1 b2 hb2 t2 HB smB ht2 l2 hl2 l3 hl3
      have sA : Same H4 HA := by walk_at "sm"
      have sB : Same HA HB := by walk_at "sm"
      have sC : Same HB (upd (upd HB l2 (.lst [.ref t1, .ref t2])) l3 (.lst (ws ++ [.ref t1, .ref t2]))) := by walk_at "sm"
      have h3 : (upd (upd HB l2 (.lst [.ref t1, .ref t2])) l3 (.lst (ws ++ [.ref t1, .ref t2]))) l3 = some (.lst (ws ++ [.ref t1, .ref t2])) := upd_same
      have fl3 : HB l3 = none := by walk_at "fr"
      generalize upd (upd HB l2 (.lst [.ref t1, .ref t2])) l3 (.lst (ws ++ [.ref t1, .ref t2])) = HC at *
      have s4C := L2.Same.trans sA (L2.Same.trans sB sC)
      have s0B := L2.Same.trans sm2 (L2.Same.trans sm24 (L2.Same.trans sA sB))
      refine ⟨l3, ws ++ [.ref t1, .ref t2], _, rfl, h3, ?_, L2.Same.trans sm4 s4C, L2.Same.free s0B fl3, by rw [List.length_append, lw]; simp; omega⟩
      have r1 := (hws.le fun b ys h => s4C _ _ h).snoc (r := r ++ [false]) (t := t1) (by rw [sC _ _ (sB _ _ ht1), List.map_append]; rfl)
      have r2 := r1.snoc (r := r ++ [true]) (t := t2) (by rw [sC _ _ ht2, List.map_append]; rfl)
      rw [List.append_assoc, List.append_assoc] at r2
      rw [List.take_add_one, er, List.flatMap_append]
      exact r2
    · rintro σ' H4 ⟨lp, ws, y4', rfl, hlp, hws, sm4, flp', lw⟩
      rw [List.take_of_length_le (by omega)] at hws
      walk_at "s"
      exact ⟨lp, ws, _, _, _, rfl, hlp, hws, L2.Same.trans sm2 (L2.Same.trans sm3 sm4), flp'⟩
  · rintro σ' H2 ⟨rp, vs, y2, y3, y4, rfl, hrp, hrow, sm2, frp⟩
    walk_at "s"
    exact q rp H2 vs sm2 frp hrp hrow
abbrev s_by_years : Stmt := topS 52
theorem sc_by_years : FnScope ["row", "choices", "count", "k"] ["row", "choices", "count"] (defScope s_by_years) := ⟨rfl, rfl, rfl, by decide +kernel, rfl, by decide +kernel, by decide +kernel⟩
def sp_by_years : Sp3 := fun a b c H Q _ => ∃ (t : Addr) (r : List Bool) (C n : Nat), a = .ref t ∧ H t = some (.tup (r.map V.bl)) ∧ b = .int C ∧ c = .int n ∧ C ≤ 8 ∧ n ≤ 20 ∧ ∀ p H' vs, Same H H' → H' p = some (.tup vs) → rowsT H' (byY C n r) vs → Q (.ref p) H'
theorem ok_by_years (M : Mg mg) (D : DefAt K mg "by_years" s_by_years ["row", "choices", "count"]) : Has P w K mg base "by_years" ["row", "choices", "count"] 1 (sp3 sp_by_years) := by
  refine .mk3 D sc_by_years fun fa cdv A outer s0 H a b c Q E hr h => ⟨_, (pss_one (ps_ret (pe_callTy (k_tuple K rfl) (by rfl) M.tuple (by decide +kernel) (pa_cons (pe_lc (own := [("k", 3)]) (g := gName 3) (by rfl) sc_by_years.nd (pi_range1 (by rfl) M.range (pa_cons (pv 2) pa_nil)) (blkOk_by (N := ["row", "choices", "count", "k"]) (sc := (defScope s_by_years)) (own := [("k", 3)]) (by decide +kernel)) (fun _ _ _ _ _ => (pg_name (i := 3) sc_by_years.nd rfl (by first | exact Or.inl rfl | exact Or.inr rfl))) (fun _ _ _ _ _ => pts_nil) (fun _ _ _ _ _ => (pe_slice (k_sl K rfl) (pv 0) (po_some (pe_op o_mul (pv 3) (pv 1))) (po_some (pe_op (k_add K rfl) (pe_op o_mul (pv 3) (pv 1)) (pv 1)))))) pa_nil)))), ?_⟩
  obtain ⟨t, r, C, n, rfl, ht, rfl, rfl, C8, n20, q⟩ := h
  refine Fl.go_start (σ0 := [some _, some _, some _, none]) rfl ?_
  walk_at "s"
  rw [Int.toNat_natCast]
  refine lc_rng (fun D i H' => ∃ acc, H' D = some (.lst acc) ∧ rowsT H' ((List.range i).map fun k => (r.drop (k * C)).take C) acc ∧ Same H H') (fun D hD => ⟨[], upd_same, rowsT.nil, by walk_at "sm"⟩) (fun D i H' hD hi ⟨acc, hacc, hrow, sm⟩ => ?_) (fun D H1 hD ⟨acc, hacc, hrow, sm⟩ => ?_)
  · have ht' := sm _ _ ht
    have la := hrow.1
    rw [List.length_map, List.length_range] at la
    refine ⟨rfl, ?_⟩
    refine Step.h (n := if true = true then _ else _) ?_
    rw [if_pos rfl]
    walk_at "s"
    rename_i t2 H2 sm2 ht2
    rw [show ((0 : Int) + i) * C = ((i * C : Nat) : Int) by rw [Int.zero_add, Int.natCast_mul], cutB] at ht2
    have hacc2 := sm2 _ _ hacc
    have kD : ∀ b u, b ≠ D → H2 b = some u → (upd H2 D (.lst (acc ++ [.ref t2]))) b = some u := fun b u nb h => by rw [upd_ne nb]; exact h
    have lt : LeT H2 (upd H2 D (.lst (acc ++ [.ref t2]))) := leT_keep kD hacc2
    refine ⟨?_, fun b u h => kD _ _ (fun e => by rw [e, hD] at h; cases h) (sm2 _ _ (sm _ _ h))⟩
    rw [List.range_succ, List.map_append]
    exact (((hrow.le fun b ys h => sm2 _ _ h).le lt)).snoc (lt _ _ ht2)
  · walk_at "s"
    rename_i t2 H2 sm2 ht2
    exact q t2 H2 acc (L2.Same.trans sm sm2) ht2 (hrow.le fun b ys h => sm2 _ _ h)
end
end Fl

-- after: va4.tpl hp0.tpl
namespace Fl
open PySem PySem.Spec PyProof.Rows L2 RZ
/-! ### years and takings at a heap that changes -/
theorem Frm.Ok.mono {F : Frm} {m n : Nat} (h : F.Ok m) (le : m ≤ n) : F.Ok n := ⟨h.good, h.acy, h.n1, Nat.le_trans h.n2 le, h.t5, h.c8, h.ow, h.tb, h.w1, h.w8, h.wd⟩
theorem wdt_other : WdT "other" := ⟨⟨by decide +kernel, by decide +kernel⟩, by decide +kernel⟩
theorem PapsAt.kp {H H' : Hp} {yv : List V} {pss : List (List (Str × Int))} {s : Addr} (h : PapsAt H yv pss) (k : ∀ b u, b ≠ s → H b = some u → H' b = some u) (lt : LeT H H') (ne : ∀ l, V.ref l ∈ yv → l ≠ s) : PapsAt H' yv pss :=
  ⟨h.len, fun i v ps e1 e2 => let ⟨l, vs, q, h1, h2, h3⟩ := h.at_ i v ps e1 e2; ⟨l, vs, q, k _ _ (ne l (q ▸ List.mem_of_getElem? e1)) h1, h2.leT lt (prs_tupO ps), h3⟩⟩
theorem TksAt.kp {H H' : Hp} {kv : List V} {tks : List (List Bool)} {C : Nat} {s : Addr} (h : TksAt H kv tks C) (k : ∀ b u, b ≠ s → H b = some u → H' b = some u) (ne : ∀ l, V.ref l ∈ kv → l ≠ s) : TksAt H' kv tks C :=
  ⟨h.len, fun i v tk e1 e2 => let ⟨l, q, h1, h2⟩ := h.at_ i v tk e1 e2; ⟨l, q, h1.imp (k _ _ (ne l (q ▸ List.mem_of_getElem? e1))) (k _ _ (ne l (q ▸ List.mem_of_getElem? e1))), h2⟩⟩
def fstOf (H : Hp) : V → Str
  | .ref t => match H t with
    | some (.tup (.str s :: _)) => s
    | _ => ""
  | _ => ""
theorem fstOf_at {H : Hp} {p : Str × Int} {v : V} (h : At H (prD p) v) : fstOf H v = p.1 := by
  obtain ⟨t, u, rfl, ht, _⟩ := At.t2 h
  simp only [fstOf, ht]
def notF (H : Hp) (w : Str) (v : V) : Option V := if fstOf H v ≠ w then some v else none
theorem filt_at {H : Hp} {w : Str} : ∀ {ps : List (Str × Int)} {vs : List V}, AtAll H (ps.map prD) vs → AtAll H ((ps.filter fun p => decide (p.1 ≠ w)).map prD) (vs.filterMap (notF H w))
  | [], _, h => by
    cases (show _ = _ from h)
    exact rfl
  | p :: r, _, ⟨v, us, e, h, t⟩ => by
    subst e
    have ih := filt_at (w := w) t
    rw [List.filter_cons, List.filterMap_cons]
    by_cases c : p.1 = w
    · rw [if_neg (by simpa using c), show notF H w v = none by unfold notF; rw [fstOf_at h, if_neg (by simpa using c)]]
      exact ih
    · rw [if_pos (by simpa using c), show notF H w v = some v by unfold notF; rw [fstOf_at h, if_pos (by simpa using c)]]
      exact ⟨v, _, rfl, h, ih⟩
theorem at_mem {H : Hp} {ps : List (Str × Int)} {vs : List V} {x : V} (h : AtAll H (ps.map prD) vs) (m : x ∈ vs) : ∃ p, p ∈ ps ∧ At H (prD p) x := by
  obtain ⟨i, hi, e⟩ := List.getElem_of_mem m
  obtain ⟨d, ed, hd⟩ := h.ix (show vs[i]? = some x by rw [List.getElem?_eq_getElem hi, e])
  obtain ⟨p, hp, rfl⟩ := List.mem_map.mp (List.mem_of_getElem? ed)
  exact ⟨p, hp, hd⟩
theorem PapsAt.set {H : Hp} {yv : List V} {pss : List (List (Str × Int))} {i : Nat} {l : Addr} {vs : List V} {ps : List (Str × Int)} (h : PapsAt H yv pss) (h1 : H l = some (.lst vs)) (h2 : AtAll H (ps.map prD) vs) (h3 : PapOk ps) : PapsAt H (yv.set i (.ref l)) (pss.set i ps) := by
  refine ⟨by rw [List.length_set, List.length_set, h.len], fun j v ps' e1 e2 => ?_⟩
  rcases get_set e1 with ⟨a1, a2⟩ | ⟨a1, a2⟩ <;> rcases get_set e2 with ⟨b1, b2⟩ | ⟨b1, b2⟩
  · subst a2 b2
    exact ⟨l, vs, rfl, h1, h2, h3⟩
  · exact absurd a1 b1
  · exact absurd b1 a1
  · exact h.at_ j v ps' a2 b2
theorem RowsAt.kp {H H' : Hp} {hv : List V} {n : Nat} {f : Nat → List Int} {s : Addr} (h : RowsAt H hv n f) (k : ∀ b u, b ≠ s → H b = some u → H' b = some u) (ne : ∀ l, V.ref l ∈ hv → l ≠ s) : RowsAt H' hv n f :=
  ⟨h.len, fun i v e1 => let ⟨l, q, h1⟩ := h.at_ i v e1; ⟨l, q, k _ _ (ne l (q ▸ List.mem_of_getElem? e1)) h1⟩⟩
theorem PapsAt.snoc {H : Hp} {yv : List V} {pss : List (List (Str × Int))} {l : Addr} {vs : List V} {ps : List (Str × Int)} (h : PapsAt H yv pss) (h1 : H l = some (.lst vs)) (h2 : AtAll H (ps.map prD) vs) (h3 : PapOk ps) : PapsAt H (yv ++ [.ref l]) (pss ++ [ps]) := by
  have hl := h.len
  refine ⟨by simp [hl], fun i v ps' e1 e2 => ?_⟩
  rcases get_snoc e1 with a | ⟨a1, a2⟩
  · have := (List.getElem?_eq_some_iff.mp a).1
    rw [List.getElem?_append_left (by omega)] at e2
    exact h.at_ i v ps' a e2
  · subst a2
    rw [List.getElem?_append_right (by omega), show i - pss.length = 0 by omega] at e2
    have e : ps = ps' := by simpa using e2
    subst e
    exact ⟨l, vs, rfl, h1, h2, h3⟩
theorem TksAt.snoc {H : Hp} {kv : List V} {tks : List (List Bool)} {C : Nat} {l : Addr} {tk : List Bool} (h : TksAt H kv tks C) (h1 : BoolsAt H l tk) (h2 : tk.length = C) : TksAt H (kv ++ [.ref l]) (tks ++ [tk]) C := by
  have hl := h.len
  refine ⟨by simp [hl], fun i v tk' e1 e2 => ?_⟩
  rcases get_snoc e1 with a | ⟨a1, a2⟩
  · have := (List.getElem?_eq_some_iff.mp a).1
    rw [List.getElem?_append_left (by omega)] at e2
    exact h.at_ i v tk' a e2
  · subst a2
    rw [List.getElem?_append_right (by omega), show i - tks.length = 0 by omega] at e2
    have e : tk = tk' := by simpa using e2
    subst e
    exact ⟨l, rfl, h1, h2⟩
theorem PapsAt.take {H : Hp} {yv : List V} {pss : List (List (Str × Int))} (h : PapsAt H yv pss) (j : Nat) : PapsAt H (yv.take j) (pss.take j) := by
  refine ⟨by rw [List.length_take, List.length_take, h.len], fun i v ps e1 e2 => ?_⟩
  have l1 := (List.getElem?_eq_some_iff.mp e1).1
  rw [List.length_take] at l1
  rw [List.getElem?_take_of_lt (by omega)] at e1 e2
  exact h.at_ i v ps e1 e2
theorem TksAt.take {H : Hp} {kv : List V} {tks : List (List Bool)} {C : Nat} (h : TksAt H kv tks C) (j : Nat) : TksAt H (kv.take j) (tks.take j) C := by
  refine ⟨by rw [List.length_take, List.length_take, h.len], fun i v tk e1 e2 => ?_⟩
  have l1 := (List.getElem?_eq_some_iff.mp e1).1
  rw [List.length_take] at l1
  rw [List.getElem?_take_of_lt (by omega)] at e1 e2
  exact h.at_ i v tk e1 e2
theorem RowsAt.snoc {H : Hp} {hv : List V} {n : Nat} {f : Nat → List Int} {l : Addr} (h : RowsAt H hv n f) (h1 : H l = some (.lst ((f n).map V.int))) : RowsAt H (hv ++ [.ref l]) (n + 1) f := by
  have hl := h.len
  refine ⟨by simp [hl], fun i v e1 => ?_⟩
  rcases get_snoc e1 with a | ⟨a1, a2⟩
  · exact h.at_ i v a
  · subst a2
    exact ⟨l, rfl, by rw [a1, hl]; exact h1⟩
end Fl

-- after: k09a.tpl yt.tpl
namespace Fl
open PySem PySem.Spec PyProof.Rows L2 RZ
/-! ### what is owed, by each row of choices -/
def Frm.tot (F : Frm) (pss : List (List (Str × Int))) (tks : List (List Bool)) (n : Nat) : Int := ((List.range n).map fun i => (F.hy pss tks (i + 1)).getD F.owed 0).sum
abbrev Ent := List (List Bool) × Int
def entD (e : Ent) : PyData := .tuple [.tuple (e.1.map blD), .int e.2]
def Frm.ent (F : Frm) (pss : List (List (Str × Int))) (n : Nat) (r : List Bool) : Ent := (byY F.C n r, F.tot pss (byY F.C n r) n)
def Frm.ents (F : Frm) (pss : List (List (Str × Int))) (n : Nat) : List Ent := (binR (F.C * n)).map (F.ent pss n)
def bst (e0 : Ent) (es : List Ent) : Ent := es.foldl (fun b e => if e.2 < b.2 then e else b) e0
/-- some papers are none -/
def PaB (H : Hp) (yv : List V) : Prop := ∃ (j : Nat) (pss : List (List (Str × Int))) (u : V), PapsAt H (yv.take j) pss ∧ yv[j]? = some u ∧ PapBad H u
theorem PaB.same {H H' : Hp} {yv : List V} (h : PaB H yv) (e : Same H H') : PaB H' yv := by
  obtain ⟨j, pss, u, h1, h2, h3⟩ := h
  exact ⟨j, pss, u, h1.same e, h2, h3.same e⟩
theorem byY_len {C n : Nat} {r : List Bool} : (byY C n r).length = n := by unfold byY; rw [List.length_map, List.length_range]
theorem byY_row {C n : Nat} {r x : List Bool} (h : r.length = C * n) (hx : x ∈ byY C n r) : x.length = C := by
  unfold byY at hx
  obtain ⟨k, hk, rfl⟩ := List.mem_map.mp hx
  have hk := List.mem_range.mp hk
  rw [List.length_take, List.length_drop, h, Nat.mul_comm k C, ← Nat.mul_sub]
  have : C * 1 ≤ C * (n - k) := Nat.mul_le_mul_left C (by omega)
  omega
theorem rowsT.tks {H : Hp} {rs : List (List Bool)} {vs : List V} {C : Nat} (h : rowsT H rs vs) (l : ∀ x ∈ rs, x.length = C) : TksAt H vs rs C :=
  ⟨h.1, fun i v tk e1 e2 => let ⟨t, q, ht⟩ := h.2 i v tk e1 e2; ⟨t, q, .inr ht, l tk (List.mem_of_getElem? e2)⟩⟩
theorem at_blD {H : Hp} {t : Addr} {r : List Bool} (h : H t = some (.tup (r.map V.bl))) : At H (blD r) (.ref t) := by
  refine at_tup h ?_
  clear h
  induction r with
  | nil => rfl
  | cons b r ih => exact ⟨_, _, rfl, rfl, ih⟩
theorem atAll_ix {H : Hp} : ∀ {ds : List PyData} {vs : List V}, vs.length = ds.length → (∀ (i : Nat) v d, vs[i]? = some v → ds[i]? = some d → At H d v) → AtAll H ds vs
  | [], [], _, _ => rfl
  | d :: ds, v :: vs, l, h => ⟨v, vs, rfl, h 0 v d rfl rfl, atAll_ix (by simpa using l) fun i v' d' e1 e2 => h (i + 1) v' d' (by simpa using e1) (by simpa using e2)⟩
theorem rowsT.atAll {H : Hp} {rs : List (List Bool)} {vs : List V} (h : rowsT H rs vs) : AtAll H (rs.map blD) vs := atAll_ix (by rw [List.length_map, h.1]) fun i v d e1 e2 => by
  rw [List.getElem?_map] at e2
  cases e : rs[i]? with
  | none => rw [e] at e2; cases e2
  | some r =>
    rw [e] at e2
    cases e2
    obtain ⟨t, rfl, ht⟩ := h.2 i v r e1 e
    exact at_blD ht
theorem entD_tup (e : Ent) : tupOnly (entD e) = true := by
  have : tupsOnly (e.1.map blD) = true := tupsOnly_all fun d hd => by
    obtain ⟨r, _, rfl⟩ := List.mem_map.mp hd
    have : tupsOnly (r.map PyData.bool) = true := tupsOnly_all fun d hd => by
      obtain ⟨b, _, rfl⟩ := List.mem_map.mp hd
      rfl
    simpa [blD, tupOnly] using this
  simp [entD, tupOnly, tupsOnly, this]
theorem ents_tup (es : List Ent) : tupsOnly (es.map entD) = true := tupsOnly_all fun d hd => by
  obtain ⟨e, _, rfl⟩ := List.mem_map.mp hd
  exact entD_tup e
section
variable {P : Program} {w : World} {K : PySem.W.Frag} {mg : Str → Option Value} {base : Heap}
abbrev s_owed : Stmt := topS 53
theorem sc_owed : FnScope ["form", "years", "taken", "lines"] ["form", "years", "taken"] (defScope s_owed) := ⟨rfl, rfl, rfl, by decide +kernel, rfl, by decide +kernel, by decide +kernel⟩
def sp_owedX (CP : Addr) : Sp3 := fun a b c H Q E => ∃ (F : Frm) (y : Addr) (yv : List V) (k : Addr) (kv : List V) (tks : List (List Bool)), F.Ok 40 ∧ At H F.d a ∧ b = .ref y ∧ H y = some (.lst yv) ∧ c = .ref k ∧ SqK H k kv ∧ TksAt H kv tks F.C ∧ yv.length = kv.length ∧ yv.length ≤ 20 ∧
  ((∃ pss, PapsAt H yv pss ∧ ∀ H', Same H H' → Q (.int (F.tot pss tks yv.length)) H') ∨ (PaB H yv ∧ ∀ H', Same H H' → E (.ref CP) none H'))
theorem ok_owed {CP CC : Addr} (M : Mg mg) (G_history : Has P w K mg base "history" ["form", "years", "taken"] 11 (sp3 (sp_histX CP CC))) (D : DefAt K mg "owed" s_owed ["form", "years", "taken"]) : Has P w K mg base "owed" ["form", "years", "taken"] 12 (sp3 (sp_owedX CP)) := by
  refine .mk3 D sc_owed fun fa cdv A outer s0 H a b c Q E hr h => ⟨_, (pss_one (ps_ret (pe_callB (k_sum K rfl rfl) (by rfl) M.sum (by decide +kernel) (pa_cons (pe_lc (own := [("lines", 3)]) (g := gName 3) (by rfl) sc_owed.nd (k_pi K rfl (pe_own G_history (hr.mono (by first | decide | omega)) (by rfl) p_body (pa_cons (pv 0) (pa_cons (pv 1) (pa_cons (pv 2) pa_nil))))) (blkOk_by (N := ["form", "years", "taken", "lines"]) (sc := (defScope s_owed)) (own := [("lines", 3)]) (by decide +kernel)) (fun _ _ _ _ _ => (pg_name (i := 3) sc_owed.nd rfl (by first | exact Or.inl rfl | exact Or.inr rfl))) (fun _ _ _ _ _ => pts_nil) (fun _ _ _ _ _ => (pe_ix (k_ix K rfl) (pv 3) (pe_ix (k_ix K rfl) (pv 0) pe_int (fun _ _ => rfl)) (fun _ _ => rfl)))) pa_nil)))), ?_⟩
  obtain ⟨F, y, yv, k, kv, tks, ok, hat, rfl, hy, rfl, hk, htk, len, l20, q⟩ := h
  refine Fl.go_start (σ0 := [some _, some _, some _, none]) rfl ?_
  walk_at "s"
  rcases q with ⟨pss, hps, q⟩ | ⟨⟨j, pss, u, h1, h2, h3⟩, q⟩
  · have lps := hps.len
    have ltk := htk.len
    refine histX_good ⟨F, y, yv, pss, k, kv, tks, ok, hat, rfl, hy, hps, rfl, hk, htk, by omega, by omega, fun p H1 hv sm1 _ hp hrow _ _ => ?_⟩
    obtain ⟨f, L, T, fs, ts, rfl, hf, hL, hfs, hT, hts⟩ := Frm.at hat
    have hf1 := sm1 _ _ hf
    have lh := hrow.len
    have ow := ok.ow
    walk_at "s"
    refine lc_seqL (((List.range yv.length).map fun i => (F.hy pss tks (i + 1)).getD F.owed 0).map V.int) hp (by simp; omega) (by simp; omega) (fun _ => rfl) (fun i x z H' ex ez sm R hR => ?_) (fun D H2 hD sm2 hDv => ?_)
    · have il := (List.getElem?_eq_some_iff.mp ex).1
      rw [List.getElem?_map, List.getElem?_map, List.getElem?_range (by omega)] at ez
      cases ez
      obtain ⟨l, rfl, hl⟩ := (hrow.same sm).at_ i x ex
      have hf2 := sm _ _ hf1
      have ly : (F.hy pss tks (i + 1)).length = F.rs.length := F.yr_len
      have g := atI_getD (ls := F.hy pss tks (i + 1)) (i := F.owed) (by omega) (by omega)
      rw [Int.toNat_natCast] at g
      walk_at "s"
      refine ex_v g ?_
      exact hR _ (.refl _)
    · walk_at "s"
      exact q _ (L2.Same.trans sm1 sm2)
  · have jl := (List.getElem?_eq_some_iff.mp h2).1
    have ltk := htk.len
    exact ⟨F, y, yv, pss, k, kv, tks.take j, j, ok, hat, rfl, hy, h1, rfl, hk, htk.take j, by omega, by omega, by omega, .inr ⟨u, kv[j]'(by omega), h2, List.getElem?_eq_getElem _, .inl ⟨h3, q⟩⟩⟩
end
end Fl

-- after: k09b.tpl
namespace Fl
open PySem PySem.Spec PyProof.Rows L2 RZ
section
variable {P : Program} {w : World} {K : PySem.W.Frag} {mg : Str → Option Value} {base : Heap}
abbrev s_sums : Stmt := topS 54
theorem sc_sums : FnScope ["form", "years", "found", "row", "taken"] ["form", "years"] (defScope s_sums) := ⟨rfl, rfl, rfl, by decide +kernel, rfl, by decide +kernel, by decide +kernel⟩
def sp_sumsX (CT CP : Addr) : Sp2 := fun a b H Q E => ∃ (F : Frm) (y : Addr) (yv : List V), F.Ok 40 ∧ At H F.d a ∧ b = .ref y ∧ H y = some (.lst yv) ∧ yv.length ≤ 20 ∧
  ((8 < F.C * yv.length ∧ ∀ H', Same H H' → E (.ref CT) none H') ∨ (F.C * yv.length ≤ 8 ∧ ((∃ pss, PapsAt H yv pss ∧ ∀ p H' vs, Same H H' → H p = none → H' p = some (.lst vs) → AtAll H' ((F.ents pss yv.length).map entD) vs → Q (.ref p) H') ∨ (PaB H yv ∧ ∀ H', Same H H' → E (.ref CP) none H'))))
theorem ok_sums {CT CP : Addr} (M : Mg mg) (T_TooMany : ExcT K mg "TooMany" CT) (c_MOST : ∃ t, mg "MOST" = some (.int 8 t)) (G_all_taken : Has P w K mg base "all_taken" ["many"] 1 (sp1 sp_all_taken)) (G_by_years : Has P w K mg base "by_years" ["row", "choices", "count"] 1 (sp3 sp_by_years))
    (G_owed : Has P w K mg base "owed" ["form", "years", "taken"] 12 (sp3 (sp_owedX CP))) (D : DefAt K mg "sums" s_sums ["form", "years"]) : Has P w K mg base "sums" ["form", "years"] 13 (sp2 (sp_sumsX CT CP)) := by
  refine .mk2 D sc_sums fun fa cdv A outer s0 H a b Q E hr h => ⟨_, (pss_cons (ps_if (pt_cmpR o_gt (pe_op o_mul (pe_ix (k_ix K rfl) (pv 0) pe_int (fun _ _ => rfl)) (pe_callB (k_len K rfl) (by rfl) M.len (by decide +kernel) (pa_cons (pv 1) pa_nil))) (pe_gi (by rfl) c_MOST) (nomark _)) (pss_one (ps_raise (by rfl) t_body (pmk_own PySem.F.excBase_ValueError T_TooMany.xC T_TooMany.gC T_TooMany.kC (raises_own T_TooMany.bC T_TooMany.tC) (by exact rfl)))) pss_nil)
    (pss_cons (ps_set (i := 2) sc_sums.nd rfl (by first | exact Or.inl rfl | exact Or.inr rfl) (pe_lst pa_nil))
    (pss_cons (ps_for own_p (by rfl) (k_pi K rfl (pe_own G_all_taken (hr.mono (by first | decide | omega)) (by rfl) p_body (pa_cons (pe_op o_mul (pe_ix (k_ix K rfl) (pv 0) pe_int (fun _ _ => rfl)) (pe_callB (k_len K rfl) (by rfl) M.len (by decide +kernel) (pa_cons (pv 1) pa_nil))) pa_nil))) (pg_name (i := 3) sc_sums.nd rfl (by first | exact Or.inl rfl | exact Or.inr rfl)) (pss_cons (ps_set (i := 4) sc_sums.nd rfl (by first | exact Or.inl rfl | exact Or.inr rfl) (pe_own G_by_years (hr.mono (by first | decide | omega)) (by rfl) p_body (pa_cons (pv 3) (pa_cons (pe_ix (k_ix K rfl) (pv 0) pe_int (fun _ _ => rfl)) (pa_cons (pe_callB (k_len K rfl) (by rfl) M.len (by decide +kernel) (pa_cons (pv 1) pa_nil)) pa_nil)))))
    (pss_one (ps_expr (k_bm K rfl PySem.F.plainAttrs_list PySem.F.slot_list_append PySem.F.type_list_append mt_append (pv 2) (pa_cons (pe_tup (pa_cons (pv 4) (pa_cons (pe_own G_owed (hr.mono (by first | decide | omega)) (by rfl) p_body (pa_cons (pv 0) (pa_cons (pv 1) (pa_cons (pv 4) pa_nil)))) pa_nil))) pa_nil))))))
    (pss_one (ps_ret (pv 2)))))), ?_⟩
  obtain ⟨F, y, yv, ok, hat, rfl, hy, l20, q⟩ := h
  obtain ⟨f, L, T, fs, ts, rfl, hf, hL, hfs, hT, hts⟩ := Frm.at hat
  have c8 := ok.c8
  refine Fl.go_start (σ0 := [some _, some _, none, none, none]) rfl ?_
  walk_at "s"
  rw [show (F.C : Int) * yv.length = ((F.C * yv.length : Nat) : Int) by rw [Int.natCast_mul]]
  refine if_d (fun c => ?_) (fun c => ?_)
  · walk_at "s"
    rcases q with ⟨_, q⟩ | ⟨h, _⟩
    · exact q _ (.refl _)
    · omega
  rcases q with ⟨h, _⟩ | ⟨l8, q⟩
  · omega
  walk_at "s"
  rename_i p0 hp0
  have sm1 : Same H (upd H p0 (.lst [])) := Same.new (.refl _) hp0
  have p01 : (upd H p0 (.lst [])) p0 = some (.lst []) := upd_same
  generalize upd H p0 (.lst []) = H1 at *
  have hf1 := sm1 _ _ hf
  have hy1 := sm1 _ _ hy
  refine ⟨F.C * yv.length, by rw [Int.natCast_mul], l8, fun pr H2 rv sm2 fpr hpr hrow => ?_⟩
  have sm02 := L2.Same.trans sm1 sm2
  have hf2 := sm02 _ _ hf
  have hy2 := sm02 _ _ hy
  have p02 := sm2 _ _ p01
  have lrv : rv.length = 2 ^ (F.C * yv.length) := by rw [hrow.1, binR_len]
  have lr1 : 1 ≤ rv.length := by rw [lrv]; exact Nat.one_le_two_pow
  have lr256 : rv.length ≤ 256 := by rw [lrv]; exact Nat.le_trans (Nat.pow_le_pow_right (by decide) l8) (by decide)
  have nfp : f ≠ p0 := fun e => by rw [e, hp0] at hf; cases hf
  have nyp : y ≠ p0 := fun e => by rw [e, hp0] at hy; cases hy
  have npp : pr ≠ p0 := fun e => by rw [e, p01] at fpr; cases fpr
  have hat2 := hat.le (Same.le sm02)
  rcases q with ⟨pss, hps, q⟩ | ⟨hb, q⟩
  · have lps := hps.len
    have nel : ∀ l, V.ref l ∈ yv → l ≠ p0 := fun l h e => by
      obtain ⟨j, hj, ej⟩ := List.getElem_of_mem h
      obtain ⟨ps', eps'⟩ : ∃ ps', pss[j]? = some ps' := ⟨_, List.getElem?_eq_getElem (by omega)⟩
      obtain ⟨l', vs', q', hb, _⟩ := hps.at_ j _ ps' (List.getElem?_eq_getElem hj) eps'
      rw [ej] at q'
      cases q'
      rw [e, hp0] at hb
      cases hb
    have hps2 := hps.same sm02
    refine for_lst (fun j σ' H' => ∃ (acc : List V) (y3 y4 : Option V), σ' = [some (.ref f), some (.ref y), some (.ref p0), y3, y4] ∧ H' p0 = some (.lst acc) ∧ AtAll H' (((F.ents pss yv.length).take j).map entD) acc ∧ acc.length = j ∧ (∀ b u, b ≠ p0 → H2 b = some u → H' b = some u))
      hpr ⟨[], none, none, rfl, p02, rfl, rfl, fun b u _ h => h⟩ (fun j σ' H' _ ⟨_, _, _, _, _, _, _, k⟩ => k _ _ npp hpr) ?_ ?_
    · rintro j x σ' H3 ex ⟨acc, y3, y4, rfl, hacc, hata, la, kp⟩
      have jl := (List.getElem?_eq_some_iff.mp ex).1
      obtain ⟨r, er⟩ : ∃ r, (binR (F.C * yv.length))[j]? = some r := ⟨_, List.getElem?_eq_getElem (by have := hrow.1; omega)⟩
      have lr := binR_row (List.mem_of_getElem? er)
      obtain ⟨t, rfl, ht2⟩ := hrow.2 j x r ex er
      have ntp : t ≠ p0 := fun e => by rw [e, p02] at ht2; cases ht2
      have lt3 : LeT H2 H3 := leT_keep kp p02
      have ht3 := kp _ _ ntp ht2
      have hf3 := kp _ _ nfp hf2
      have hy3 := kp _ _ nyp hy2
      walk_at "s"
      refine ⟨t, r, F.C, yv.length, rfl, ht3, rfl, rfl, c8, l20, fun tk H4 tv sm4 htk hty => ?_⟩
      have hy4 := sm4 _ _ hy3
      have htks := hty.tks (C := F.C) (fun x hx => byY_row lr hx)
      have hps4 := (hps2.kp kp lt3 nel).same sm4
      have hat4 := (hat2.leT lt3 F.tupO).le (Same.le sm4)
      have ltv := hty.1
      rw [byY_len] at ltv
      walk_at "s"
      refine ⟨F, y, yv, tk, tv, byY F.C yv.length r, ok, hat4, rfl, hy4, rfl, .inr htk, htks, by omega, l20, .inl ⟨pss, hps4, fun H5 sm5 => ?_⟩⟩
      have sm35 := L2.Same.trans sm4 sm5
      have hacc5 := sm35 _ _ hacc
      have hata5 := hata.le (Same.le sm35)
      have hty5 := hty.le (fun b ys h => sm5 _ _ h)
      have htk5 := sm5 _ _ htk
      walk_at "s"
      rename_i pt hpt
      have sm6 : Same H5 (upd H5 pt (.tup [.ref tk, .int (F.tot pss (byY F.C yv.length r) yv.length)])) := Same.new (.refl _) hpt
      have hpt6 : (upd H5 pt (.tup [.ref tk, .int (F.tot pss (byY F.C yv.length r) yv.length)])) pt = some (.tup [.ref tk, .int (F.tot pss (byY F.C yv.length r) yv.length)]) := upd_same
      have npt : pt ≠ p0 := fun e => by rw [e, hacc5] at hpt; cases hpt
      generalize upd H5 pt (.tup [.ref tk, .int (F.tot pss (byY F.C yv.length r) yv.length)]) = H6 at *
      have hacc6 := sm6 _ _ hacc5
      have k7 : ∀ b u, b ≠ p0 → H6 b = some u → (upd H6 p0 (.lst (acc ++ [.ref pt]))) b = some u := fun b u nb h => by rw [upd_ne nb]; exact h
      have lt7 : LeT H6 (upd H6 p0 (.lst (acc ++ [.ref pt]))) := leT_keep k7 hacc6
      have er' : (F.ents pss yv.length)[j]? = some (F.ent pss yv.length r) := by
        unfold Frm.ents
        rw [List.getElem?_map, er]
        rfl
      have hnew : At H6 (entD (F.ent pss yv.length r)) (.ref pt) := at_tup hpt6 (AtAll.cons (at_tup (sm6 _ _ htk5) ((hty5.le (fun b ys h => sm6 _ _ h)).atAll)) (AtAll.cons rfl AtAll.nil))
      refine ⟨acc ++ [.ref pt], _, _, rfl, upd_same, ?_, by rw [List.length_append, la]; rfl, fun b u nb h => k7 _ _ nb (sm6 _ _ (sm35 _ _ (kp _ _ nb h)))⟩
      rw [List.take_add_one, er', List.map_append]
      exact ((hata5.le (Same.le sm6)).leT lt7 (ents_tup _)).append (AtAll.one (hnew.leT lt7 (entD_tup _)))
    · rintro σ' H3 ⟨acc, y3, y4, rfl, hacc, hata, la, kp⟩
      rw [List.take_of_length_le (by unfold Frm.ents; rw [List.length_map, ← hrow.1]; exact Nat.le_refl _)] at hata
      walk_at "s"
      exact q p0 H3 acc (fun b u h => kp _ _ (fun e => by rw [e, hp0] at h; cases h) (sm02 _ _ h)) hp0 hacc hata
  · refine for_lst (fun j σ' H' => j = 0 ∧ σ' = [some (.ref f), some (.ref y), some (.ref p0), none, none] ∧ Same H2 H') hpr ⟨rfl, rfl, .refl _⟩ (fun j σ' H' _ ⟨_, _, k⟩ => k _ _ hpr) ?_ ?_
    · rintro j x σ' H3 ex ⟨rfl, rfl, sm3⟩
      obtain ⟨r, er⟩ : ∃ r, (binR (F.C * yv.length))[0]? = some r := ⟨_, List.getElem?_eq_getElem (by have := hrow.1; omega)⟩
      have lr := binR_row (List.mem_of_getElem? er)
      obtain ⟨t, rfl, ht2⟩ := hrow.2 0 x r ex er
      have ht3 := sm3 _ _ ht2
      have hf3 := sm3 _ _ hf2
      have hy3 := sm3 _ _ hy2
      have sm03 := L2.Same.trans sm02 sm3
      walk_at "s"
      refine ⟨t, r, F.C, yv.length, rfl, ht3, rfl, rfl, c8, l20, fun tk H4 tv sm4 htk hty => ?_⟩
      have hy4 := sm4 _ _ hy3
      have htks := hty.tks (C := F.C) (fun x hx => byY_row lr hx)
      have sm04 := L2.Same.trans sm03 sm4
      have ltv := hty.1
      rw [byY_len] at ltv
      have p04 := sm4 _ _ (sm3 _ _ p02)
      walk_at "s"
      exact ⟨F, y, yv, tk, tv, byY F.C yv.length r, ok, hat.le (Same.le sm04), rfl, hy4, rfl, .inr htk, htks, by omega, l20, .inr ⟨hb.same sm04, fun H5 sm5 => q _ (L2.Same.trans sm04 sm5)⟩⟩
    · rintro σ' H3 ⟨e, _⟩
      omega
abbrev s_least : Stmt := topS 55
theorem sc_least : FnScope ["form", "years", "found", "pair"] ["form", "years"] (defScope s_least) := ⟨rfl, rfl, rfl, by decide +kernel, rfl, by decide +kernel, by decide +kernel⟩
def sp_leastX (CT CP : Addr) : Sp2 := fun a b H Q E => ∃ (F : Frm) (y : Addr) (yv : List V), F.Ok 40 ∧ At H F.d a ∧ b = .ref y ∧ H y = some (.lst yv) ∧ yv.length ≤ 20 ∧
  ((8 < F.C * yv.length ∧ ∀ H', Same H H' → E (.ref CT) none H') ∨ (F.C * yv.length ≤ 8 ∧ ((∃ pss, PapsAt H yv pss ∧ ∀ v H', Same H H' → (∀ e0 es, F.ents pss yv.length = e0 :: es → At H' (entD (bst e0 (e0 :: es))) v) → Q v H') ∨ (PaB H yv ∧ ∀ H', Same H H' → E (.ref CP) none H'))))
theorem ok_least {CT CP : Addr} (M : Mg mg) (G_sums : Has P w K mg base "sums" ["form", "years"] 13 (sp2 (sp_sumsX CT CP))) (D : DefAt K mg "least" s_least ["form", "years"]) : Has P w K mg base "least" ["form", "years"] 14 (sp2 (sp_leastX CT CP)) := by
  refine .mk2 D sc_least fun fa cdv A outer s0 H a b Q E hr h => ⟨_, (pss_cons (ps_set (i := 2) sc_least.nd rfl (by first | exact Or.inl rfl | exact Or.inr rfl) pe_non)
    (pss_cons (ps_for own_p (by rfl) (k_pi K rfl (pe_own G_sums (hr.mono (by first | decide | omega)) (by rfl) p_body (pa_cons (pv 0) (pa_cons (pv 1) pa_nil)))) (pg_name (i := 3) sc_least.nd rfl (by first | exact Or.inl rfl | exact Or.inr rfl)) (pss_one (ps_if (PW.pt (pw_or (pt_cmpR op_isN (pv 2) pe_non (nomark _)) (pw_or1 (pt_cmpR o_lt (pe_ix (k_ix K rfl) (pv 3) pe_int (fun _ _ => rfl)) (pe_ix (k_ix K rfl) (pv 2) pe_int (fun _ _ => rfl)) (nomark _))))) (pss_one (ps_set (i := 2) sc_least.nd rfl (by first | exact Or.inl rfl | exact Or.inr rfl) (pv 3))) pss_nil)))
    (pss_one (ps_ret (pv 2))))), ?_⟩
  obtain ⟨F, y, yv, ok, hat, rfl, hy, l20, q⟩ := h
  refine Fl.go_start (σ0 := [some _, some _, none, none]) rfl ?_
  walk_at "s"
  rcases q with ⟨c, q⟩ | ⟨c, ⟨pss, hps, q⟩ | ⟨hb, q⟩⟩
  · exact ⟨F, y, yv, ok, hat, rfl, hy, l20, .inl ⟨c, q⟩⟩
  · refine ⟨F, y, yv, ok, hat, rfl, hy, l20, .inr ⟨c, .inl ⟨pss, hps, fun p H1 vs sm1 _ hp hes => ?_⟩⟩⟩
    obtain ⟨e0, es, ee⟩ : ∃ e0 es, F.ents pss yv.length = e0 :: es := by
      cases e : F.ents pss yv.length with
      | nil =>
        have := congrArg List.length e
        unfold Frm.ents at this
        rw [List.length_map, binR_len] at this
        have h1 : 1 ≤ 2 ^ (F.C * yv.length) := Nat.one_le_two_pow
        simp at this
      | cons a b => exact ⟨a, b, rfl⟩
    rw [ee] at hes
    have lv := hes.length
    rw [List.length_map] at lv
    refine for_lst (fun j σ' H' => Same H1 H' ∧ ∃ (y3 : Option V) (v : V), σ' = [some a, some (.ref y), some v, y3] ∧ ((j = 0 ∧ v = .non) ∨ (1 ≤ j ∧ At H' (entD (bst e0 ((e0 :: es).take j))) v))) hp ⟨.refl _, none, .non, rfl, .inl ⟨rfl, rfl⟩⟩ (fun j σ' H' _ ⟨k, _⟩ => k _ _ hp) ?_ ?_
    · rintro j x σ' H2 ex ⟨sm2, y3, v, rfl, hv⟩
      obtain ⟨d, ed, hd⟩ := hes.ix ex
      obtain ⟨e, ee2, rfl⟩ : ∃ e, (e0 :: es)[j]? = some e ∧ d = entD e := by
        rw [List.getElem?_map] at ed
        cases e : (e0 :: es)[j]? with
        | none => rw [e] at ed; cases ed
        | some t => rw [e] at ed; exact ⟨t, rfl, (Option.some.inj ed).symm⟩
      have hd2 := hd.le (Same.le sm2)
      have stp : bst e0 ((e0 :: es).take (j + 1)) = if e.2 < (bst e0 ((e0 :: es).take j)).2 then e else bst e0 ((e0 :: es).take j) := by
        unfold bst
        rw [List.take_add_one, ee2, List.foldl_append]
        rfl
      obtain ⟨te, ue, rfl, hte, u0, r0, rfl, h0, u1, r1, rfl, h1, h2⟩ := hd2
      cases (show u1 = .int e.2 from h1)
      cases (show r1 = [] from h2)
      have hde : At H2 (entD e) (.ref te) := ⟨te, _, rfl, hte, u0, _, rfl, h0, _, _, rfl, rfl, rfl⟩
      walk_at "s"
      rcases hv with ⟨rfl, rfl⟩ | ⟨j1, hv⟩
      · refine if_dt rfl ?_
        walk_at "s"
        refine ⟨_, _, rfl, .inr ⟨by omega, ?_⟩⟩
        rw [stp]
        have he : e0 = e := Option.some.inj ee2
        subst he
        show At H2 (entD (if e0.2 < e0.2 then e0 else e0)) _
        rw [ite_self]
        exact hde
      · obtain ⟨tb, ub, rfl, htb, v0, s0', rfl, g0, v1, s1, rfl, g1, g2⟩ := hv
        cases (show v1 = .int _ from g1)
        cases (show s1 = [] from g2)
        have hdb : At H2 (entD (bst e0 ((e0 :: es).take j))) (.ref tb) := ⟨tb, _, rfl, htb, v0, _, rfl, g0, _, _, rfl, rfl, rfl⟩
        refine if_df (by simp) ?_
        walk_at "s"
        refine if_d (fun c => ?_) (fun c => ?_)
        · walk_at "s"
          refine ⟨_, _, rfl, .inr ⟨by omega, ?_⟩⟩
          rw [stp, if_pos c]
          exact hde
        · walk_at "s"
          refine ⟨_, _, rfl, .inr ⟨by omega, ?_⟩⟩
          rw [stp, if_neg c]
          exact hdb
    · rintro σ' H2 ⟨sm2, y3, v, rfl, hv⟩
      walk_at "s"
      refine q v H2 (L2.Same.trans sm1 sm2) fun e0' es' e' => ?_
      rw [ee] at e'
      cases e'
      rcases hv with ⟨h, _⟩ | ⟨_, h⟩
      · rw [lv] at h
        cases h
      · rw [List.take_of_length_le (by omega)] at h
        exact h
  · exact ⟨F, y, yv, ok, hat, rfl, hy, l20, .inr ⟨c, .inr ⟨hb, q⟩⟩⟩
end
end Fl

-- after: k09c.tpl
namespace Fl
open PySem PySem.Spec PyProof.Rows L2 RZ
/-! ### all choices, the least of them -/
theorem mem_binR : ∀ {m : Nat} {r : List Bool}, r.length = m → r ∈ binR m
  | 0, r, h => by
    rw [List.eq_nil_of_length_eq_zero h]
    exact List.mem_cons_self
  | m + 1, r, h => by
    have ne : r ≠ [] := fun e => by rw [e] at h; simp at h
    have l : r.dropLast.length = m := by rw [List.length_dropLast, h]; rfl
    have e := List.dropLast_concat_getLast ne
    rw [binR, List.mem_flatMap]
    refine ⟨r.dropLast, mem_binR l, ?_⟩
    cases c : r.getLast ne with
    | false => rw [c] at e; simp [e]
    | true => rw [c] at e; simp [e]
theorem flat_len {C : Nat} : ∀ {tks : List (List Bool)}, (∀ r ∈ tks, r.length = C) → tks.flatten.length = C * tks.length
  | [], _ => by simp
  | r :: t, h => by
    rw [List.flatten_cons, List.length_append, flat_len fun x hx => h x (List.mem_cons_of_mem _ hx), h r List.mem_cons_self, List.length_cons, Nat.mul_succ, Nat.add_comm]
theorem flat_cut {C : Nat} : ∀ {tks : List (List Bool)} {k : Nat}, (∀ r ∈ tks, r.length = C) → k < tks.length → (tks.flatten.drop (k * C)).take C = tks.getD k []
  | [], _, _, h => by simp at h
  | r :: t, 0, h, _ => by
    have l := h r List.mem_cons_self
    rw [Nat.zero_mul, List.drop_zero, List.flatten_cons, List.take_append_of_le_length (by omega), List.take_of_length_le (by omega)]
    rfl
  | r :: t, k + 1, h, hk => by
    have l := h r List.mem_cons_self
    have e : (k + 1) * C = r.length + k * C := by rw [Nat.succ_mul, l, Nat.add_comm]
    rw [List.flatten_cons, e, List.drop_append, List.drop_of_length_le (by omega), List.nil_append, show r.length + k * C - r.length = k * C by omega,
      flat_cut (fun x hx => h x (List.mem_cons_of_mem _ hx)) (by simpa using hk)]
    rfl
theorem byY_flat {C : Nat} {tks : List (List Bool)} (h : ∀ r ∈ tks, r.length = C) : byY C tks.length tks.flatten = tks := by
  unfold byY
  apply List.ext_getElem
  · rw [List.length_map, List.length_range]
  · intro i h1 h2
    rw [List.getElem_map, List.getElem_range, flat_cut h h2, List.getD_eq_getElem?_getD, List.getElem?_eq_getElem h2]
    rfl
/-- takings of n years -/
def Shp (C n : Nat) (tks : List (List Bool)) : Prop := tks.length = n ∧ ∀ r ∈ tks, r.length = C
theorem ents_in {F : Frm} {pss : List (List (Str × Int))} {n : Nat} {tks : List (List Bool)} (h : Shp F.C n tks) : (tks, F.tot pss tks n) ∈ F.ents pss n := by
  obtain ⟨rfl, h⟩ := h
  unfold Frm.ents
  refine List.mem_map.mpr ⟨tks.flatten, mem_binR (flat_len h), ?_⟩
  unfold Frm.ent
  rw [byY_flat h]
theorem ents_of {F : Frm} {pss : List (List (Str × Int))} {n : Nat} {e : Ent} (h : e ∈ F.ents pss n) : Shp F.C n e.1 ∧ e.2 = F.tot pss e.1 n := by
  unfold Frm.ents at h
  obtain ⟨r, hr, rfl⟩ := List.mem_map.mp h
  exact ⟨⟨byY_len, fun x hx => byY_row (binR_row hr) hx⟩, rfl⟩
theorem bst_le : ∀ (es : List Ent) (e0 : Ent), (bst e0 es).2 ≤ e0.2 ∧ ∀ e ∈ es, (bst e0 es).2 ≤ e.2
  | [], e0 => ⟨Int.le_refl _, by simp⟩
  | e :: r, e0 => by
    have ih := bst_le r (if e.2 < e0.2 then e else e0)
    have eq : bst e0 (e :: r) = bst (if e.2 < e0.2 then e else e0) r := rfl
    rw [eq]
    have h1 : (if e.2 < e0.2 then e else e0).2 ≤ e0.2 ∧ (if e.2 < e0.2 then e else e0).2 ≤ e.2 := by
      split
      · exact ⟨by omega, Int.le_refl _⟩
      · exact ⟨Int.le_refl _, by omega⟩
    refine ⟨by omega, fun x hx => ?_⟩
    rcases List.mem_cons.mp hx with rfl | hx
    · omega
    · exact ih.2 x hx
theorem bst_mem (e0 : Ent) : ∀ es : List Ent, bst e0 es = e0 ∨ bst e0 es ∈ es := by
  intro es
  unfold bst
  induction es generalizing e0 with
  | nil => exact .inl rfl
  | cons e r ih =>
    rw [List.foldl_cons]
    rcases ih (if e.2 < e0.2 then e else e0) with h | h
    · rw [h]
      split
      · exact .inr (List.mem_cons_self ..)
      · exact .inl rfl
    · exact .inr (List.mem_cons_of_mem _ h)
theorem ents_len {F : Frm} {pss : List (List (Str × Int))} {n : Nat} (l8 : F.C * n ≤ 8) : (F.ents pss n).length ≤ 256 := by
  unfold Frm.ents
  rw [List.length_map, binR_len]
  exact Nat.le_trans (Nat.pow_le_pow_right (by decide) l8) (by decide)
/-- the first i of xs, else d -/
def filP {α : Type} (d : α) (xs : List α) (i : Nat) : List α := xs.take i ++ List.replicate (xs.length - i) d
theorem filP_zero {α : Type} {d : α} {xs : List α} : filP d xs 0 = List.replicate xs.length d := by simp [filP]
theorem filP_all {α : Type} {d : α} {xs : List α} : filP d xs xs.length = xs := by simp [filP]
theorem filP_len {α : Type} {d : α} {xs : List α} {i : Nat} (h : i ≤ xs.length) : (filP d xs i).length = xs.length := by
  unfold filP
  rw [List.length_append, List.length_take, List.length_replicate]
  omega
theorem filP_get {α : Type} {d : α} {xs : List α} {i : Nat} (h : i < xs.length) : (filP d xs i)[i]? = some d := by
  unfold filP
  rw [List.getElem?_append_right (by rw [List.length_take]; omega), List.length_take, List.getElem?_replicate]
  rw [if_pos (by omega)]
theorem filP_succ {α : Type} {d : α} {xs : List α} {i : Nat} (h : i < xs.length) : (filP d xs i).set i xs[i] = filP d xs (i + 1) := by
  unfold filP
  have l : (xs.take i).length = i := by rw [List.length_take]; omega
  have e : xs.take (i + 1) = xs.take i ++ [xs[i]] := by
    rw [List.take_add_one, List.getElem?_eq_getElem h]
    rfl
  rw [List.set_append_right _ _ (by omega), l, Nat.sub_self, show xs.length - i = (xs.length - (i + 1)) + 1 by omega, List.replicate_succ, List.set_cons_zero, e, List.append_assoc]
  rfl
end Fl

-- after: ex.tpl dct.tpl
namespace Fl
open PySem PySem.Spec PyProof.Rows L2 RZ
/-! ### the class: an object of four fields, its methods -/
/-- a method of the text -/
structure MethAt (K : PySem.W.Frag) (C : Addr) (m qual : Str) (st : Stmt) (ps : List Str) : Prop where
  ex : ∃ (f : Addr) (fd : FuncData), Fun K m qual st f fd ∧ Meth K C m f ∧ Binds K fd ps []
/-- a method that may be called, by its promise -/
structure HasM (P : Program) (w : World) (K : PySem.W.Frag) (mg : Str → Option Value) (base : Heap) (C : Addr) (m : Str) (ps : List Str) (k : Nat) (sp : Sp) : Prop where
  ex : ∃ (f : Addr) (fd : FuncData), FnOk P w K mg base (L2.CX P w) k f fd ps sp ∧ Meth K C m f ∧ Binds K fd ps []
section
variable {P : Program} {w : World} {K : PySem.W.Frag} {mg : Str → Option Value} {base : Heap} {C : Addr} {m qual : Str} {st : Stmt} {N ps : List Str} {k : Nat} {sp : Sp}
theorem HasM.mk' (D : MethAt K C m qual st ps) (S : FnScope N ps (defScope st)) (len : ∀ vs H Q E, sp vs H Q E → vs.length = ps.length)
    (hbody : ∀ (f : Addr) (cdv : Value) (A : Around) (outer : List Env) (s : Shared) (H : Hp) (vs : List V) (Q : VK) (E : XK), RoomOf k qual st f cdv A s → sp vs H Q E → Body P w K mg base N qual st f cdv A outer s H vs Q E) : HasM P w K mg base C m ps (k + 1) sp := by
  obtain ⟨f, fd, F, hm, hb⟩ := D.ex
  exact ⟨f, fd, F.okX S len (fun cdv A outer s H vs Q E hr h => hbody f cdv A outer s H vs Q E hr h), hm, hb⟩
theorem HasM.mk1 {g : Sp1} {p1 : Str} (D : MethAt K C m qual st [p1]) (S : FnScope N [p1] (defScope st))
    (hb : ∀ f cdv A outer s H a Q E, RoomOf k qual st f cdv A s → g a H Q E → Body P w K mg base N qual st f cdv A outer s H [a] Q E) : HasM P w K mg base C m [p1] (k + 1) (sp1 g) :=
  .mk' D S (fun vs H Q E ⟨a, e, _⟩ => by rw [e]; rfl) fun f cdv A outer s H vs Q E hr ⟨a, e, h⟩ => by subst e; exact hb f cdv A outer s H a Q E hr h
theorem HasM.mk2 {g : Sp2} {p1 p2 : Str} (D : MethAt K C m qual st [p1, p2]) (S : FnScope N [p1, p2] (defScope st))
    (hb : ∀ f cdv A outer s H a b Q E, RoomOf k qual st f cdv A s → g a b H Q E → Body P w K mg base N qual st f cdv A outer s H [a, b] Q E) : HasM P w K mg base C m [p1, p2] (k + 1) (sp2 g) :=
  .mk' D S (fun vs H Q E ⟨a, b, e, _⟩ => by rw [e]; rfl) fun f cdv A outer s H vs Q E hr ⟨a, b, e, h⟩ => by subst e; exact hb f cdv A outer s H a b Q E hr h
theorem HasM.mk3 {g : Sp3} {p1 p2 p3 : Str} (D : MethAt K C m qual st [p1, p2, p3]) (S : FnScope N [p1, p2, p3] (defScope st))
    (hb : ∀ f cdv A outer s H a b c Q E, RoomOf k qual st f cdv A s → g a b c H Q E → Body P w K mg base N qual st f cdv A outer s H [a, b, c] Q E) : HasM P w K mg base C m [p1, p2, p3] (k + 1) (sp3 g) :=
  .mk' D S (fun vs H Q E ⟨a, b, c, e, _⟩ => by rw [e]; rfl) fun f cdv A outer s H vs Q E hr ⟨a, b, c, e, h⟩ => by subst e; exact hb f cdv A outer s H a b c Q E hr h
theorem HasM.mk4 {g : Sp4} {p1 p2 p3 p4 : Str} (D : MethAt K C m qual st [p1, p2, p3, p4]) (S : FnScope N [p1, p2, p3, p4] (defScope st))
    (hb : ∀ f cdv A outer s H a b c d Q E, RoomOf k qual st f cdv A s → g a b c d H Q E → Body P w K mg base N qual st f cdv A outer s H [a, b, c, d] Q E) : HasM P w K mg base C m [p1, p2, p3, p4] (k + 1) (sp4 g) :=
  .mk' D S (fun vs H Q E ⟨a, b, c, d, e, _⟩ => by rw [e]; rfl) fun f cdv A outer s H vs Q E hr ⟨a, b, c, d, e, h⟩ => by subst e; exact hb f cdv A outer s H a b c d Q E hr h
end
/-- the file's fields -/
def flds (fv : V) (pa ta la : Addr) : List (Str × V) := [("form", fv), ("papers", .ref pa), ("taken", .ref ta), ("lines", .ref la)]
def FileO (C dx : Addr) (fv : V) (pa ta la : Addr) : HO := .ins C dx (flds fv pa ta la)
theorem neS {a b : String} (h : (a : Str) ≠ b) : ¬ ((a : Str) = b) := h
theorem fl_form {fv : V} {pa ta la : Addr} : (flds fv pa ta la).lookup ("form" : Str) = some fv := by
  unfold flds
  simp [List.lookup]
theorem fl_papers {fv : V} {pa ta la : Addr} : (flds fv pa ta la).lookup ("papers" : Str) = some (V.ref pa) := by
  have e : (("papers" : Str) == "form") = false := by decide +kernel
  unfold flds
  simp [List.lookup, e]
theorem fl_taken {fv : V} {pa ta la : Addr} : (flds fv pa ta la).lookup ("taken" : Str) = some (V.ref ta) := by
  have e : (("taken" : Str) == "form") = false := by decide +kernel
  have e2 : (("taken" : Str) == "papers") = false := by decide +kernel
  unfold flds
  simp [List.lookup, e, e2]
theorem fl_lines {fv : V} {pa ta la : Addr} : (flds fv pa ta la).lookup ("lines" : Str) = some (V.ref la) := by
  have e : (("lines" : Str) == "form") = false := by decide +kernel
  have e2 : (("lines" : Str) == "papers") = false := by decide +kernel
  have e3 : (("lines" : Str) == "taken") = false := by decide +kernel
  unfold flds
  simp [List.lookup, e, e2, e3]
def noFld (m : Str) : Bool := !(m == ("form" : Str)) && !(m == ("papers" : Str)) && !(m == ("taken" : Str)) && !(m == ("lines" : Str))
theorem fl_no {m : Str} (h : noFld m = true) {fv : V} {pa ta la : Addr} : (flds fv pa ta la).lookup m = none := by
  simp only [noFld, Bool.and_eq_true, Bool.not_eq_true'] at h
  obtain ⟨⟨⟨h1, h2⟩, h3⟩, h4⟩ := h
  unfold flds
  simp [List.lookup, h1, h2, h3, h4]
/-- the class of files -/
structure ClsF (K : PySem.W.Frag) (C : Addr) : Prop where
  cls : Cls K C
  form : NoAttr K C "form"
  papers : NoAttr K C "papers"
  taken : NoAttr K C "taken"
  lines : NoAttr K C "lines"
def FldQ (C : Addr) (sel : V → Addr → Addr → Addr → V) (o : HO) (R : V → Prop) : Prop := ∃ dx fv pa ta la, o = FileO C dx fv pa ta la ∧ R (sel fv pa ta la)
def tFldF (C : Addr) (sel : V → Addr → Addr → Addr → V) (te : TE) : TE := fun σ H Q => te σ H fun x H1 => ∃ a, x = .ref a ∧ ∃ o, H1 a = some o ∧ FldQ C sel o fun v => Q v H1
def IsFile (C : Addr) (o : HO) : Prop := ∃ w : Addr × V × Addr × Addr × Addr, o = FileO C w.1 w.2.1 w.2.2.1 w.2.2.2.1 w.2.2.2.2
def tMethF (C : Addr) (sp : Sp) (E : XK) (te : TE) (t : TA) : TE := fun σ H Q => te σ H fun x H1 => ∃ a, x = .ref a ∧ ∃ o, H1 a = some o ∧ IsFile C o ∧ t σ H1 fun vs H2 => sp (.ref a :: vs) H2 Q E
section
variable {σ : L2.St} {H : Hp} {Q : VK} {C dx pa ta la : Addr} {fv : V} {sel : V → Addr → Addr → Addr → V} {te : TE} {sp : Sp} {E : XK} {t : TA} {R : V → Prop}
instance : Step (tFldF C sel te σ H Q) (te σ H fun x H1 => ∃ a, x = .ref a ∧ ∃ o, H1 a = some o ∧ FldQ C sel o fun v => Q v H1) := ⟨fun h => h⟩
instance : Step (FldQ C sel (FileO C dx fv pa ta la) R) (R (sel fv pa ta la)) := ⟨fun h => ⟨dx, fv, pa, ta, la, rfl, h⟩⟩
instance : Step (tMethF C sp E te t σ H Q) (te σ H fun x H1 => ∃ a, x = .ref a ∧ ∃ o, H1 a = some o ∧ IsFile C o ∧ t σ H1 fun vs H2 => sp (.ref a :: vs) H2 Q E) := ⟨fun h => h⟩
instance {p : Prop} : Step (IsFile C (FileO C dx fv pa ta la) ∧ p) p := ⟨fun h => ⟨⟨(dx, fv, pa, ta, la), rfl⟩, h⟩⟩
theorem isFile : IsFile C (FileO C dx fv pa ta la) := ⟨(dx, fv, pa, ta, la), rfl⟩
end
section
variable {X : L2.Cx} {C : Addr} {m : Str} {ps : List Str} {k : Nat} {sp : Sp} {E : XK} {o e : Expr} {es : List Expr} {te : TE} {t : TA} {pos apos : Pos} {pl : Sem Bool}
theorem fldF {f : Str} {sel : V → Addr → Addr → Addr → V} (he : PE X e te) (c : Cls X.K C) (n : NoAttr X.K C f) (l : ∀ fv pa ta la, (flds fv pa ta la).lookup f = some (sel fv pa ta la)) (hb : attributeBase e f X.env (eval e X.env) = eval e X.env) : PE X (.Attribute e f pos) (tFldF C sel te) := by
  refine ⟨fun pins s σ H Q I h => ?_⟩
  refine attr_of hb (thn (he.run pins s σ H _ I h) fun u s1 ⟨x, H1, I1, rx, a, ex, o, ea, dx, fv, pa, ta, la, eo, q⟩ => ?_)
  subst ex eo
  obtain rfl : u = Value.ref a := rx
  exact getattr_ok I1 ea c n (l fv pa ta la) fun u' s2 I2 ru => ⟨_, H1, I2, ru, q⟩
theorem pe_ownM (he : PE X o te) (c : Cls X.K C) (h : HasM X.prog X.w X.K X.mg X.base C m ps k sp) (hno : noFld m = true) (hr : Room k X.A) (hx : Passes (L2.CX X.prog X.w) X E) (ha : PA X (e :: es) t)
    (hst : starEach (e :: es) X.env = (false, eval e X.env) :: starEach es X.env := by rfl) (hpl : (backTo pos (starEach es X.env)).any (·.1) = false := by rfl)
    (ht : eval (.Call (.Attribute o m apos) (e :: es) [] pos) X.env = (do
      let ov ← eval o X.env
      standAt apos.atName
      let (f, first) ← holding [ov] (getMethod ov m pl)
      callWith pos f first (backTo pos (starEach (e :: es) X.env)) (backToKw pos (keywordEach [] X.env))) := by rfl) :
    PE X (.Call (.Attribute o m apos) (e :: es) [] pos) (tMethF C sp E te t) := by
  obtain ⟨f, fd, F, hm, hb⟩ := h.ex
  refine ⟨fun pins s σ H Q I q0 => ?_⟩
  refine PySem.W.methodCall_KW (pl := pl) (thn (he.run pins s σ H _ I q0) fun u s1 ⟨x, H1, I1, rx, a, ex, o', ea, ⟨w, eo⟩, q⟩ => ?_) ht
  subst ex eo
  obtain rfl : u = Value.ref a := rx
  refine getmeth_ok I1 ea c hm (fl_no hno) ?_
  refine PySem.W.callWith_K (first := [.ref a]) (h₀ := X.base) I.ok.mod.kin hm.kp (thn (ha.run pos pins s1 σ H1 _ I1 q) fun us s2 ⟨vs, H2, I2, r, q2⟩ => ⟨I2.kIn, ?_⟩) hst hpl
  exact run_fn (us := .ref a :: us) (vs := .ref a :: vs) (ds := []) (dvs := []) F hr hb .nil hx I2 (.cons rfl r) (by rw [List.append_nil]; exact q2)
theorem pe_ownM0 (he : PE X o te) (c : Cls X.K C) (h : HasM X.prog X.w X.K X.mg X.base C m ps k sp) (hno : noFld m = true) (hr : Room k X.A) (hx : Passes (L2.CX X.prog X.w) X E)
    (ht : eval (.Call (.Attribute o m apos) [] [] pos) X.env = (do
      let ov ← eval o X.env
      standAt apos.atName
      let (f, first) ← holding [ov] (getMethod ov m pl)
      callWith pos f first (backTo pos (starEach [] X.env)) (backToKw pos (keywordEach [] X.env))) := by rfl) :
    PE X (.Call (.Attribute o m apos) [] [] pos) (tMethF C sp E te tNil) := by
  obtain ⟨f, fd, F, hm, hb⟩ := h.ex
  refine ⟨fun pins s σ H Q I q0 => ?_⟩
  refine PySem.W.methodCall_KW (pl := pl) (thn (he.run pins s σ H _ I q0) fun u s1 ⟨x, H1, I1, rx, a, ex, o', ea, ⟨w, eo⟩, q⟩ => ?_) ht
  subst ex eo
  obtain rfl : u = Value.ref a := rx
  refine getmeth_ok I1 ea c hm (fl_no hno) ?_
  exact PySem.W.callWith_K0 (first := [.ref a]) I1.kIn hm.kp (run_fn (us := [.ref a]) (vs := [.ref a]) (ds := []) (dvs := []) F hr hb .nil hx I1 (.cons rfl .nil) q)
/-- C(e, ..) -/
def tMakeF (C : Addr) (sp : Sp) (E : XK) (t : TA) : TE := fun σ H Q => t σ H fun vs H1 => ∀ x dx, H1 x = none → H1 dx = none → dx ≠ x → sp (.ref x :: vs) (upd (upd H1 dx (.own x)) x (.ins C dx [])) (fun v H2 => v = .non ∧ Q (.ref x) H2) E
/-- the class may be called -/
structure MkF (P : Program) (w : World) (K : PySem.W.Frag) (mg : Str → Option Value) (base : Heap) (x : Str) (C : Addr) (ps : List Str) (k : Nat) (sp : Sp) : Prop where
  ex : ∃ (f : Addr) (fd : FuncData), FnOk P w K mg base (L2.CX P w) k f fd ps sp ∧ Mk K C f ∧ Binds K fd ps [] ∧ mg x = some (.ref C)
theorem pe_makeF {x : Str} {p : Pos} (h : MkF X.prog X.w X.K X.mg X.base x C ps k sp) (hr : Room (k + 1) X.A) (hg : Gl X x) (hx : Passes (L2.CX X.prog X.w) X E)
    (ha : PA X (e :: es) t) (hdb : (x == ("__debug__" : Str)) = false := by decide) (he : starEach (e :: es) X.env = (false, eval e X.env) :: starEach es X.env := by rfl) (hpl : (backTo pos (starEach es X.env)).any (·.1) = false := by rfl) :
    PE X (.Call (.Name x p) (e :: es) [] pos) (tMakeF C sp E t) := by
  obtain ⟨f, fd, F, M, hb, hm⟩ := h.ex
  have q := pe_make (sp := sp) (p := p) (pos := pos) M F hr hg hm hb .nil hx ha hdb he hpl
  refine ⟨fun pins s σ H Q I w => q.run pins s σ H Q I ?_⟩
  have e2 : (fun (vs : List V) (H1 : Hp) => ∀ x dx, H1 x = none → H1 dx = none → dx ≠ x → sp (.ref x :: (vs ++ [])) (upd (upd H1 dx (.own x)) x (.ins C dx [])) (fun v H2 => v = .non ∧ Q (.ref x) H2) E) = fun vs H1 => ∀ x dx, H1 x = none → H1 dx = none → dx ≠ x → sp (.ref x :: vs) (upd (upd H1 dx (.own x)) x (.ins C dx [])) (fun v H2 => v = .non ∧ Q (.ref x) H2) E := by
    funext vs H1
    rw [List.append_nil]
  show t σ H _
  rw [e2]
  exact w
end
end Fl

-- after: cls.tpl
namespace Fl
open PySem PySem.Spec PyProof.Rows L2 RZ
/-! ### a class is called within a try -/
theorem run_makeS {X : L2.Cx} {CY : L2.CXT} {C f : Addr} {fd : FuncData} {k : Nat} {ps : List Str} {sp : Sp} {E : XK} {pins : List (Addr × Obj)} {σ : L2.St} {H : Hp} {s : Shared} {Q : VK} {us : List Value} {vs : List V}
    (M : Mk X.K C f) (F : FnOk X.prog X.w X.K X.mg X.base CY k f fd ps sp) (room : Room (k + 1) X.A) (bs : Binds X.K fd ps []) (pass : PassesAt CY X σ E) (I : L2.Inv X pins σ H s) (r : Vals vs us)
    (q : ∀ x dx, H x = none → H dx = none → dx ≠ x → sp (.ref x :: vs) (upd (upd H dx (.own x)) x (.ins C dx [])) (fun v H2 => v = .non ∧ Q (.ref x) H2) E) :
    wpAny (model X.prog X.w) X.A (call (.ref C) us) (EP X pins σ Q) X.xe s := by
  have q1 := q (s.heap.objs.size + 1) s.heap.objs.size (I.hok.fresh (Nat.le_succ _)) (I.hok.fresh (Nat.le_refl _)) (Nat.ne_of_lt (Nat.lt_succ_self _))
  have J := Inv.made (C := C) I
  have r2 : Vals (V.ref (s.heap.objs.size + 1) :: vs) (Value.ref (s.heap.objs.size + 1) :: us) := .cons rfl r
  have len : (Value.ref (s.heap.objs.size + 1) :: us).length = ps.length := (r2.length).symm.trans (F.len _ _ _ _ q1)
  have bind := bs _ (Value.ref (s.heap.objs.size + 1) :: us) J.kIn (by rw [List.append_nil]; exact len)
  rw [List.append_nil] at bind
  have body := F.run _ X.stack _ _ ⟨Value.ref (s.heap.objs.size + 1) :: us, []⟩ _ _ _ E (room.make C us []) (J.env0.make C us []) bind r2 q1
  refine wpAny_call (make_map (f := f) I.kIn M.makes M.init (beq_iff_eq.mp M.fn) (codeAny_mono body fun res s2 out => ?_))
  rcases res with e | fl
  · exact pass pins _ _ e s2 J out
  · cases fl with
    | ret u =>
      obtain ⟨v, H3, I3, rv, ev, q3⟩ := J.after out
      subst ev
      exact ⟨rv, V.ref (s.heap.objs.size + 1), H3, I3, rfl, q3⟩
    | _ => exact out.elim
def tMakeS (C : Addr) (sp : Sp) (E : L2.St → XK) (t : TA) : TE := fun σ H Q => t σ H fun vs H1 => ∀ x dx, H1 x = none → H1 dx = none → dx ≠ x → sp (.ref x :: vs) (upd (upd H1 dx (.own x)) x (.ins C dx [])) (fun v H2 => v = .non ∧ Q (.ref x) H2) (E σ)
instance {σ : L2.St} {H : Hp} {Q : VK} {E : L2.St → XK} {C : Addr} {sp : Sp} {t : TA} : Step (tMakeS C sp E t σ H Q) (t σ H fun vs H1 => ∀ x dx, H1 x = none → H1 dx = none → dx ≠ x → sp (.ref x :: vs) (upd (upd H1 dx (.own x)) x (.ins C dx [])) (fun v H2 => v = .non ∧ Q (.ref x) H2) (E σ)) := ⟨fun h => h⟩
instance {σ : L2.St} {H : Hp} {Q : VK} {E : XK} {C : Addr} {sp : Sp} {t : TA} : Step (tMakeF C sp E t σ H Q) (t σ H fun vs H1 => ∀ x dx, H1 x = none → H1 dx = none → dx ≠ x → sp (.ref x :: vs) (upd (upd H1 dx (.own x)) x (.ins C dx [])) (fun v H2 => v = .non ∧ Q (.ref x) H2) E) := ⟨fun h => h⟩
theorem pe_makeS {X : L2.Cx} {x : Str} {p pos : Pos} {C : Addr} {ps : List Str} {k : Nat} {sp : Sp} {E : L2.St → XK} {e : Expr} {es : List Expr} {t : TA} (h : MkF X.prog X.w X.K X.mg X.base x C ps k sp) (hr : Room (k + 1) X.A) (hg : Gl X x) (hx : ∀ σ, PassesAt (L2.CX X.prog X.w) X σ (E σ))
    (ha : PA X (e :: es) t) (hdb : (x == ("__debug__" : Str)) = false := by decide) (st : starEach (e :: es) X.env = (false, eval e X.env) :: starEach es X.env := by rfl) (pl : (backTo pos (starEach es X.env)).any (·.1) = false := by rfl) :
    PE X (.Call (.Name x p) (e :: es) [] pos) (tMakeS C sp E t) := by
  obtain ⟨f, fd, F, M, bs, hm⟩ := h.ex
  refine ⟨fun pins s σ H Q I w => ?_⟩
  refine wpAny_Call_Name_kw (ld_glob I hg hm ?_ hdb)
  refine PySem.W.callWith_K (h₀ := X.base) I.ok.mod.kin M.kp (thn (ha.run pos pins s σ H _ I w) fun us s1 ⟨vs, H1, I1, r, q1⟩ => ⟨I1.kIn, ?_⟩) st pl
  exact run_makeS M F hr bs (hx σ) I1 r q1
end Fl

-- after: gen0.tpl
namespace Fl
open PySem PySem.Spec PyProof.Rows L2
/-! ### pairs of a text and a number, sorted -/
abbrev kSN (p : Str × Int) : List (Int ⊕ List Nat) := [.inr p.1.cps.toList, .inl p.2]
def leSN (a b : Str × Int) : Prop := (listOrd itemOrd).kle (kSN a) (kSN b)
theorem kSN_inj {a b : Str × Int} (h : kSN a = kSN b) : a = b := by
  obtain ⟨⟨x⟩, i⟩ := a
  obtain ⟨⟨y⟩, j⟩ := b
  simp only [kSN, List.cons.injEq, Sum.inr.injEq, Sum.inl.injEq, and_true] at h
  obtain ⟨h1, h2⟩ := h
  have : x = y := Array.toList_inj.mp h1
  rw [this, h2]
theorem leSN_anti {a b : Str × Int} (h1 : leSN a b) (h2 : leSN b a) : a = b := kSN_inj ((listOrd itemOrd).kle_antisymm h1 h2)
/-- just one list is sorted so -/
theorem leSN_uniq : ∀ {xs ys : List (Str × Int)}, xs.Perm ys → xs.Pairwise leSN → ys.Pairwise leSN → xs = ys := fun p a b => p.eq_of_pairwise (fun _ _ _ _ h1 h2 => leSN_anti h1 h2) a b
def shSN : Nat → Bool := fun j => j == 0
/-- the tuple of the pair stands at t -/
def TupSN (h : Heap) (t : Addr) (p : Str × Int) : Prop := ∃ (o : Obj) (n : Nat) (t1 t2 : Tok), h.get? t = some o ∧ o.cls = .type "tuple" ∧ o.data = .seq #[.str p.1 t1, .int p.2 t2] n
theorem TupSN.key {h : Heap} {t : Addr} {p : Str × Int} (x : TupSN h t p) : G.tupKeyC h shSN (.ref t) = some (kSN p) := by
  obtain ⟨o, n, t1, t2, ho, hc, hd⟩ := x
  have e1 : G.isTupObj h (.ref t) = true := by
    simp [G.isTupObj, ho, hc]
  unfold G.tupKeyC
  rw [if_pos e1]
  simp [tupKey, ho, hd, tupItems, shSN]
theorem TupSN.tup {h : Heap} {t : Addr} {p : Str × Int} (x : TupSN h t p) : ∃ f, TupOf h shSN (.ref t) f := by
  obtain ⟨o, n, t1, t2, ho, hc, hd⟩ := x
  exact ⟨_, t, o, _, n, rfl, ho, hc, hd, rfl, ⟨fun e => (by cases e), fun _ => ⟨_, _, rfl⟩⟩⟩
theorem TupSN.old {h h' : Heap} {t : Addr} {p : Str × Int} (x : TupSN h t p) (k : ∀ o, h.get? t = some o → h'.get? t = some o) : TupSN h' t p := let ⟨o, n, t1, t2, ho, r⟩ := x; ⟨o, n, t1, t2, k o ho, r⟩
theorem tupsSN {h : Heap} {k : Value → Str × Int} : ∀ {vs : List Value}, (∀ v ∈ vs, ∃ t, v = .ref t ∧ TupSN h t (k v)) → ∃ fs, TupsOf h shSN vs fs
  | [], _ => ⟨[], .nil⟩
  | v :: r, x => by
    obtain ⟨fs, ih⟩ := tupsSN (vs := r) fun u hu => x u (List.mem_cons_of_mem _ hu)
    obtain ⟨t, rfl, ht⟩ := x v (List.mem_cons_self ..)
    obtain ⟨f, hf⟩ := ht.tup
    exact ⟨f :: fs, .cons hf ih⟩
/-- what the sort tells, in plain words -/
theorem outSN {h : Heap} {k : Value → Str × Int} {vs : List Value} {xs : Array Keyed} (x : ∀ v ∈ vs, ∃ t, v = .ref t ∧ TupSN h t (k v)) (hp : xs.Perm (pairsOf vs)) (hs : SortedToK (G.tupKindC h shSN) xs (pairsOf vs).size) :
    (xs.map (·.2)).toList.Perm vs ∧ (xs.map (·.2)).toList.Pairwise (fun u v => leSN (k u) (k v)) := by
  have h1 : xs.toList.Perm (vs.zip vs) := by
    have := Array.perm_iff_toList_perm.mp hp
    rwa [pairsOf_toList] at this
  have m2 : (vs.zip vs).map Prod.snd = vs := List.map_snd_zip (Nat.le_refl _)
  refine ⟨by rw [Array.toList_map]; exact m2 ▸ h1.map Prod.snd, ?_⟩
  rw [Array.toList_map, List.pairwise_map, List.pairwise_iff_getElem]
  intro i j hi hj hij
  have lj : j < xs.size := by simpa using hj
  have li : i < xs.size := by omega
  have e := hs i j (by omega) (by rw [← hp.size_eq]; exact lj)
  have kk : ∀ m (hm : m < xs.size), KK (G.tupKindC h shSN) xs m = kSN (k (xs.toList[m]'(by simpa using hm)).2) := by
    intro m hm
    have mem : xs.toList[m]'(by simpa using hm) ∈ vs.zip vs := h1.mem_iff.mp (List.getElem_mem _)
    obtain ⟨e1, e2⟩ := mem_zip_self mem
    rw [e1] at e2
    obtain ⟨t, e3, ht⟩ := x _ e2
    unfold KK
    rw [Array.getElem?_eq_getElem hm]
    have e4 : xs[m] = xs.toList[m]'(by simpa using hm) := by simp
    show ((G.tupKindC h shSN).keyOf (xs[m]).1).getD _ = _
    rw [e4, e1]
    show (G.tupKeyC h shSN (xs.toList[m]'(by simpa using hm)).2).getD _ = _
    have := ht.key
    rw [← e3] at this
    rw [this]
    rfl
  rw [kk i li, kk j lj] at e
  exact e
section
variable {X : L2.Cx}
/-- sorted(xs), xs a list of these -/
def rSortSN (K : PySem.W.Frag) : List V → Hp → VK → Prop := fun vs H Q => ∃ (a : Addr) (xs : List V) (k : V → Str × Int), vs = [.ref a] ∧ SqL K H a xs ∧ (∀ x ∈ xs, ∃ t, x = V.ref t ∧ H t = some (.tup [.str (k x).1, .int (k x).2])) ∧
  ∀ ys p, ys.Perm xs → ys.Pairwise (fun x y => leSN (k x) (k y)) → H p = none → Q (.ref p) (upd H p (.lst ys))
theorem tupSN_of {pins : List (Addr × Obj)} {σ : L2.St} {H : Hp} {s : Shared} (I : Inv X pins σ H s) {t : Addr} {p : Str × Int} (h : H t = some (.tup [.str p.1, .int p.2])) : TupSN s.heap t p := by
  obtain ⟨_, its, r, o, ho, hc, n, hd⟩ := I.hok _ _ h
  obtain ⟨u1, u2, rfl, ⟨t1, e1⟩, ⟨t2, e2⟩⟩ := vals2 r
  subst e1 e2
  exact ⟨o, n, t1, t2, ho, hc, hd⟩
theorem cr_sortSN : CallR X (.builtin "sorted") (rSortSN X.K) := by
  intro pins s σ H vs us Q I r h
  obtain ⟨a, xs, k, rfl, hs, hx, q⟩ := h
  obtain ⟨its, rv, hl, hz⟩ := I.list hs
  obtain ⟨u, rfl, ru⟩ := vals1 r
  obtain rfl : u = Value.ref a := ru
  obtain ⟨e1, e2⟩ := refs_back rv fun x m => by
    obtain ⟨t, e, _⟩ := hx x m
    exact ⟨t, e⟩
  have ht : ∀ v ∈ its, ∃ t, v = .ref t ∧ TupSN s.heap t (k (backV v)) := fun v hv => by
    obtain ⟨t, rfl⟩ := e2 v hv
    have hm : V.ref t ∈ xs := by rw [e1]; exact List.mem_map.mpr ⟨_, hv, rfl⟩
    obtain ⟨t', e, ht⟩ := hx _ hm
    cases e
    exact ⟨t, rfl, tupSN_of I ht⟩
  obtain ⟨fs, hf⟩ := tupsSN ht
  have hz' : its.length ≤ sizeLine := by rw [← rv.length]; exact hz
  refine G.sorted_tups (shape := shSN) hl.isList hf (fun v hv => by obtain ⟨t, rfl, h⟩ := ht v hv; exact ⟨_, h.key⟩) hz' fun st' hp hs' _ => ?_
  obtain ⟨o1, o2⟩ := outSN ht hp hs'
  obtain ⟨ep, he'⟩ := PyProof.Rows.sortedAll_at s.heap its ((arrOf st').map (·.2))
  have h3 : ∀ u ∈ ((arrOf st').map (·.2)).toList, ∃ a, u = Value.ref a := fun u hu => e2 u (o1.mem_iff.mp hu)
  have hp2 : (((arrOf st').map (·.2)).toList.map backV).Perm xs := by
    rw [e1]
    exact o1.map backV
  have hlen : (((arrOf st').map (·.2)).toList.map backV).length ≤ sizeLine := by
    rw [hp2.length_eq]
    exact hz
  exact ⟨.ref _, upd H (s.heap.objs.size + 1) (.lst (((arrOf st').map (·.2)).toList.map backV)), I.laid (t' := s.toks) (fun _ _ => PyProof.Rows.sortedAll_old) (Nat.le_succ _) ⟨hlen, _, ep, vals_back h3, he'⟩, rfl, q _ _ hp2 (List.pairwise_map.mpr o2) (I.hok.fresh (Nat.le_succ _))⟩
theorem k_sortSN (K : PySem.W.Frag) (h : X.K = K) : CallR X (.builtin "sorted") (rSortSN K) := by subst h; exact cr_sortSN
end
end Fl

-- after: srt.tpl
namespace Fl
open PySem PySem.Spec PyProof.Rows L2
/-! ### sorted(d.items()), d a dict of texts and numbers -/
abbrev kvSN (p : Str × Int) : L2.Key × V := (Sum.inr p.1, .int p.2)
theorem pairs_get {P : Program} {w : World} : ∀ {es : List DictEntry} {kvs : List (L2.Key × Value)} {j : Nat} {e : DictEntry}, Pairs (mixKind P w) es kvs → es[j]? = some e → ∃ kv, kvs[j]? = some kv ∧ keyIs kv.1 e.key = true ∧ e.val = kv.2
  | _, _, j, e, .nil, h => by simp at h
  | _, _, 0, e, .cons h1 h2 _, h => by
    have h := Option.some.inj (show some _ = some e by simpa using h)
    subst h
    exact ⟨_, rfl, h1, h2⟩
  | _, _, j + 1, e, .cons _ _ t, h => by
    obtain ⟨kv, h1, h2⟩ := pairs_get (j := j) t (by simpa using h)
    exact ⟨kv, by simpa using h1, h2⟩
theorem pairs_len {P : Program} {w : World} : ∀ {es : List DictEntry} {kvs : List (L2.Key × Value)}, Pairs (mixKind P w) es kvs → es.length = kvs.length
  | _, _, .nil => rfl
  | _, _, .cons _ _ t => by rw [List.length_cons, List.length_cons, pairs_len t]
def rSortItN : V → Hp → VK → Prop := fun x H Q => ∃ (d : Addr) (qs : List (Str × Int)), x = .ref d ∧ H d = some (.dK (qs.map kvSN)) ∧
  ∀ (H' : Hp) (p : Addr) (ys : List V) (k : V → Str × Int), Same H H' → H p = none → H' p = some (.lst ys) → (ys.map k).Perm qs → (ys.map k).Pairwise leSN → (∀ y ∈ ys, ∃ t, y = V.ref t ∧ H t = none ∧ t ≠ p ∧ H' t = some (.tup [.str (k y).1, .int (k y).2])) → Q (.ref p) H'
def tSortIt (te : TE) : TE := fun σ H Q => te σ H fun x H1 => rSortItN x H1 Q
/-- what the pair at an address is -/
def prOf : List Value → Str × Int
  | .str x _ :: .int i _ :: _ => (x, i)
  | _ => ("", 0)
def prAt (h : Heap) : Value → Str × Int
  | .ref a => match h.get? a with
    | some o => (match o.data with
      | .seq xs _ => prOf xs.toList
      | _ => ("", 0))
    | none => ("", 0)
  | _ => ("", 0)
theorem prAt_of {h : Heap} {t : Addr} {p : Str × Int} (x : TupSN h t p) : prAt h (.ref t) = p := by
  obtain ⟨o, n, t1, t2, ho, hc, hd⟩ := x
  simp only [prAt, ho, hd, prOf]
def valB : V → Value
  | .ref a => .ref a
  | _ => .none
theorem valB_back {us : List Value} (h : ∀ u ∈ us, ∃ a, u = Value.ref a) : (us.map backV).map valB = us := by
  induction us with
  | nil => rfl
  | cons u r ih =>
    obtain ⟨a, rfl⟩ := h u (List.mem_cons_self ..)
    rw [List.map_cons, List.map_cons, ih fun v hv => h v (List.mem_cons_of_mem _ hv)]
    rfl
section
variable {X : L2.Cx} {e : Expr} {te : TE} {p apos cpos pos : Pos}
theorem pe_sortItems (hc : X.calm = true) (he : PE X e te) (hg : Gl X "sorted") (hm : X.mg "sorted" = none) (hv : bootBuiltins "sorted" = some (.builtin "sorted") := by decide +kernel) (hbase : attributeBase e "items" X.env (eval e X.env) = eval e X.env := by rfl) (hline : (apos.endLine == cpos.line) = true := by rfl)
    (hs : starEach [.Call (.Attribute e "items" apos) [] [] cpos] X.env = (false, eval (.Call (.Attribute e "items" apos) [] [] cpos) X.env) :: starEach [] X.env := by rfl) :
    PE X (.Call (.Name "sorted" p) [.Call (.Attribute e "items" apos) [] [] cpos] [] pos) (tSortIt te) := by
  refine ⟨fun pins s σ H Q I hq => ?_⟩
  refine wpAny_Call_Name_kw (ld_blt I hg hm hv ?_)
  refine PyProof.Rows.callWith_builtin1 ?_ hs rfl
  rw [hs]
  show wpAny _ _ (spliced ((false, eval (.Call (.Attribute e "items" apos) [] [] cpos) X.env) :: backTo pos (starEach [] X.env))) _ _ s
  refine Calls.spliced_cons ?_
  refine wpAny_Call_method (T := "dict") (id := "dict.items") hbase rfl hline F.plainAttrs_dict F.slot_dict_items F.type_dict_items (thn (he.run pins s σ H _ I hq) fun u s1 ⟨x, H1, I1, rx, d, qs, ex, hd, q⟩ => ?_)
  subst ex
  obtain rfl : u = Value.ref d := rx
  obtain ⟨hz, hs0, vs, kv, hdo⟩ := I1.hok d _ hd
  have lk : (qs.map kvSN).length = vs.length := Paired.length kv
  rw [List.length_map] at lk
  obtain ⟨o, es, ep, ho, hx, hdat, hks, hps, _⟩ := id hdo
  have le : es.size = vs.length := by have := pairs_len hps; simpa using this
  refine ⟨hdo.typeIs, hdo.mapOf.noDict, ?_⟩
  show wpAny _ _ (callWith cpos (.builtin "dict.items") [.ref d] [] []) _ X.xe s1
  refine method_meetsIn F.slot_dict_items F.entry_dict_items rfl (PySem.evalArgs_none ⟨rfl, hdo.typeIs, F.args_dict_items_1 _, _, meets_dict_items (mixKind X.prog X.w) d hs0, ⟨vs, hdo⟩, ?_⟩)
  refine Calls.spliced_nil ?_
  have I2 : Inv X pins σ H1 { s1 with heap := s1.heap.push { cls := .type "dict_items", data := .fields #[.ref d] } } := I1.kept (t' := s1.toks) fun b ob q => Heap.get?_push_of_some _ q
  have hm2 : DT.Raw (s1.heap.push { cls := .type "dict_items", data := .fields #[.ref d] }) d es ep := DT.Raw.push ⟨o, ho, hx, hdat⟩ _
  have hv2 : (s1.heap.push { cls := .type "dict_items", data := .fields #[.ref d] }).IsItemsView s1.heap.objs.size d := ⟨_, Heap.get?_push_size _ rfl, rfl, rfl⟩
  generalize s1.heap.objs.size = vw at *
  generalize s1.heap.push { cls := .type "dict_items", data := .fields #[.ref d] } = h1 at *
  refine DT.sortedI (s := { s1 with heap := h1 }) (es := es) (ep := ep) (I1.ok.hd hc) hv2 hm2 (by rw [le, ← lk]; simpa using hz) fun h' tk as hk hlt hl hG => ?_
  have hk : ∀ b o, h1.get? b = some o → h'.get? b = some o := hk
  have lak : as.length = qs.length := by omega
  have nd : as.Nodup := List.Pairwise.imp (fun h => Nat.ne_of_lt h) hG.rise
  have pr : ∀ (j : Nat) (b : Addr), as[j]? = some b → ∃ p : Str × Int, qs[j]? = some p ∧ TupSN h' b p := by
    intro j b hj
    obtain ⟨en, he, hg⟩ := hG.pairs j b hj
    obtain ⟨kv', e1, e2, e3⟩ := pairs_get hps (j := j) (e := en) (by rw [Array.getElem?_toList]; exact he)
    obtain ⟨q0, e4, e5, e6⟩ := L2.DX.pget kv e1
    rw [List.getElem?_map] at e4
    cases e7 : qs[j]? with
    | none => rw [e7] at e4; cases e4
    | some p =>
      rw [e7] at e4
      have e8 := Option.some.inj e4
      subst e8
      have e5 : (Sum.inr p.1 : L2.Key) = kv'.1 := e5
      obtain ⟨t2, e6⟩ : ∃ t2, kv'.2 = .int p.2 t2 := e6
      rw [← e5] at e2
      rcases keyIs_shape e2 with ⟨_, _, z, _⟩ | ⟨x, t1, z, e9⟩
      · cases z
      · have z := Sum.inr.inj z
        subst z
        exact ⟨p, rfl, _, 0, t1, t2, hg, rfl, by rw [e9, e3, e6]⟩
  have hob : (h'.push { cls := .type "list", data := .seq (as.map Value.ref).toArray }).get? h'.objs.size = some (seqObj "list" (as.map Value.ref).toArray 0) := Heap.get?_push_size _ rfl
  have ne0 : ∀ b o, h'.get? b = some o → b ≠ h'.objs.size := fun b o e => Nat.ne_of_lt (Heap.lt_size e)
  have ka : ∀ b o, h'.get? b = some o → (h'.push { cls := .type "list", data := .seq (as.map Value.ref).toArray }).get? b = some o := fun b o e => Heap.get?_push_of_some _ e
  generalize h'.push { cls := .type "list", data := .seq (as.map Value.ref).toArray } = h2 at *
  have tp : ∀ (j : Nat) (b : Addr), as[j]? = some b → ∃ p : Str × Int, qs[j]? = some p ∧ TupSN h2 b p := fun j b hj => let ⟨p, e1, e2⟩ := pr j b hj; ⟨p, e1, e2.old fun o e => ka _ _ e⟩
  have tv : ∀ v ∈ as.map Value.ref, ∃ t, v = .ref t ∧ TupSN h2 t (prAt h2 v) := fun v hv => by
    obtain ⟨b, hb, rfl⟩ := List.mem_map.mp hv
    obtain ⟨j, hj⟩ := List.mem_iff_getElem?.mp hb
    obtain ⟨p, _, e2⟩ := tp j b hj
    exact ⟨b, rfl, by rw [prAt_of e2]; exact e2⟩
  have eqs : (as.map Value.ref).map (prAt h2) = qs := by
    apply List.ext_getElem?
    intro j
    rw [List.map_map, List.getElem?_map]
    cases ej : as[j]? with
    | none => rw [List.getElem?_eq_none (by have := List.getElem?_eq_none_iff.mp ej; omega)]; rfl
    | some b =>
      obtain ⟨p, e1, e2⟩ := tp j b ej
      rw [e1]
      show some (prAt h2 (.ref b)) = _
      rw [prAt_of e2]
  obtain ⟨fs, hf⟩ := tupsSN tv
  refine wpAny_call_entry PyProof.Rows.slot_list_sort ⟨_, hob, rfl⟩ PyProof.Rows.entry_list_sort
    (G.list_sort_tups (s := { s1 with heap := h2, toks := tk }) (shape := shSN) hob hf (fun v hv => by obtain ⟨t, rfl, h⟩ := tv v hv; exact ⟨_, h.key⟩) (by rw [List.length_map, lak, ← List.length_map (f := kvSN)]; exact hz) fun st' hp hs' _ => ⟨.none, rfl, ?_⟩) (PyProof.Rows.args_list_sort _)
  obtain ⟨o1, o2⟩ := outSN (h := h2) tv hp hs'
  generalize ((arrOf st').map (·.2)) = out at o1 o2 ⊢
  have h3 : ∀ u ∈ out.toList, ∃ a, u = Value.ref a ∧ a ∈ as := fun u hu => by
    obtain ⟨a, ha, rfl⟩ := List.mem_map.mp (o1.mem_iff.mp hu)
    exact ⟨a, rfl, ha⟩
  have h4 : ∀ u ∈ out.toList, ∃ a, u = Value.ref a := fun u hu => let ⟨a, e, _⟩ := h3 u hu; ⟨a, e⟩
  show EP X pins σ Q (.ref h'.objs.size) { s1 with heap := sortedHeap h2 h'.objs.size (as.map Value.ref) out, toks := tk }
  have kF : ∀ b o, b ≠ h'.objs.size → h2.get? b = some o → (sortedHeap h2 h'.objs.size (as.map Value.ref) out).get? b = some o := fun b o hb e => (PyProof.Rows.sortedHeap_old hb (Heap.lt_size e)).trans e
  have kS : ∀ b o, h1.get? b = some o → (sortedHeap h2 h'.objs.size (as.map Value.ref) out).get? b = some o := fun b o e => kF b o (ne0 _ _ (hk b o e)) (ka b o (hk b o e))
  obtain ⟨eF, heF⟩ := PyProof.Rows.sortedHeap_at (vs := as.map Value.ref) (out := out) hob
  have I3 : Inv X pins σ H1 { s1 with heap := sortedHeap h2 h'.objs.size (as.map Value.ref) out, toks := tk } := I2.kept (t' := tk) kS
  have hlt : h1.objs.size < h'.objs.size := hlt
  have fresh : ∀ b, h1.objs.size ≤ b → H1 b = none := fun b hb => I2.hok.fresh hb
  have hn0 : H1 h'.objs.size = none := fresh _ (Nat.le_of_lt hlt)
  have hlen : (out.toList.map backV).length ≤ sizeLine := by
    rw [List.length_map, o1.length_eq, List.length_map, lak, ← List.length_map (f := kvSN)]
    exact hz
  have I4 : Inv X pins σ (upd H1 h'.objs.size (.lst (out.toList.map backV))) { s1 with heap := sortedHeap h2 h'.objs.size (as.map Value.ref) out, toks := tk } :=
    I3.take (h' := sortedHeap h2 h'.objs.size (as.map Value.ref) out) (t' := tk) (fun b ob _ e => e) (I2.fpOk (Nat.le_of_lt hlt) hn0) ⟨hlen, out.toList, eF, vals_back h4, heF⟩
  obtain ⟨H2, I5, g, qt⟩ := L2.DX.takeT (P := fun b vs => vs = [.str (prAt h2 (.ref b)).1, .int (prAt h2 (.ref b)).2]) I2 as _ I4 nd fun b hb => by
    obtain ⟨j, hj⟩ := List.mem_iff_getElem?.mp hb
    obtain ⟨p, _, hT⟩ := tp j b hj
    have hT0 := hT
    obtain ⟨o, n, t1, t2, ho, hc', hd'⟩ := hT
    have hbl : h1.objs.size ≤ b := Nat.le_of_lt (hG.above b hb)
    have hbn : b ≠ h'.objs.size := by
      obtain ⟨p', _, o', _, _, _, ho', _⟩ := pr j b hj
      exact ne0 _ _ ho'
    refine ⟨hbl, by rw [upd_ne hbn]; exact fresh _ hbl, _, rfl, fun H3 => ⟨(by rw [sizeLine_eq]; show 2 ≤ 16777216; omega), [Value.str p.1 t1, Value.int p.2 t2], ?_, ⟨_, kF _ _ hbn ho, hc', n, hd'⟩⟩⟩
    rw [prAt_of hT0]
    exact .cons ⟨t1, rfl⟩ (.cons ⟨t2, rfl⟩ .nil)
  have gr : ∀ b o, H1 b = some o → H2 b = some o := fun b o e => g b o (by rw [upd_ne (ne_of_none e hn0)]; exact e)
  have em : (out.toList.map backV).map (prAt h2 ∘ valB) = out.toList.map (prAt h2) := by
    rw [← List.map_map, valB_back h4]
  refine ⟨.ref h'.objs.size, H2, I5, rfl, q H2 h'.objs.size (out.toList.map backV) (prAt h2 ∘ valB) gr hn0 (g _ _ upd_same) ?_ ?_ ?_⟩
  · rw [em]
    exact eqs ▸ o1.map (prAt h2)
  · rw [em]
    exact List.pairwise_map.mpr o2
  · intro y hy
    obtain ⟨u, hu, rfl⟩ := List.mem_map.mp hy
    obtain ⟨a, rfl, ha⟩ := h3 u hu
    obtain ⟨vs', e1, e2⟩ := qt a ha
    obtain ⟨j, hj⟩ := List.mem_iff_getElem?.mp ha
    have hbn : a ≠ h'.objs.size := by
      obtain ⟨p', _, o', _, _, _, ho', _⟩ := pr j a hj
      exact ne0 _ _ ho'
    exact ⟨a, rfl, fresh _ (Nat.le_of_lt (hG.above a ha)), hbn, by rw [e1] at e2; exact e2⟩
end
end Fl

-- after: va4.tpl
namespace Fl
open PySem PySem.Spec PyProof.Rows L2 RZ
/-! ### what hangs on a thing -/
def ltI (a b : Int × Int) : Prop := a.1 < b.1 ∨ a.1 = b.1 ∧ a.2 < b.2
theorem ltI_uniq : ∀ {xs ys : List (Int × Int)}, xs.Pairwise ltI → ys.Pairwise ltI → (∀ p, p ∈ xs ↔ p ∈ ys) → xs = ys
  | [], ys, _, _, m => by
    cases ys with
    | nil => rfl
    | cons y r => exact absurd ((m y).mpr (List.mem_cons_self ..)) (List.not_mem_nil)
  | x :: r, [], _, _, m => absurd ((m x).mp (List.mem_cons_self ..)) (List.not_mem_nil)
  | x :: r, y :: t, u1, u2, m => by
    have u1' := List.pairwise_cons.mp u1
    have u2' := List.pairwise_cons.mp u2
    have e : x = y := by
      rcases List.mem_cons.mp ((m x).mp (List.mem_cons_self ..)) with z | z
      · exact z
      rcases List.mem_cons.mp ((m y).mpr (List.mem_cons_self ..)) with z' | z'
      · exact z'.symm
      have h1 := u1'.1 y z'
      have h2 := u2'.1 x z
      unfold ltI at h1 h2
      omega
    subst e
    have irr : ∀ p, ¬ ltI p p := fun p h => by unfold ltI at h; omega
    refine congrArg (x :: ·) (ltI_uniq u1'.2 u2'.2 fun v => ?_)
    constructor
    · intro hv
      rcases List.mem_cons.mp ((m v).mp (List.mem_cons_of_mem _ hv)) with z | z
      · subst z; exact absurd (u1'.1 v hv) (irr v)
      · exact z
    · intro hv
      rcases List.mem_cons.mp ((m v).mpr (List.mem_cons_of_mem _ hv)) with z | z
      · subst z; exact absurd (u2'.1 v hv) (irr v)
      · exact z
theorem anyC {α : Type} {p q : α → Bool} : ∀ {l : List α}, (∀ x ∈ l, p x = q x) → l.any p = l.any q
  | [], _ => rfl
  | x :: r, h => by rw [List.any_cons, List.any_cons, h x (List.mem_cons_self ..), anyC fun y hy => h y (List.mem_cons_of_mem _ hy)]
/-- the lines of the year ahead that a line names -/
def Frm.ear (F : Frm) (k : Int) : List Int := nameI "earlier" F.rs.length (F.rule k)
theorem Frm.adj_rule {F : Frm} {k : Int} (h : 0 ≤ k ∧ k < F.rs.length) : F.adj k = nameI "line" F.rs.length (F.rule k) := by
  obtain ⟨i, rfl⟩ : ∃ i : Nat, k = i := ⟨k.toNat, by omega⟩
  have hi : i < F.rs.length := by omega
  have e : F.rs[i]? = some F.rs[i] := List.getElem?_eq_getElem hi
  unfold Frm.adj Frm.rule
  rw [adjR_at e, Int.toNat_natCast, List.getD_eq_getElem?_getD, e]
  rfl
inductive Frm.Hg (F : Frm) (x : Str) (v : V) (y0 : Int) : Int → Int → Prop
  | own (k : Int) : 0 ≤ k ∧ k < F.rs.length → v ∈ (F.rule k).names x → Frm.Hg F x v y0 y0 k
  | line (y k o : Int) : Frm.Hg F x v y0 y o → 0 ≤ k ∧ k < F.rs.length → o ∈ F.adj k → Frm.Hg F x v y0 y k
  | earl (y k o : Int) : Frm.Hg F x v y0 (y - 1) o → 0 ≤ k ∧ k < F.rs.length → o ∈ F.ear k → Frm.Hg F x v y0 y k
theorem Frm.Hg.ge {F : Frm} {x : Str} {v : V} {y0 y k : Int} (h : F.Hg x v y0 y k) : y0 ≤ y := by
  induction h with
  | own => omega
  | line _ _ _ _ _ _ ih => exact ih
  | earl _ _ _ _ _ _ ih => omega
theorem Frm.Hg.rng {F : Frm} {x : Str} {v : V} {y0 y k : Int} (h : F.Hg x v y0 y k) : 0 ≤ k ∧ k < F.rs.length := by
  cases h with
  | own _ h => exact h
  | line _ _ _ _ h => exact h
  | earl _ _ _ _ h => exact h
/-- the test of a line, by what was found -/
def Frm.hbT (F : Frm) (first ahead found : List Int) (k : Int) : Bool := (decide (k ∈ first) || (F.adj k).any fun o => decide (o ∈ found)) || (F.ear k).any fun o => decide (o ∈ ahead)
def Frm.hbS (F : Frm) (first ahead : List Int) (found : List Int) (k : Int) : List Int := if F.hbT first ahead found k = true then found ++ [k] else found
def Frm.hb (F : Frm) (first ahead : List Int) (j : Nat) : List Int := (F.ord.take j).foldl (F.hbS first ahead) []
theorem Frm.hb_succ {F : Frm} {first ahead : List Int} {j : Nat} {k : Int} (h : F.ord[j]? = some k) : F.hb first ahead (j + 1) = F.hbS first ahead (F.hb first ahead j) k := by
  unfold Frm.hb
  rw [List.take_add_one, h, List.foldl_append]
  rfl
theorem Frm.hb_mem {F : Frm} {m : Nat} (ok : F.Ok m) {first ahead : List Int} : ∀ j, j ≤ F.rs.length → (F.hb first ahead j).Nodup ∧ ∀ k, k ∈ F.hb first ahead j ↔ k ∈ F.ord.take j ∧ F.hbT first ahead (F.hb first ahead j) k = true := by
  have o := ok.ord
  intro j
  induction j with
  | zero =>
    intro _
    refine ⟨by unfold Frm.hb; simp, fun k => ?_⟩
    unfold Frm.hb
    simp
  | succ j ih =>
    intro hj
    obtain ⟨nd, ih⟩ := ih (by omega)
    obtain ⟨x, ex⟩ : ∃ x, F.ord[j]? = some x := ⟨_, List.getElem?_eq_getElem (by rw [o.len]; omega)⟩
    have nx : x ∉ F.ord.take j := fun h => by
      have h1 := pos_take h
      have h2 := pos_get o.nd ex
      omega
    have sub : ∀ k, k ∈ F.ord.take j ∨ k = x → ∀ y ∈ F.adj k, y ∈ F.ord.take j := by
      rintro k (hk | rfl) y hy
      · obtain ⟨i, hi, ei⟩ := List.getElem_of_mem hk
        rw [List.getElem_take] at ei
        rw [List.length_take] at hi
        have ei' : F.ord[i]? = some k := by rw [List.getElem?_eq_getElem (by omega), ei]
        have := o.ord i k ei' y hy
        exact List.mem_of_mem_take (List.take_take (i := i) (j := j) (l := F.ord) ▸ by rw [Nat.min_eq_left (by omega)]; exact this : y ∈ (F.ord.take j).take i)
      · exact o.ord j k ex y hy
    have e : F.hb first ahead (j + 1) = F.hbS first ahead (F.hb first ahead j) x := Frm.hb_succ ex
    have nin : x ∉ F.hb first ahead j := fun h => nx ((ih x).mp h).1
    have same : ∀ k, k ∈ F.ord.take j ∨ k = x → F.hbT first ahead (F.hb first ahead (j + 1)) k = F.hbT first ahead (F.hb first ahead j) k := by
      intro k hk
      unfold Frm.hbT
      congr 2
      refine anyC fun y hy => ?_
      have hy1 := sub k hk y hy
      have ne : y ≠ x := fun z => nx (z ▸ hy1)
      rw [e]
      unfold Frm.hbS
      split
      · simp [ne]
      · rfl
    refine ⟨?_, fun k => ?_⟩
    · rw [e]
      unfold Frm.hbS
      split
      · exact List.nodup_append.mpr ⟨nd, by simp, fun a ha b hb => by rw [List.mem_singleton.mp hb]; rintro rfl; exact nin ha⟩
      · exact nd
    · rw [List.take_add_one, ex]
      constructor
      · intro hk
        have hk' : k ∈ F.hb first ahead j ∨ k = x ∧ F.hbT first ahead (F.hb first ahead j) x = true := by
          rw [e] at hk
          unfold Frm.hbS at hk
          split at hk
          · rename_i c
            rcases List.mem_append.mp hk with z | z
            · exact .inl z
            · exact .inr ⟨List.mem_singleton.mp z, c⟩
          · exact .inl hk
        rcases hk' with z | ⟨rfl, z⟩
        · have h1 := (ih k).mp z
          exact ⟨List.mem_append_left _ h1.1, by rw [same k (.inl h1.1)]; exact h1.2⟩
        · exact ⟨by simp, by rw [same k (.inr rfl)]; exact z⟩
      · rintro ⟨h1, h2⟩
        rw [e]
        unfold Frm.hbS
        rcases List.mem_append.mp h1 with z | z
        · rw [same k (.inl z)] at h2
          have := (ih k).mpr ⟨z, h2⟩
          split
          · exact List.mem_append_left _ this
          · exact this
        · have z : k = x := by simpa using z
          subst z
          rw [same k (.inr rfl)] at h2
          rw [if_pos h2]
          simp
def Frm.hbA (F : Frm) (first ahead : List Int) : List Int := F.hb first ahead F.rs.length
theorem Frm.hbA_mem {F : Frm} {m : Nat} (ok : F.Ok m) {first ahead : List Int} {k : Int} : k ∈ F.hbA first ahead ↔ (0 ≤ k ∧ k < F.rs.length) ∧ (k ∈ first ∨ (∃ o ∈ F.adj k, o ∈ F.hbA first ahead) ∨ ∃ o ∈ F.ear k, o ∈ ahead) := by
  have o := ok.ord
  have h := (Frm.hb_mem ok (first := first) (ahead := ahead) F.rs.length (Nat.le_refl _)).2 k
  rw [show F.ord.take F.rs.length = F.ord from List.take_of_length_le (by rw [o.len]; exact Nat.le_refl _), o.perm k] at h
  unfold Frm.hbA
  rw [h]
  unfold Frm.hbT
  simp [or_assoc]
theorem Frm.hbA_nodup {F : Frm} {m : Nat} (ok : F.Ok m) {first ahead : List Int} : (F.hbA first ahead).Nodup := (Frm.hb_mem ok (first := first) (ahead := ahead) F.rs.length (Nat.le_refl _)).1
/-- the lines that name it -/
def Frm.fst (F : Frm) (x : Str) (v : V) : List Int := (rangeI F.rs.length).filter fun k => decide (v ∈ (F.rule k).names x)
/-- the lines of so many years on that hang on it -/
def Frm.ah (F : Frm) (x : Str) (v : V) : Nat → List Int
  | 0 => []
  | i + 1 => F.hbA (if i = 0 then F.fst x v else []) (F.ah x v i)
theorem Frm.ah_mem {F : Frm} {m : Nat} (ok : F.Ok m) {x : Str} {v : V} {y0 : Int} : ∀ (i : Nat) (k : Int), k ∈ F.ah x v (i + 1) ↔ F.Hg x v y0 (y0 + i) k := by
  obtain ⟨rk, hrk⟩ := ok.acy.adj (n := F.rs.length)
  have down : ∀ (i : Nat), (∀ k, k ∈ F.ah x v i → ∃ i', i = i' + 1 ∧ F.Hg x v y0 (y0 + i') k) → ∀ (r : Nat) (k : Int), rk k < r → k ∈ F.ah x v (i + 1) → F.Hg x v y0 (y0 + i) k := by
    intro i hi r
    induction r with
    | zero => intro k h; omega
    | succ r ih =>
      intro k hr hk
      rw [Frm.ah, Frm.hbA_mem ok] at hk
      obtain ⟨kr, h | ⟨o, ho, h⟩ | ⟨o, ho, h⟩⟩ := hk
      · split at h
        · rename_i c
          subst c
          rw [show y0 + ((0 : Nat) : Int) = y0 by omega]
          have := (List.mem_filter.mp h).2
          exact .own k kr (of_decide_eq_true this)
        · cases h
      · have := hrk _ _ ho
        exact .line _ k o (ih o (by omega) h) kr ho
      · obtain ⟨i', rfl, h'⟩ := hi o h
        exact .earl _ k o (by rw [show y0 + ((i' + 1 : Nat) : Int) - 1 = y0 + i' by omega]; exact h') kr ho
  have dn : ∀ (i : Nat) k, k ∈ F.ah x v (i + 1) → F.Hg x v y0 (y0 + i) k := by
    intro i
    induction i with
    | zero => exact fun k hk => down 0 (fun k hk => by cases hk) _ k (Nat.lt_succ_self _) hk
    | succ i ih => exact fun k hk => down (i + 1) (fun k hk => ⟨i, rfl, ih k hk⟩) _ k (Nat.lt_succ_self _) hk
  have up : ∀ y k, F.Hg x v y0 y k → ∀ i : Nat, y = y0 + i → k ∈ F.ah x v (i + 1) := by
    intro y k h
    induction h with
    | own k kr hv =>
      intro i e
      rw [show i = 0 by omega, Frm.ah, Frm.hbA_mem ok]
      exact ⟨kr, .inl (by rw [if_pos rfl]; exact List.mem_filter.mpr ⟨mem_rangeI.mpr kr, decide_eq_true hv⟩)⟩
    | line y k o h kr ho ih =>
      intro i e
      have := ih i e
      rw [Frm.ah] at this ⊢
      rw [Frm.hbA_mem ok]
      exact ⟨kr, .inr (.inl ⟨o, ho, this⟩)⟩
    | earl y k o h kr ho ih =>
      intro i e
      have := h.ge
      obtain ⟨i', rfl⟩ : ∃ i', i = i' + 1 := ⟨i - 1, by omega⟩
      have := ih i' (by omega)
      rw [Frm.ah, Frm.hbA_mem ok]
      exact ⟨kr, .inr (.inr ⟨o, ho, this⟩)⟩
  exact fun i k => ⟨dn i k, fun h => up _ k h i rfl⟩
def srtI (n : Nat) (xs : List Int) : List Int := (rangeI n).filter fun k => decide (k ∈ xs)
theorem srtI_pw {n : Nat} {xs : List Int} : (srtI n xs).Pairwise (· < ·) := (range_srt n).filter _
/-- the pairs of so many years -/
def Frm.hp (F : Frm) (x : Str) (v : V) (y0 : Int) : Nat → List (Int × Int)
  | 0 => []
  | i + 1 => F.hp x v y0 i ++ (srtI F.rs.length (F.ah x v (i + 1))).map fun k => (y0 + i, k)
theorem Frm.hp_mem {F : Frm} {m : Nat} (ok : F.Ok m) {x : Str} {v : V} {y0 : Int} : ∀ (i : Nat) (p : Int × Int), p ∈ F.hp x v y0 i ↔ p.1 < y0 + i ∧ F.Hg x v y0 p.1 p.2
  | 0, p => by
    constructor
    · intro h; cases h
    · rintro ⟨h1, h2⟩
      have := h2.ge
      omega
  | i + 1, p => by
    rw [Frm.hp, List.mem_append, hp_mem ok i p]
    constructor
    · rintro (⟨h1, h2⟩ | h)
      · exact ⟨by omega, h2⟩
      · obtain ⟨k, hk, rfl⟩ := List.mem_map.mp h
        have := (List.mem_filter.mp hk).2
        exact ⟨by show y0 + (i : Int) < _; omega, (Frm.ah_mem ok i k).mp (of_decide_eq_true this)⟩
    · rintro ⟨h1, h2⟩
      rcases Int.lt_or_le p.1 (y0 + i) with c | c
      · exact .inl ⟨c, h2⟩
      · have e : p.1 = y0 + i := by omega
        rw [e] at h2
        refine .inr (List.mem_map.mpr ⟨p.2, List.mem_filter.mpr ⟨mem_rangeI.mpr h2.rng, decide_eq_true ((Frm.ah_mem ok i p.2).mpr h2)⟩, ?_⟩)
        rw [← e]
theorem Frm.hp_pw {F : Frm} {m : Nat} (ok : F.Ok m) {x : Str} {v : V} {y0 : Int} : ∀ i : Nat, (F.hp x v y0 i).Pairwise ltI
  | 0 => List.Pairwise.nil
  | i + 1 => by
    rw [Frm.hp]
    refine List.pairwise_append.mpr ⟨hp_pw ok i, List.pairwise_map.mpr (srtI_pw.imp fun h => .inr ⟨rfl, h⟩), fun a ha b hb => ?_⟩
    have h1 := ((Frm.hp_mem ok i a).mp ha).1
    obtain ⟨k, _, rfl⟩ := List.mem_map.mp hb
    exact .inl h1
/-- a closed list holds all -/
theorem Frm.Hg.all {F : Frm} {x : Str} {v : V} {y0 cnt : Int} {ps : List (Int × Int)}
    (cl : ∀ y k : Int, y0 ≤ y → y < cnt → 0 ≤ k ∧ k < F.rs.length → ((y = y0 ∧ v ∈ (F.rule k).names x) ∨ (∃ o ∈ F.adj k, (y, o) ∈ ps) ∨ ∃ o ∈ F.ear k, (y - 1, o) ∈ ps) → (y, k) ∈ ps) : ∀ {y k : Int}, F.Hg x v y0 y k → y < cnt → (y, k) ∈ ps := by
  intro y k h
  induction h with
  | own k kr hv => exact fun h => cl _ _ (Int.le_refl _) h kr (.inl ⟨rfl, hv⟩)
  | line y k o h kr ho ih => exact fun c => cl _ _ h.ge c kr (.inr (.inl ⟨o, ho, ih c⟩))
  | earl y k o h kr ho ih => exact fun c => cl _ _ (by have := h.ge; omega) c kr (.inr (.inr ⟨o, ho, ih (by omega)⟩))
end Fl

-- after: hm.tpl
namespace Fl
open PySem PySem.Spec PyProof.Rows L2 RZ
/-! ### what does not hang stays -/
theorem Frm.rule_at {F : Frm} {k : Int} (h : 0 ≤ k ∧ k < F.rs.length) : F.rs[k.toNat]? = some (F.rule k) := by
  have hk : k.toNat < F.rs.length := by omega
  unfold Frm.rule
  rw [List.getD_eq_getElem?_getD, List.getElem?_eq_getElem hk]
  rfl
theorem Frm.mem_adj {F : Frm} {m : Nat} (ok : F.Ok m) {k o : Int} (h : 0 ≤ k ∧ k < F.rs.length) (ho : o ∈ (F.rule k).lines) : o ∈ F.adj k := by
  have e := Frm.rule_at h
  have := Frm.adj_lines ok e ho
  rwa [show ((k.toNat : Nat) : Int) = k by omega] at this
theorem Frm.mem_ear {F : Frm} {m : Nat} (ok : F.Ok m) {k o : Int} (h : 0 ≤ k ∧ k < F.rs.length) (ho : V.int o ∈ (F.rule k).names "earlier") : o ∈ F.ear k := by
  have g := ok.goodR _ (List.mem_of_getElem? (Frm.rule_at h))
  exact nameI_mem.mpr ⟨(names_rng g.fine (k := o) g.ok).2.1 ho, ho⟩
/-- the things that a line leans on beside lines are the same in two years -/
def Frm.Like (F : Frm) (k : Int) (ps ps' : List (Str × Int)) (tk tk' : List Bool) : Prop :=
  (∀ w, V.str w ∈ (F.rule k).names "paper" → papF ps w = papF ps' w) ∧ ∀ c, V.int c ∈ (F.rule k).names "choose" → tk.getD c.toNat false = tk'.getD c.toNat false
theorem Frm.stay {F : Frm} {m : Nat} (ok : F.Ok m) {x : Str} {v : V} {y0 : Nat} {pss pss' : List (List (Str × Int))} {tks tks' : List (List Bool)}
    (like : ∀ (i : Nat) (k : Int), 0 ≤ k ∧ k < F.rs.length → ¬ (i = y0 ∧ v ∈ (F.rule k).names x) → F.Like k (pss.getD i []) (pss'.getD i []) (tks.getD i []) (tks'.getD i [])) :
    ∀ (i : Nat) (k : Int), 0 ≤ k ∧ k < F.rs.length → ¬ F.Hg x v y0 i k → (F.hy pss tks (i + 1)).getD k.toNat 0 = (F.hy pss' tks' (i + 1)).getD k.toNat 0 := by
  obtain ⟨rk, hrk⟩ := ok.acy.adj (n := F.rs.length)
  have step : ∀ (i : Nat), (∀ o : Int, 0 ≤ o ∧ o < F.rs.length → (i = 0 ∨ ¬ F.Hg x v y0 ((i : Int) - 1) o) → (F.hy pss tks i).getD o.toNat 0 = (F.hy pss' tks' i).getD o.toNat 0) → ∀ (r : Nat) (k : Int), rk k < r → 0 ≤ k ∧ k < F.rs.length → ¬ F.Hg x v y0 i k → (F.hy pss tks (i + 1)).getD k.toNat 0 = (F.hy pss' tks' (i + 1)).getD k.toNat 0 := by
    intro i hi r
    induction r with
    | zero => intro k h; omega
    | succ r ih =>
      intro k hr hk no
      have e := Frm.rule_at hk
      have lk := like i k hk (fun z => no (by
        rw [z.1]
        exact .own k hk z.2))
      have e1 : F.hy pss tks (i + 1) = F.yr (pss.getD i []) (F.hy pss tks i) (tks.getD i []) := rfl
      have e2 : F.hy pss' tks' (i + 1) = F.yr (pss'.getD i []) (F.hy pss' tks' i) (tks'.getD i []) := rfl
      rw [e1, e2]
      unfold Frm.yr
      rw [Frm.year_fix ok e, Frm.year_fix ok e]
      refine Rule.val_congr (S := ⟨F.year ⟨[], papF (pss.getD i []), F.hy pss tks i, F.tbs, tks.getD i []⟩, papF (pss.getD i []), F.hy pss tks i, F.tbs, tks.getD i []⟩) (S' := ⟨F.year ⟨[], papF (pss'.getD i []), F.hy pss' tks' i, F.tbs, tks'.getD i []⟩, papF (pss'.getD i []), F.hy pss' tks' i, F.tbs, tks'.getD i []⟩) rfl (fun o ho => ?_) (fun w hw => lk.1 w hw) (fun o ho => ?_) (fun c hc => lk.2 c hc)
      · have ha := Frm.mem_adj ok hk ho
        have := hrk _ _ ha
        exact ih o (by omega) (ok.adj.rng _ _ ha) (fun h => no (.line _ k o h hk ha))
      · have ha := Frm.mem_ear ok hk ho
        have hor := (nameI_mem.mp ha).1
        have he := hi o hor (by
          by_cases c : i = 0
          · exact .inl c
          · exact .inr fun h => no (.earl _ k o h hk ha))
        show (if F.hy pss tks i = [] then 0 else (F.hy pss tks i).getD o.toNat 0) = (if F.hy pss' tks' i = [] then 0 else (F.hy pss' tks' i).getD o.toNat 0)
        have z : ∀ l : List Int, l = [] → (if l = [] then (0 : Int) else l.getD o.toNat 0) = l.getD o.toNat 0 := fun l h => by subst h; rfl
        have zz : ∀ l : List Int, (if l = [] then (0 : Int) else l.getD o.toNat 0) = l.getD o.toNat 0 := fun l => by
          by_cases c : l = []
          · exact z l c
          · rw [if_neg c]
        rw [zz, zz]
        exact he
  intro i
  induction i with
  | zero => exact fun k hk no => step 0 (fun o _ _ => rfl) _ k (Nat.lt_succ_self _) hk no
  | succ i ih =>
    refine fun k hk no => step (i + 1) (fun o ho h => ?_) _ k (Nat.lt_succ_self _) hk no
    rcases h with h | h
    · cases h
    · rw [show ((i + 1 : Nat) : Int) - 1 = i by omega] at h
      exact ih o ho h
theorem papF_filter {ps : List (Str × Int)} {w w' : Str} {z : Int} (ne : w' ≠ w) : papF (ps.filter (fun p => decide (p.1 ≠ w)) ++ [(w, z)]) w' = papF ps w' := by
  unfold papF
  rw [List.find?_append]
  have e1 : [(w, z)].find? (fun p => decide (p.1 = w')) = none := by
    rw [List.find?_eq_none]
    intro p hp
    rw [List.mem_singleton.mp hp]
    simpa using fun h : w = w' => ne h.symm
  rw [e1, Option.or_none]
  congr 2
  induction ps with
  | nil => rfl
  | cons p r ih =>
    rw [List.filter_cons]
    by_cases c : p.1 = w
    · rw [if_neg (by simpa using c), List.find?_cons_of_neg (by simpa [c] using fun h : w = w' => ne h.symm)]
      exact ih
    · rw [if_pos (by simpa using c), List.find?_cons, List.find?_cons, ih]
theorem PapOk.filter {ps : List (Str × Int)} (ok : PapOk ps) {w : Str} {z : Int} (wd : WdT w) (hz : -1000000000 ≤ z ∧ z ≤ 1000000000) (few : ps.length ≤ 8) : PapOk (ps.filter (fun p => decide (p.1 ≠ w)) ++ [(w, z)]) := by
  refine ⟨fun p hp => ?_, fun p hp => ?_, ?_, ?_⟩
  · rcases List.mem_append.mp hp with h | h
    · exact ok.wd p (List.mem_filter.mp h).1
    · rw [List.mem_singleton.mp h]; exact wd
  · rcases List.mem_append.mp hp with h | h
    · exact ok.num p (List.mem_filter.mp h).1
    · rw [List.mem_singleton.mp h]; exact hz
  · rw [List.map_append]
    refine List.nodup_append.mpr ⟨?_, by simp, fun a ha b hb => ?_⟩
    · exact List.Pairwise.sublist (List.filter_sublist.map _) ok.nd
    · obtain ⟨p, hp, rfl⟩ := List.mem_map.mp ha
      have := (List.mem_filter.mp hp).2
      have hb : b = w := by simpa using hb
      rw [hb]
      simpa using this
  · rw [List.length_append, List.length_singleton]
    have := List.length_filter_le (fun p : Str × Int => decide (p.1 ≠ w)) ps
    omega
theorem getD_set_eq {α : Type} {xs : List α} {i : Nat} {x d : α} (h : i < xs.length) : (xs.set i x).getD i d = x := by
  rw [List.getD_eq_getElem?_getD, List.getElem?_set_self h]
  rfl
theorem getD_set_no {α : Type} {xs : List α} {i j : Nat} {x d : α} (h : i ≠ j) : (xs.set i x).getD j d = xs.getD j d := by
  rw [List.getD_eq_getElem?_getD, List.getD_eq_getElem?_getD, List.getElem?_set_ne h]
/-- another number for a paper -/
theorem Frm.stay_paper {F : Frm} {m : Nat} (ok : F.Ok m) {pss : List (List (Str × Int))} {tks : List (List Bool)} {w : Str} {z : Int} {y0 : Nat} (hy : y0 < pss.length) {i : Nat} {k : Int} (hk : 0 ≤ k ∧ k < F.rs.length) (no : ¬ F.Hg "paper" (.str w) y0 i k) :
    (F.hy pss tks (i + 1)).getD k.toNat 0 = (F.hy (pss.set y0 ((pss.getD y0 []).filter (fun p => decide (p.1 ≠ w)) ++ [(w, z)])) tks (i + 1)).getD k.toNat 0 := by
  refine Frm.stay ok (x := "paper") (v := .str w) (y0 := y0) (fun i k hk h => ⟨fun w' hw' => ?_, fun c _ => rfl⟩) i k hk no
  by_cases c : y0 = i
  · subst c
    rw [getD_set_eq hy]
    have ne : w' ≠ w := by
      rintro rfl
      exact h ⟨rfl, hw'⟩
    exact (papF_filter ne).symm
  · rw [getD_set_no c]
/-- a choice turned -/
theorem Frm.stay_choice {F : Frm} {m : Nat} (ok : F.Ok m) {pss : List (List (Str × Int))} {tks : List (List Bool)} {c0 : Nat} {b : Bool} {y0 : Nat} (hy : y0 < tks.length) {i : Nat} {k : Int} (hk : 0 ≤ k ∧ k < F.rs.length) (no : ¬ F.Hg "choose" (.int c0) y0 i k) :
    (F.hy pss tks (i + 1)).getD k.toNat 0 = (F.hy pss (tks.set y0 ((tks.getD y0 []).set c0 b)) (i + 1)).getD k.toNat 0 := by
  refine Frm.stay ok (x := "choose") (v := .int c0) (y0 := y0) (fun i k hk h => ⟨fun w' _ => rfl, fun c hc => ?_⟩) i k hk no
  by_cases e : y0 = i
  · subst e
    rw [getD_set_eq hy]
    have hcr : 0 ≤ c := by
      have g := ok.goodR _ (List.mem_of_getElem? (Frm.rule_at hk))
      exact ((names_rng g.fine (k := c) g.ok).2.2 hc).1
    have ne : c0 ≠ c.toNat := by
      rintro rfl
      refine h ⟨rfl, ?_⟩
      rw [show ((c.toNat : Nat) : Int) = c by omega]
      exact hc
    exact (getD_set_no ne).symm
  · rw [getD_set_no e]
end Fl

-- after: hm.tpl
namespace Fl
open PySem PySem.Spec PyProof.Rows L2 RZ
theorem names_pool {g : Sg} : ∀ {m : Nat} {r : Rule}, r.ok g m → ∀ v ∈ r.names "paper", ∃ s ∈ g.pool, v = .str s
  | 0, _, h, _, _ => h.elim
  | m + 1, r, h, v, hv => by
    have p1 : ¬ ("paper" : Str) = "line" := by decide +kernel
    have p2 : ¬ ("paper" : Str) = "earlier" := by decide +kernel
    have p3 : ¬ ("paper" : Str) = "table" := by decide +kernel
    have p4 : ¬ ("paper" : Str) = "choose" := by decide +kernel
    cases r with
    | num n => cases hv
    | paper w =>
      simp only [Rule.names, if_true, List.mem_singleton] at hv
      exact ⟨w, h, hv⟩
    | line i => simp [Rule.names, p1] at hv
    | earl i => simp [Rule.names, p2] at hv
    | two w a b =>
      rcases List.mem_append.mp hv with z | z
      · exact names_pool h.2.1 v z
      · exact names_pool h.2.2 v z
    | part a p => exact names_pool (r := a) h.2 v hv
    | table i a =>
      simp only [Rule.names, if_neg p3, List.nil_append] at hv
      exact names_pool h.2 v hv
    | wher a b c =>
      rcases List.mem_append.mp hv with z | z
      · exact names_pool h.1 v z
      rcases List.mem_append.mp z with z | z
      · exact names_pool h.2.1 v z
      · exact names_pool h.2.2 v z
    | choo i a b =>
      simp only [Rule.names, if_neg p4, List.nil_append] at hv
      rcases List.mem_append.mp hv with z | z
      · exact names_pool h.2.1 v z
      · exact names_pool h.2.2 v z
theorem named_all {g : Sg} {r : Rule} (h : GoodR g r) {H : Hp} {a : V} (at' : At H r.d a) {x : Str} {b : Bool} (hf : fiveW b x) {Q : VK} {E : XK}
    (q : ∀ p H' ys, Same H H' → H p = none → H' p = some (.lst ys) → Canon b ys (r.names x) → Q (.ref p) H') : sp_law_named 8 a (.str x) H Q E := by
  have isr := Rule.isR h.fine h.ok
  have ev := Rule.vals (g := g) hf h.ok
  refine ⟨r.d, g.L, g.T, g.C, x, b, at', h.okD, Nat.le_trans h.sz (by decide), isr, rfl, hf, ?_, fun p H' ys sm hp e cn => ?_⟩
  · rw [ev]
    intro hb
    rcases hf with ⟨_, rfl⟩ | ⟨e, _⟩
    · refine ⟨g.pool.map V.str, ?_, fun v hv => ?_⟩
      · rw [List.length_map]
        have := h.few
        omega
      · obtain ⟨s, hs, rfl⟩ := names_pool h.ok v hv
        exact List.mem_map.mpr ⟨s, hs, rfl⟩
    · rw [e] at hb
      cases hb
  · rw [ev] at cn
    exact q p H' ys sm hp e cn
theorem in_c {K : PySem.W.Frag} {H : Hp} {Q : VK} {p : Addr} {b : Bool} {x : V} {ys vs : List V} (hx : okK b x) (cn : Canon b ys vs) (h : H p = some (.lst ys)) (q : Q (.bl (decide (x ∈ vs))) H) : uIn K x (.ref p) H Q := by
  have fl : ∀ {v : V}, okK b v → flatV v = true := fun {v} hv => by
    cases b with
    | false => obtain ⟨i, rfl⟩ := hv; rfl
    | true => obtain ⟨i, rfl⟩ := hv; rfl
  refine .inl ⟨p, ys, rfl, .inl (.of h), fl hx, List.all_eq_true.mpr fun u hu => fl (cn.ok u hu), ?_⟩
  rw [inV_k hx cn.ok]
  have e : decide (x ∈ ys) = decide (x ∈ vs) := by
    congr 1
    exact propext (cn.mem x)
  rw [e]
  exact q
section
variable {P : Program} {w : World} {K : PySem.W.Frag} {mg : Str → Option Value} {base : Heap}
abbrev s_hangs_behind : Stmt := topS 45
theorem sc_hangs_behind : FnScope ["form", "first", "ahead", "found", "line", "rule", "one", "other"] ["form", "first", "ahead"] (defScope s_hangs_behind) := ⟨rfl, rfl, rfl, by decide +kernel, rfl, by decide +kernel, by decide +kernel⟩
def sp_behind : Sp3 := fun a b c H Q _ => ∃ (F : Frm) (f l : Addr) (first ahead : List Int), F.Ok 40 ∧ At H F.d a ∧ b = .ref f ∧ H f = some (.lst (first.map V.int)) ∧ c = .ref l ∧ H l = some (.lst (ahead.map V.int)) ∧
  ∀ p H', Same H H' → H p = none → H' p = some (.lst ((F.hbA first ahead).map V.int)) → Q (.ref p) H'
theorem ok_hangs_behind (M : Mg mg) (G_order_of : Has P w K mg base "order_of" ["form"] 3 (sp1 sp_order_of)) (G_named : Has P w K mg base "named" ["rule", "word"] 2 (sp2 (sp_law_named 8))) (D : DefAt K mg "hangs_behind" s_hangs_behind ["form", "first", "ahead"]) : Has P w K mg base "hangs_behind" ["form", "first", "ahead"] 4 (sp3 sp_behind) := by
  refine .mk3 D sc_hangs_behind fun fa cdv A outer s0 H a b c Q E hr h => ⟨_, (pss_cons (ps_set (i := 3) sc_hangs_behind.nd rfl (by first | exact Or.inl rfl | exact Or.inr rfl) (pe_lst pa_nil))
    (pss_cons (ps_for own_p (by rfl) (k_pi K rfl (pe_own G_order_of (hr.mono (by first | decide | omega)) (by rfl) p_body (pa_cons (pv 0) pa_nil))) (pg_name (i := 4) sc_hangs_behind.nd rfl (by first | exact Or.inl rfl | exact Or.inr rfl)) (pss_cons (ps_set (i := 5) sc_hangs_behind.nd rfl (by first | exact Or.inl rfl | exact Or.inr rfl) (pe_ix (k_ix K rfl) (pe_ix (k_ix K rfl) (pv 0) pe_int (fun _ _ => rfl)) (pv 4) (fun _ _ => rfl)))
    (pss_cons (ps_set (i := 6) sc_hangs_behind.nd rfl (by first | exact Or.inl rfl | exact Or.inr rfl) (pe_or (pe_cmpR (k_in K rfl hr) (pv 4) (pv 1) (by rfl)) (pe_one (pe_callB (k_any K rfl rfl) (by rfl) M.any (by decide +kernel) (pa_cons (pe_lc (own := [("other", 7)]) (g := gName 7) (by rfl) sc_hangs_behind.nd (k_pi K rfl (pe_own G_named (hr.mono (by first | decide | omega)) (by rfl) p_body (pa_cons (pv 5) (pa_cons pe_str pa_nil)))) (blkOk_by (N := ["form", "first", "ahead", "found", "line", "rule", "one", "other"]) (sc := (defScope s_hangs_behind)) (own := [("other", 7)]) (by decide +kernel)) (fun _ _ _ _ _ => (pg_name (i := 7) sc_hangs_behind.nd rfl (by first | exact Or.inl rfl | exact Or.inr rfl))) (fun _ _ _ _ _ => pts_nil) (fun _ _ _ _ _ => (pe_cmpR (k_in K rfl hr) (pv 7) (pv 3) (by rfl)))) pa_nil)))))
    (pss_one (ps_if (PW.pt (pw_or (pt_val (pv 6)) (pw_or1 (pt_val (pe_callB (k_any K rfl rfl) (by rfl) M.any (by decide +kernel) (pa_cons (pe_lc (own := [("other", 7)]) (g := gName 7) (by rfl) sc_hangs_behind.nd (k_pi K rfl (pe_own G_named (hr.mono (by first | decide | omega)) (by rfl) p_body (pa_cons (pv 5) (pa_cons pe_str pa_nil)))) (blkOk_by (N := ["form", "first", "ahead", "found", "line", "rule", "one", "other"]) (sc := (defScope s_hangs_behind)) (own := [("other", 7)]) (by decide +kernel)) (fun _ _ _ _ _ => (pg_name (i := 7) sc_hangs_behind.nd rfl (by first | exact Or.inl rfl | exact Or.inr rfl))) (fun _ _ _ _ _ => pts_nil) (fun _ _ _ _ _ => (pe_cmpR (k_in K rfl hr) (pv 7) (pv 2) (by rfl)))) pa_nil)))))) (pss_one (ps_expr (k_bm K rfl PySem.F.plainAttrs_list PySem.F.slot_list_append PySem.F.type_list_append mt_append (pv 3) (pa_cons (pv 4) pa_nil)))) pss_nil)))))
    (pss_one (ps_ret (pv 3))))), ?_⟩
  obtain ⟨F, fi, l, first, ahead, ok, hat0, rfl, hfi, rfl, hl, q⟩ := h
  obtain ⟨f, L, T, vs, ts, rfl, hf, hL, hvs, hT, hts⟩ := Frm.at hat0
  have lvs := hvs.length
  rw [List.length_map] at lvs
  have n1 := ok.n1
  have n2 := ok.n2
  have hadj := ok.adj
  have oo := ok.ord
  refine Fl.go_start (σ0 := [some _, some _, some _, none, none, none, none, none]) rfl ?_
  walk_at "s"
  rename_i p0 hp0
  have smA : Same H (upd H p0 (.lst [])) := Same.new (.refl _) hp0
  refine ⟨F, ok, hat0.le (Same.le smA), fun o H1 sm1 hofr ho => ?_⟩
  have hp1 := sm1 _ _ (show (upd H p0 (.lst [])) p0 = some (.lst []) from upd_same)
  have nop : o ≠ p0 := fun e => by rw [e, upd_same] at hofr; cases hofr
  have sm01 := L2.Same.trans smA sm1
  refine for_lst (fun i σ' H' => ∃ (y4 y5 y6 : Option V), σ' = [some (.ref f), some (.ref fi), some (.ref l), some (.ref p0), y4, y5, y6, none] ∧ H' p0 = some (.lst ((F.hb first ahead i).map V.int)) ∧ Same H H' ∧ (∀ b u, b ≠ p0 → H1 b = some u → H' b = some u))
    ho ⟨none, none, none, rfl, hp1, sm01, fun b u _ h => h⟩ (fun i σ' H' _ ⟨_, _, _, _, _, _, kp⟩ => kp _ _ nop ho) ?_ ?_
  · rintro i x σ' H2 ex ⟨y4, y5, y6, rfl, hp2, sm2, kp⟩
    obtain ⟨k, ek, rfl⟩ := map_int_get ex
    have il := (List.getElem?_eq_some_iff.mp ek).1
    rw [oo.len] at il
    have rk := oo.rng k (List.mem_of_getElem? ek)
    have eadj := Frm.adj_rule rk
    obtain ⟨kn, rfl⟩ : ∃ kn : Nat, k = kn := ⟨k.toNat, by omega⟩
    have hkn : kn < F.rs.length := by omega
    obtain ⟨r, er⟩ : ∃ r, F.rs[kn]? = some r := ⟨_, List.getElem?_eq_getElem hkn⟩
    have erule : F.rule kn = r := by
      unfold Frm.rule
      rw [Int.toNat_natCast, List.getD_eq_getElem?_getD, er]
      rfl
    have eear : F.ear kn = nameI "earlier" F.rs.length r := by rw [Frm.ear, erule]
    rw [erule] at eadj
    obtain ⟨v0, ev0, hv0⟩ := hvs.get (i := kn) (d := r.d) (by rw [List.getElem?_map, er]; rfl)
    have hf2 := sm2 _ _ hf
    have hL2 := sm2 _ _ hL
    have hfi2 := sm2 _ _ hfi
    have hl2 := sm2 _ _ hl
    walk_at "s"
    refine ex_v (atI_nat ev0) ?_
    have nds := (Frm.hb_mem ok (first := first) (ahead := ahead) i (by omega)).1
    have lhb : (F.hb first ahead i).length ≤ 40 := by
      refine Nat.le_trans (range_len nds fun z hz => ?_) n2
      exact oo.rng z (List.mem_of_mem_take (((Frm.hb_mem ok (first := first) (ahead := ahead) i (by omega)).2 z).mp hz).1)
    have esucc := Frm.hb_succ (first := first) (ahead := ahead) ek
    unfold Frm.hbS at esucc
    have yes : ∀ H3 (y6 : Option V), Same H2 H3 → F.hbT first ahead (F.hb first ahead i) kn = true → ∃ (z4 z5 z6 : Option V), [some (V.ref f), some (.ref fi), some (.ref l), some (.ref p0), some (.int kn), some v0, y6, none] = [some (V.ref f), some (.ref fi), some (.ref l), some (.ref p0), z4, z5, z6, none] ∧ (upd H3 p0 (.lst ((F.hb first ahead i).map V.int ++ [V.int kn]))) p0 = some (.lst ((F.hb first ahead (i + 1)).map V.int)) ∧ Same H (upd H3 p0 (.lst ((F.hb first ahead i).map V.int ++ [V.int kn]))) ∧ (∀ b u, b ≠ p0 → H1 b = some u → (upd H3 p0 (.lst ((F.hb first ahead i).map V.int ++ [V.int kn]))) b = some u) :=
      fun H3 y6 sm3 t => ⟨_, _, _, rfl, by rw [upd_same, esucc, if_pos t]; simp, Same.mut (L2.Same.trans sm2 sm3) hp0, fun b u nb hb => by rw [upd_ne nb]; exact sm3 _ _ (kp _ _ nb hb)⟩
    have no : ∀ H3 (y6 : Option V), Same H2 H3 → F.hbT first ahead (F.hb first ahead i) kn = false → ∃ (z4 z5 z6 : Option V), [some (V.ref f), some (.ref fi), some (.ref l), some (.ref p0), some (.int kn), some v0, y6, none] = [some (V.ref f), some (.ref fi), some (.ref l), some (.ref p0), z4, z5, z6, none] ∧ H3 p0 = some (.lst ((F.hb first ahead (i + 1)).map V.int)) ∧ Same H H3 ∧ (∀ b u, b ≠ p0 → H1 b = some u → H3 b = some u) :=
      fun H3 y6 sm3 t => ⟨_, _, _, rfl, by rw [esucc, if_neg (by rw [t]; simp)]; exact sm3 _ _ hp2, L2.Same.trans sm2 sm3, fun b u nb hb => sm3 _ _ (kp _ _ nb hb)⟩
    have gr := ok.goodR r (List.mem_of_getElem? er)
    unfold Frm.hbT at yes no
    have hvr := hv0.le (Same.le sm2)
    have lns : (F.adj kn).length ≤ 40 := Nat.le_trans (range_len (pw_nodup (hadj.srt _)) (hadj.rng _)) n2
    have lne : (F.ear kn).length ≤ 40 := Nat.le_trans (range_len (pw_nodup nameI_srt) (fun y hy => (nameI_mem.mp hy).1)) n2
    walk_at "s"
    refine in_i hfi2 ?_
    refine ⟨_, rfl, ?_⟩
    by_cases c0 : (kn : Int) ∈ first
    · rw [decide_eq_true c0] at yes ⊢
      walk_at "s"
      exact yes _ _ (.refl _) rfl
    rw [decide_eq_false c0] at yes no ⊢
    rw [Bool.false_or] at yes no
    walk_at "s"
    refine named_use gr hvr (.inl rfl) (n := F.rs.length) (by rw [wordN, if_neg (by decide +kernel)]; rfl) fun nl H4 sm4 hnl enl => ?_
    rw [← eadj] at enl
    have hp4 := sm4 _ _ hp2
    walk_at "s"
    refine lc_seqL (((F.adj kn).map fun o => decide (o ∈ F.hb first ahead i)).map V.bl) enl (by simp) (by simp; omega) (fun _ => rfl) (fun i2 x y H' ex2 ey sm5 R' hR' => ?_) (fun D1 H5 hD1 sm5 eD1 => ?_)
    · obtain ⟨o2, eo, rfl⟩ := map_int_get ex2
      have e := map_bl_get ey eo
      subst e
      walk_at "s"
      refine in_i (sm5 _ _ hp4) ?_
      exact hR' _ (.refl _)
    walk_at "s"
    have et : ((F.adj kn).map fun o => decide (o ∈ F.hb first ahead i)).any id = (F.adj kn).any fun o => decide (o ∈ F.hb first ahead i) := by
      rw [List.any_map]
      rfl
    rw [et]
    have sm25 := L2.Same.trans sm4 sm5
    have hp5 := sm5 _ _ hp4
    refine if_b (fun c1 => ?_) (fun c1 => ?_)
    · rw [c1] at yes
      walk_at "s"
      exact yes _ _ sm25 rfl
    rw [c1] at yes no
    rw [Bool.false_or] at yes no
    walk_at "s"
    refine named_use gr (hvr.le (Same.le sm25)) (.inr (.inl rfl)) (n := F.rs.length) (by rw [wordN, if_neg (by decide +kernel)]; rfl) fun nl' H6 sm6 hnl' enl' => ?_
    rw [← eear] at enl'
    have hl6 := sm6 _ _ (sm25 _ _ hl2)
    have hp6 := sm6 _ _ hp5
    walk_at "s"
    refine lc_seqL (((F.ear kn).map fun o => decide (o ∈ ahead)).map V.bl) enl' (by simp) (by simp; omega) (fun _ => rfl) (fun i2 x y H' ex2 ey sm7 R' hR' => ?_) (fun D2 H7 hD2 sm7 eD2 => ?_)
    · obtain ⟨o2, eo, rfl⟩ := map_int_get ex2
      have e := map_bl_get ey eo
      subst e
      walk_at "s"
      refine in_i (sm7 _ _ hl6) ?_
      exact hR' _ (.refl _)
    walk_at "s"
    have et2 : ((F.ear kn).map fun o => decide (o ∈ ahead)).any id = (F.ear kn).any fun o => decide (o ∈ ahead) := by
      rw [List.any_map]
      rfl
    rw [et2]
    have sm27 := L2.Same.trans sm25 (L2.Same.trans sm6 sm7)
    have hp7 := sm7 _ _ hp6
    refine if_b (fun c2 => ?_) (fun c2 => ?_)
    · walk_at "s"
      exact yes _ _ sm27 c2
    · walk_at "s"
      exact no _ _ sm27 c2
  · rintro σ' H2 ⟨y4, y5, y6, rfl, hp2, sm2, kp⟩
    rw [List.length_map, oo.len] at hp2
    walk_at "s"
    exact q p0 H2 sm2 hp0 hp2
end
end Fl

-- after: hw.tpl
namespace Fl
open PySem PySem.Spec PyProof.Rows L2 RZ
section
variable {σ : L2.St} {H : Hp} {Q : VK} {te : TE} {vs : List Nat} {K : PySem.W.Frag}
theorem lc_datL {j : Nat} {xs : List V} {a : Addr} (ds : List PyData) (ha : H a = some (.lst xs)) (hy : ds.length = xs.length) (hl : ds.length < 100000) (tup : tupsOnly ds = true) (hw : ∀ x, wipe ((wipe σ vs).set j (some x)) vs = wipe σ vs)
    (hs : ∀ (i : Nat) x d H', xs[i]? = some x → ds[i]? = some d → Same H H' → PureD te ((wipe σ vs).set j (some x)) H' d) (hd : ∀ D H' ys, H D = none → Same H H' → H' D = some (.lst ys) → AtAll H' ds ys → Q (.ref D) H') : ItOf K (.ref a) H (lcG (gName j) tYes te vs σ Q) := by
  refine lc_lst (fun D i H' => ∃ ys, H' D = some (.lst ys) ∧ AtAll H' (ds.take i) ys ∧ Same H H') ha (fun D hD => ⟨[], upd_same, by rw [List.take_zero]; rfl, Same.new (.refl _) hD⟩) (fun D i H' _ _ p => let ⟨_, _, _, e⟩ := p; e _ _ ha) (fun D i x H' hD e p => ?_) fun D H' hD p => ?_
  · have hi' : i < ds.length := by
      rw [hy]
      exact (List.getElem?_eq_some_iff.mp e).1
    obtain ⟨ys, p1, p2, p3⟩ := p
    exact dat_step hl tup hw hD (List.getElem?_eq_getElem hi') ⟨ys, p1, p2, p3⟩ (hs i x _ H' e (List.getElem?_eq_getElem hi') p3)
  · obtain ⟨ys, p1, p2, p3⟩ := p
    rw [← hy, List.take_length] at p2
    exact hd D H' ys hD p3 p1 p2
theorem sortI_eq {n : Nat} {xs ns : List Int} (nd : xs.Nodup) (rg : ∀ k ∈ xs, 0 ≤ k ∧ k < n) (pm : ns.Perm xs) (up : ns.Pairwise (· ≤ ·)) : ns = srtI n xs := by
  have e : ns.map V.int = (srtI n xs).map V.int := by
    refine sorted_eq (b := false) (fun v hv => ?_) (List.pairwise_map.mpr up) (List.pairwise_map.mpr (srtI_pw.imp fun h => Int.le_of_lt h)) ?_ ?_ fun v => ?_
    · obtain ⟨i, _, rfl⟩ := List.mem_map.mp hv
      exact ⟨i, rfl⟩
    · exact (pm.map V.int).nodup_iff.mpr (List.pairwise_map.mpr (nd.imp fun h e => h (V.int.inj e)))
    · exact List.pairwise_map.mpr ((pw_nodup srtI_pw).imp fun h e => h (V.int.inj e))
    · constructor
      · intro hv
        obtain ⟨k, hk, rfl⟩ := List.mem_map.mp hv
        have hk' := pm.mem_iff.mp hk
        exact List.mem_map.mpr ⟨k, List.mem_filter.mpr ⟨mem_rangeI.mpr (rg k hk'), decide_eq_true hk'⟩, rfl⟩
      · intro hv
        obtain ⟨k, hk, rfl⟩ := List.mem_map.mp hv
        exact List.mem_map.mpr ⟨k, pm.mem_iff.mpr (of_decide_eq_true (List.mem_filter.mp hk).2), rfl⟩
  exact (List.map_inj_right (fun a b h => V.int.inj h)).mp e
def prI (p : Int × Int) : PyData := .tuple [.int p.1, .int p.2]
theorem prI_tupO (ps : List (Int × Int)) : tupsOnly (ps.map prI) = true := tupsOnly_all fun d hd => by
  obtain ⟨p, _, rfl⟩ := List.mem_map.mp hd
  rfl
end
theorem srtI_len {n : Nat} {xs : List Int} : (srtI n xs).length ≤ n := range_len (pw_nodup srtI_pw) (fun _ hy => mem_rangeI.mp (List.mem_filter.mp hy).1)
theorem Frm.hp_len {F : Frm} (ok : F.Ok 40) {x : Str} {v : V} {y0 : Int} : ∀ i : Nat, (F.hp x v y0 i).length ≤ 40 * i
  | 0 => Nat.le_refl _
  | i + 1 => by
    have h1 := hp_len ok (x := x) (v := v) (y0 := y0) i
    have h2 : (srtI F.rs.length (F.ah x v (i + 1))).length ≤ F.rs.length := srtI_len
    have := ok.n2
    rw [Frm.hp, List.length_append, List.length_map]
    omega
section
variable {P : Program} {w : World} {K : PySem.W.Frag} {mg : Str → Option Value} {base : Heap}
abbrev s_hanging_on : Stmt := topS 46
theorem sc_hanging_on : FnScope ["form", "count", "year", "word", "thing", "first", "found", "ahead", "here", "line"] ["form", "count", "year", "word", "thing"] (defScope s_hanging_on) := ⟨rfl, rfl, rfl, by decide +kernel, rfl, by decide +kernel, by decide +kernel⟩
def sp_hangon (n : Nat) : Sp5 := fun a b c d e H Q _ => ∃ (F : Frm) (cnt yr : Nat) (x : Str) (bb : Bool), F.Ok 40 ∧ At H F.d a ∧ b = .int cnt ∧ c = .int yr ∧ d = .str x ∧ fiveW bb x ∧ okK bb e ∧ yr ≤ cnt ∧ cnt ≤ n ∧
  ∀ p H' vs, Same H H' → H p = none → H' p = some (.lst vs) → AtAll H' ((F.hp x e yr (cnt - yr)).map prI) vs → Q (.ref p) H'
theorem ok_hanging_on (M : Mg mg) (G_hangs_behind : Has P w K mg base "hangs_behind" ["form", "first", "ahead"] 4 (sp3 sp_behind)) (G_named : Has P w K mg base "named" ["rule", "word"] 2 (sp2 (sp_law_named 8))) (D : DefAt K mg "hanging_on" s_hanging_on ["form", "count", "year", "word", "thing"]) : Has P w K mg base "hanging_on" ["form", "count", "year", "word", "thing"] 5 (sp5 (sp_hangon 8)) := by
  refine .mk5 D sc_hanging_on fun fa cdv A outer s0 H a b c d e Q E hr h => ⟨_, (pss_cons (ps_setLc (i := 5) (own := [("line", 9)]) (g := gName 9) (by rfl) sc_hanging_on.nd rfl rfl (sw_true rfl rfl rfl (by decide +kernel)) (pi_range1 (by rfl) M.range (pa_cons (pe_callB (k_len K rfl) (by rfl) M.len (by decide +kernel) (pa_cons (pe_ix (k_ix K rfl) (pv 0) pe_int (fun _ _ => rfl)) pa_nil)) pa_nil)) (blkOk_by (N := ["form", "count", "year", "word", "thing", "first", "found", "ahead", "here", "line"]) (sc := (defScope s_hanging_on)) (own := [("line", 9)]) (by decide +kernel)) (fun _ _ _ _ _ => (pg_name (i := 9) sc_hanging_on.nd rfl (by first | exact Or.inl rfl | exact Or.inr rfl))) (fun _ _ _ _ _ => (pts_one (pt_cmpR (k_in K rfl hr) (pv 4) (pe_own G_named (hr.mono (by first | decide | omega)) (by rfl) passL (pa_cons (pe_ix (k_ix K rfl) (pe_ix (k_ix K rfl) (pv 0) pe_int (fun _ _ => rfl)) (pv 9) (fun _ _ => rfl)) (pa_cons (pv 3) pa_nil))) (by rfl)))) (fun _ _ _ _ _ => (pv 9)))
    (pss_cons (ps_set (i := 6) sc_hanging_on.nd rfl (by first | exact Or.inl rfl | exact Or.inr rfl) (pe_lst pa_nil))
    (pss_cons (ps_set (i := 7) sc_hanging_on.nd rfl (by first | exact Or.inl rfl | exact Or.inr rfl) (pe_lst pa_nil))
    (pss_cons (ps_for own_p (by rfl) (pi_range2 (by rfl) M.range (pa_cons (pv 2) (pa_cons (pv 1) pa_nil))) (pg_name (i := 8) sc_hanging_on.nd rfl (by first | exact Or.inl rfl | exact Or.inr rfl)) (pss_cons (ps_set (i := 7) sc_hanging_on.nd rfl (by first | exact Or.inl rfl | exact Or.inr rfl) (pe_own G_hangs_behind (hr.mono (by first | decide | omega)) (by rfl) p_body (pa_cons (pv 0) (pa_cons (pe_ifExp (pt_cmpR (k_eq K rfl hr) (pv 8) (pv 2) (nomark _)) (pv 5) (pe_lst pa_nil)) (pa_cons (pv 7) pa_nil)))))
    (pss_one (ps_set (i := 6) sc_hanging_on.nd rfl (by first | exact Or.inl rfl | exact Or.inr rfl) (pe_op (k_add K rfl) (pv 6) (pe_lc (own := [("line", 9)]) (g := gName 9) (by rfl) sc_hanging_on.nd (k_pi K rfl (pe_callB (k_sortI K rfl) (by rfl) M.sorted (by decide +kernel) (pa_cons (pv 7) pa_nil))) (blkOk_by (N := ["form", "count", "year", "word", "thing", "first", "found", "ahead", "here", "line"]) (sc := (defScope s_hanging_on)) (own := [("line", 9)]) (by decide +kernel)) (fun _ _ _ _ _ => (pg_name (i := 9) sc_hanging_on.nd rfl (by first | exact Or.inl rfl | exact Or.inr rfl))) (fun _ _ _ _ _ => pts_nil) (fun _ _ _ _ _ => (pe_tup (pa_cons (pv 8) (pa_cons (pv 9) pa_nil))))))))))
    (pss_one (ps_ret (pv 6))))))), ?_⟩
  obtain ⟨F, cnt, yr, x, bb, ok, hat0, rfl, rfl, rfl, hf5, hk, hyc, hc8, q⟩ := h
  obtain ⟨f, L, T, vs, ts, rfl, hf, hL, hvs, hT, hts⟩ := Frm.at hat0
  have lvs := hvs.length
  rw [List.length_map] at lvs
  have n1 := ok.n1
  have n2 := ok.n2
  refine Fl.go_start (σ0 := [some _, some _, some _, some _, some _, none, none, none, none, none]) rfl ?_
  walk_at "s"
  have rule_at : ∀ i : Nat, i < F.rs.length → ∃ r v0, F.rs[i]? = some r ∧ F.rule i = r ∧ vs[i]? = some v0 ∧ At H r.d v0 := fun i hi => by
    obtain ⟨r, er⟩ : ∃ r, F.rs[i]? = some r := ⟨_, List.getElem?_eq_getElem hi⟩
    obtain ⟨v0, ev0, hv0⟩ := hvs.get (i := i) (d := r.d) (by rw [List.getElem?_map, er]; rfl)
    refine ⟨r, v0, er, ?_, ev0, hv0⟩
    unfold Frm.rule
    rw [Int.toNat_natCast, List.getD_eq_getElem?_getD, er]
    rfl
  rw [Int.toNat_natCast, lvs]
  refine lc_filtR (selF fun k => decide (e ∈ (F.rule k).names x)) (by omega) (fun _ => rfl) (fun i H' hi sm R hR => ?_) (fun i y H' hi ey sm R hR => ?_) (fun D1 H1 hD1 sm1 eD1 => ?_)
  · rw [Int.zero_add]
    rw [selF_is, Int.zero_add] at hR
    obtain ⟨r, v0, er, e2, ev0, hv0⟩ := rule_at i hi
    rw [e2] at hR
    have hf2 := sm _ _ hf
    have hL2 := sm _ _ hL
    walk_at "s"
    refine ex_v (atI_nat ev0) ?_
    walk_at "s"
    refine named_all (ok.goodR r (List.mem_of_getElem? er)) (hv0.le (Same.le sm)) hf5 fun p H3 ys sm3 _ hp cn => ?_
    walk_at "s"
    refine in_c hk cn hp ?_
    refine ⟨_, rfl, ?_⟩
    exact hR _ sm3
  · obtain ⟨rfl, _⟩ := selF_eq ey
    walk_at "s"
    exact hR _ (.refl _)
  have efst : ((List.range F.rs.length).map fun (i : Nat) => V.int (0 + i)).filterMap (selF fun k => decide (e ∈ (F.rule k).names x)) = (F.fst x e).map V.int := by
    rw [show ((List.range F.rs.length).map fun (i : Nat) => V.int (0 + i)) = (rangeI F.rs.length).map V.int by unfold rangeI; rw [List.map_map]; exact List.map_congr_left fun i _ => by simp]
    rw [selF_map]
    rfl
  rw [efst] at eD1
  walk_at "s"
  rename_i p0 hp0 p1 hp1
  have smA : Same H (upd (upd H1 p0 (.lst [])) p1 (.lst [])) := by walk_at "sm"
  have n01 : p0 ≠ p1 := fun z => by rw [z, upd_same] at hp1; cases hp1
  have nD0 : D1 ≠ p0 := fun z => by rw [z] at eD1; rw [eD1] at hp0; cases hp0
  rw [show ((cnt : Int) - yr).toNat = cnt - yr by omega]
  refine for_rng (fun i σ' H' => ∃ (p a2 : Addr) (vs6 : List V) (y8 : Option V), σ' = [some (.ref f), some (.int cnt), some (.int yr), some (.str x), some e, some (.ref D1), some (.ref p), some (.ref a2), y8, none] ∧ H' D1 = some (.lst ((F.fst x e).map V.int)) ∧
      H' p = some (.lst vs6) ∧ AtAll H' ((F.hp x e yr i).map prI) vs6 ∧ H' a2 = some (.lst ((F.ah x e i).map V.int)) ∧ H p = none ∧ Same H H')
    ⟨p0, p1, [], none, rfl, by walk_at "hp", by walk_at "hp", rfl, upd_same, L2.Same.free sm1 hp0, smA⟩ ?_ ?_
  · rintro i σ' H2 hi ⟨p, a2, vs6, y8, rfl, hD2, hp2, hat6, ha2, hpf, sm2⟩
    have hat2 := hat0.le (Same.le sm2)
    have eh : F.ah x e (i + 1) = F.hbA (if i = 0 then F.fst x e else []) (F.ah x e i) := rfl
    walk_at "s"
    have nda : (F.ah x e (i + 1)).Nodup := by rw [eh]; exact Frm.hbA_nodup ok
    have rga : ∀ k ∈ F.ah x e (i + 1), 0 ≤ k ∧ k < F.rs.length := fun k hk => by rw [eh] at hk; exact ((Frm.hbA_mem ok).mp hk).1
    have ls : (srtI F.rs.length (F.ah x e (i + 1))).length ≤ 40 := Nat.le_trans (range_len (pw_nodup srtI_pw) (fun y hy => mem_rangeI.mp (List.mem_filter.mp hy).1)) n2
    have lhp := Frm.hp_len ok (x := x) (v := e) (y0 := yr) i
    refine if_d (fun c => ?hg1) (fun c => ?hg2)
    case' hg1 =>
      have c' : i = 0 := by omega
      rw [if_pos c'] at eh
      walk_at "s"
      refine ⟨F, D1, a2, F.fst x e, F.ah x e i, ok, hat2, rfl, hD2, rfl, ha2, fun p' H3 sm3 _ ep' => ?hg3⟩
      rw [← eh] at ep'
    case' hg2 =>
      have c' : ¬ i = 0 := by omega
      rw [if_neg c'] at eh
      walk_at "s"
      rename_i q0 hq0
      have sq : Same H2 (upd H2 q0 (.lst [])) := Same.new (.refl _) hq0
      refine ⟨F, q0, a2, [], F.ah x e i, ok, hat2.le (Same.le sq), rfl, upd_same, rfl, sq _ _ ha2, fun p' H3 sm3' _ ep' => ?hg4⟩
      rw [← eh] at ep'
      have sm3 := L2.Same.trans sq sm3'
    all_goals
      have hp3 := sm3 _ _ hp2
      have hat3 := hat6.le (Same.le sm3)
      have hD3 := sm3 _ _ hD2
      walk_at "s"
      refine fun ns' s pm up hs => ?_
      rw [sortI_eq nda rga pm up]
      have s3 : Same H3 (upd H3 s (.lst ((srtI F.rs.length (F.ah x e (i + 1))).map V.int))) := Same.new (.refl _) hs
      have es : (upd H3 s (.lst ((srtI F.rs.length (F.ah x e (i + 1))).map V.int))) s = some (.lst ((srtI F.rs.length (F.ah x e (i + 1))).map V.int)) := upd_same
      generalize upd H3 s (.lst ((srtI F.rs.length (F.ah x e (i + 1))).map V.int)) = H4 at *
      have hp4 := s3 _ _ hp3
      have ep4 := s3 _ _ ep'
      walk_at "s"
      refine lc_datL (((srtI F.rs.length (F.ah x e (i + 1))).map fun k => ((yr : Int) + i, k)).map prI) es (by simp) (by simp; omega) (prI_tupO _) (fun _ => rfl) (fun j x' d' H' ex' ed' sm5 R hR => ?_) (fun D5 H5 zs hD5 sm5 eD5 hz => ?_)
      · obtain ⟨k, ek, rfl⟩ := map_int_get ex'
        have : d' = prI ((yr : Int) + i, k) := by
          rw [List.getElem?_map, List.getElem?_map, ek] at ed'
          exact (Option.some.inj ed').symm
        subst this
        walk_at "s"
        rename_i t5 ht5
        exact hR _ _ (Same.new (.refl _) ht5) (at2 upd_same rfl rfl)
      have lz := hz.length
      have l6 := hat3.length
      rw [List.length_map] at lz l6
      rw [List.length_map] at lz
      have hp5 := sm5 _ _ hp4
      walk_at "s"
      rename_i w5 hw5
      have sm35 := L2.Same.trans s3 sm5
      have smf : Same H3 (upd H5 w5 (.lst (vs6 ++ zs))) := Same.new sm35 hw5
      refine ⟨w5, p', vs6 ++ zs, _, rfl, smf _ _ hD3, upd_same, ?_, smf _ _ ep', L2.Same.free (L2.Same.trans sm2 (L2.Same.trans sm3 sm35)) hw5, L2.Same.trans sm2 (L2.Same.trans sm3 smf)⟩
      rw [Frm.hp, List.map_append]
      exact (hat3.le (Same.le smf)).append (hz.le (Same.le (Same.new (.refl _) hw5)))
  · rintro σ' H2 ⟨p, a2, vs6, y8, rfl, hD2, hp2, hat6, ha2, hpf, sm2⟩
    walk_at "s"
    exact q p H2 vs6 sm2 hpf hp2 hat6
end
end Fl

-- after: hw2.tpl r3.tpl
namespace Fl
open PySem PySem.Spec PyProof.Rows L2 RZ
section
variable {P : Program} {w : World} {K : PySem.W.Frag} {mg : Str → Option Value} {base : Heap}
abbrev s_hanging : Stmt := topS 47
theorem sc_hanging : FnScope ["form", "count", "year", "word"] ["form", "count", "year", "word"] (defScope s_hanging) := ⟨rfl, rfl, rfl, by decide +kernel, rfl, by decide +kernel, by decide +kernel⟩
def sp_hang (x : Str) (bb : Bool) : Sp4 := fun a b c e H Q _ => ∃ (F : Frm) (cnt yr : Nat), F.Ok 40 ∧ At H F.d a ∧ b = .int cnt ∧ c = .int yr ∧ okK bb e ∧ yr ≤ cnt ∧ cnt ≤ 8 ∧
  ∀ p H' vs, Same H H' → H p = none → H' p = some (.lst vs) → AtAll H' ((F.hp x e yr (cnt - yr)).map prI) vs → Q (.ref p) H'
theorem ok_hanging (M : Mg mg) (G_hanging_on : Has P w K mg base "hanging_on" ["form", "count", "year", "word", "thing"] 5 (sp5 (sp_hangon 8))) (D : DefAt K mg "hanging" s_hanging ["form", "count", "year", "word"]) : Has P w K mg base "hanging" ["form", "count", "year", "word"] 6 (sp4 (sp_hang "paper" true)) := by
  refine .mk4 D sc_hanging fun fa cdv A outer s0 H a b c e Q E hr h => ⟨_, (pss_one (ps_ret (pe_own G_hanging_on (hr.mono (by first | decide | omega)) (by rfl) p_body (pa_cons (pv 0) (pa_cons (pv 1) (pa_cons (pv 2) (pa_cons pe_str (pa_cons (pv 3) pa_nil)))))))), ?_⟩
  obtain ⟨F, cnt, yr, ok, hat, rfl, rfl, hk, hyc, hc8, q⟩ := h
  refine Fl.go_start (σ0 := [some _, some _, some _, some _]) rfl ?_
  walk_at "s"
  refine ⟨F, cnt, yr, "paper", true, ok, hat, rfl, rfl, rfl, .inl ⟨rfl, rfl⟩, hk, hyc, hc8, fun p H' vs sm hp e1 e2 => ?_⟩
  exact q p H' vs sm hp e1 e2
abbrev s_hanging_choice : Stmt := topS 48
theorem sc_hanging_choice : FnScope ["form", "count", "year", "choice"] ["form", "count", "year", "choice"] (defScope s_hanging_choice) := ⟨rfl, rfl, rfl, by decide +kernel, rfl, by decide +kernel, by decide +kernel⟩
theorem ok_hanging_choice (M : Mg mg) (G_hanging_on : Has P w K mg base "hanging_on" ["form", "count", "year", "word", "thing"] 5 (sp5 (sp_hangon 8))) (D : DefAt K mg "hanging_choice" s_hanging_choice ["form", "count", "year", "choice"]) : Has P w K mg base "hanging_choice" ["form", "count", "year", "choice"] 6 (sp4 (sp_hang "choose" false)) := by
  refine .mk4 D sc_hanging_choice fun fa cdv A outer s0 H a b c e Q E hr h => ⟨_, (pss_one (ps_ret (pe_own G_hanging_on (hr.mono (by first | decide | omega)) (by rfl) p_body (pa_cons (pv 0) (pa_cons (pv 1) (pa_cons (pv 2) (pa_cons pe_str (pa_cons (pv 3) pa_nil)))))))), ?_⟩
  obtain ⟨F, cnt, yr, ok, hat, rfl, rfl, hk, hyc, hc8, q⟩ := h
  refine Fl.go_start (σ0 := [some _, some _, some _, some _]) rfl ?_
  walk_at "s"
  refine ⟨F, cnt, yr, "choose", false, ok, hat, rfl, rfl, rfl, .inr ⟨rfl, by simp⟩, hk, hyc, hc8, fun p H' vs sm hp e1 e2 => ?_⟩
  exact q p H' vs sm hp e1 e2
end
end Fl

-- after: va4.tpl r3.tpl
namespace Fl
open PySem PySem.Spec PyProof.Rows L2 RZ
/-! ### papers, takings that are drawn -/
section
variable {P : Program} {w : World} {K : PySem.W.Frag} {mg : Str → Option Value} {base : Heap}
abbrev s__law_papers : Stmt := topS 71
theorem sc__law_papers : FnScope ["_law_state", "_law_words_here", "_law_found", "_law_word", "_law_pair"] ["_law_state", "_law_words_here"] (defScope s__law_papers) := ⟨rfl, rfl, rfl, by decide +kernel, rfl, by decide +kernel, by decide +kernel⟩
def sp_law_papers : Sp2 := fun a b H Q _ => ∃ (st W : Addr) (x0 : Int) (ws : List Str), a = .ref st ∧ H st = some (.lst [.int x0]) ∧ b = .ref W ∧ W ≠ st ∧ H W = some (.lst (ws.map V.str)) ∧ (∀ s ∈ ws, WdT s) ∧ ws.length ≤ 10 ∧
  ∀ p H' vs ps, Gs st H H' → H p = none → H' p = some (.lst vs) → AtAll H' (ps.map prD) vs → PapOk ps → ps.length ≤ ws.length → Q (.ref p) H'
theorem ok_law_papers (M : Mg mg) (G__law_next : Has P w K mg base "_law_next" ["_law_state", "_law_size"] 1 (sp2 sp_next)) (G__law_number : Has P w K mg base "_law_number" ["_law_state"] 2 (sp1 sp_number)) (D : DefAt K mg "_law_papers" s__law_papers ["_law_state", "_law_words_here"]) :
    Has P w K mg base "_law_papers" ["_law_state", "_law_words_here"] 3 (sp2 sp_law_papers) := by
  refine .mk2 D sc__law_papers fun fa cdv A outer s0 H a b Q E hr h => ⟨_, (pss_cons (ps_set (i := 2) sc__law_papers.nd rfl (by first | exact Or.inl rfl | exact Or.inr rfl) (pe_lst pa_nil))
    (pss_cons (ps_for own_p (by rfl) (k_pi K rfl (pv 1)) (pg_name (i := 3) sc__law_papers.nd rfl (by first | exact Or.inl rfl | exact Or.inr rfl)) (pss_one (ps_if (PW.pt (pw_and (pt_cmpR o_gt (pe_own G__law_next (hr.mono (by first | decide | omega)) (by rfl) p_body (pa_cons (pv 0) (pa_cons pe_int pa_nil))) pe_int (nomark _)) (pw_and1 (pt_cmpR (k_notin K rfl hr) (pv 3) (pe_lc (own := [("_law_pair", 4)]) (g := gName 4) (by rfl) sc__law_papers.nd (k_pi K rfl (pv 2)) (blkOk_by (N := ["_law_state", "_law_words_here", "_law_found", "_law_word", "_law_pair"]) (sc := (defScope s__law_papers)) (own := [("_law_pair", 4)]) (by decide +kernel)) (fun _ _ _ _ _ => (pg_name (i := 4) sc__law_papers.nd rfl (by first | exact Or.inl rfl | exact Or.inr rfl))) (fun _ _ _ _ _ => pts_nil) (fun _ _ _ _ _ => (pe_ix (k_ix K rfl) (pv 4) pe_int (fun _ _ => rfl)))) (by rfl))))) (pss_one (ps_expr (k_bm K rfl PySem.F.plainAttrs_list PySem.F.slot_list_append PySem.F.type_list_append mt_append (pv 2) (pa_cons (pe_tup (pa_cons (pv 3) (pa_cons (pe_own G__law_number (hr.mono (by first | decide | omega)) (by rfl) p_body (pa_cons (pv 0) pa_nil)) pa_nil))) pa_nil)))) pss_nil)))
    (pss_one (ps_ret (pv 2))))), ?_⟩
  obtain ⟨st, W, x0, ws, rfl, hst, rfl, nW, hW, hwd, l8, q⟩ := h
  refine Fl.go_start (σ0 := [some _, some _, none, none, none]) rfl ?_
  walk_at "s"
  rename_i p0 hp0
  have nps : p0 ≠ st := fun e => by rw [e, hst] at hp0; cases hp0
  refine for_lst (fun i σ' H' => ∃ (y3 : Option V) (ps : List (Str × Int)) (vs : List V), σ' = [some (.ref st), some (.ref W), some (.ref p0), y3, none] ∧ (∃ x, H' st = some (.lst [.int x])) ∧ H' p0 = some (.lst vs) ∧ AtAll H' (ps.map prD) vs ∧ PapOk ps ∧ ps.length ≤ i ∧ Gs st H H')
    (by walk_at "hp") ⟨none, [], [], rfl, ⟨x0, by walk_at "hp"⟩, upd_same, rfl, ⟨by simp, by simp, by simp, by simp⟩, by simp, by walk_at "gs"⟩ (fun i σ' H' _ ⟨_, _, _, _, _, _, _, _, _, gs⟩ => gs.keep _ _ nW hW) ?_ ?_
  · rintro i x σ' H1 ex ⟨y3, ps, vs, rfl, ⟨x1, hx1⟩, hp1, hat, pok, lp, gs⟩
    obtain ⟨s, es, rfl⟩ : ∃ s, ws[i]? = some s ∧ x = .str s := by
      rw [List.getElem?_map] at ex
      cases e : ws[i]? with
      | none => rw [e] at ex; cases ex
      | some y => rw [e] at ex; exact ⟨y, rfl, (Option.some.inj ex).symm⟩
    have il := (List.getElem?_eq_some_iff.mp es).1
    have wd := hwd s (List.mem_of_getElem? es)
    walk_at "s"
    rename_i yy rr hr0 hr1
    have g2 : Gs st H1 (upd H1 st (.lst [.int yy])) := by walk_at "gs"
    have hx2 : (upd H1 st (.lst [.int yy])) st = some (.lst [.int yy]) := upd_same
    generalize upd H1 st (.lst [.int yy]) = H2 at *
    have gs2 := gs.trans g2
    have hp2 := g2.keep _ _ nps hp1
    have hat2 := hat.le (g2.le hx1)
    have lv := hat2.length
    rw [List.length_map] at lv
    have skip : ∀ H3, Same H2 H3 → ∃ (y3' : Option V) (ps : List (Str × Int)) (vs : List V), [some (V.ref st), some (.ref W), some (.ref p0), some (.str s), none] = [some (V.ref st), some (.ref W), some (.ref p0), y3', none] ∧ (∃ x, H3 st = some (.lst [.int x])) ∧ H3 p0 = some (.lst vs) ∧ AtAll H3 (ps.map prD) vs ∧ PapOk ps ∧ ps.length ≤ i + 1 ∧ Gs st H H3 :=
      fun H3 sm => ⟨_, ps, vs, rfl, ⟨_, sm _ _ hx2⟩, sm _ _ hp2, hat2.le (Same.le sm), pok, by omega, by walk_at "gs"⟩
    refine if_d (fun c => ?_) (fun c => ?_)
    · walk_at "s"
      refine lc_seqL (ps.map fun p => V.str p.1) hp2 (by rw [List.length_map, lv]) (by rw [List.length_map]; omega) (fun _ => rfl) (fun j x y H' ex2 ey sm R hR => ?_) (fun D1 H3 hD1 sm3 eD1 => ?_)
      · obtain ⟨d0, ed, hx⟩ := hat2.ix ex2
        obtain ⟨pr, ep, rfl⟩ : ∃ pr, ps[j]? = some pr ∧ d0 = prD pr := by
          rw [List.getElem?_map] at ed
          cases e : ps[j]? with
          | none => rw [e] at ed; cases ed
          | some t => rw [e] at ed; exact ⟨t, rfl, (Option.some.inj ed).symm⟩
        have : y = .str pr.1 := by
          rw [List.getElem?_map, ep] at ey
          exact (Option.some.inj ey).symm
        subst this
        obtain ⟨t, u, rfl, ht, hu⟩ := At.t2 hx
        have ht' := sm _ _ ht
        walk_at "s"
        exact hR _ (.refl _)
      walk_at "s"
      have okv : ∀ u ∈ ps.map fun p => V.str p.1, okK true u := fun u hu => by
        obtain ⟨p, _, rfl⟩ := List.mem_map.mp hu
        exact ⟨_, rfl⟩
      refine ⟨List.all_eq_true.mpr fun u hu => flat_k (okv u hu), ?_⟩
      rw [inV_k (b := true) ⟨s, rfl⟩ okv]
      have e1 : decide (V.str s ∈ ps.map fun p => V.str p.1) = decide (s ∈ ps.map (·.1)) := by
        congr 1
        refine propext ⟨fun h => ?_, fun h => ?_⟩
        · obtain ⟨p, hp, e⟩ := List.mem_map.mp h
          exact List.mem_map.mpr ⟨p, hp, V.str.inj e⟩
        · obtain ⟨p, hp, e⟩ := List.mem_map.mp h
          exact List.mem_map.mpr ⟨p, hp, congrArg V.str e⟩
      rw [e1]
      refine ⟨_, rfl, ?_⟩
      refine if_b (fun c2 => ?_) (fun c2 => ?_)
      · have no : s ∉ ps.map (·.1) := by simpa using c2
        have hx3 := sm3 _ _ hx2
        have hp3 := sm3 _ _ hp2
        have hat3 := hat2.le (Same.le sm3)
        walk_at "s"
        rename_i z H4 hz1 hz2 g4 x4 hx4 t5 ht5
        have hp4 := g4.keep _ _ nps hp3
        have n5 : t5 ≠ p0 := fun e => by rw [e, hp4] at ht5; cases ht5
        have hat4 := hat3.le (g4.le hx3)
        have lt : LeT H4 (upd (upd H4 t5 (.tup [.str s, .int z])) p0 (.lst (vs ++ [.ref t5]))) := LeT.put1 (by rw [upd_ne n5.symm]; exact hp4) (LeT.new1 ht5 (.refl _))
        have g24 : Gs st H H4 := (show Gs st H H3 by walk_at "gs").trans g4
        have nst5 : st ≠ t5 := fun e => by rw [← e, hx4] at ht5; cases ht5
        refine ⟨_, ps ++ [(s, z)], vs ++ [.ref t5], rfl, ⟨x4, by rw [upd_ne nps.symm, upd_ne nst5]; exact hx4⟩, upd_same, ?_, ?_, by rw [List.length_append, List.length_singleton]; omega, ?_⟩
        · rw [List.map_append]
          exact (hat4.leT lt (prs_tupO ps)).append (AtAll.one (at2 (by rw [upd_ne n5]; exact upd_same) rfl rfl))
        · refine ⟨fun p hp => ?_, fun p hp => ?_, ?_, by rw [List.length_append, List.length_singleton]; omega⟩
          · rcases List.mem_append.mp hp with h | h
            · exact pok.wd p h
            · rw [List.mem_singleton.mp h]; exact wd
          · rcases List.mem_append.mp hp with h | h
            · exact pok.num p h
            · rw [List.mem_singleton.mp h]; exact ⟨hz1, hz2⟩
          · rw [List.map_append]
            exact List.nodup_append.mpr ⟨pok.nd, by simp, fun a ha b hb => by
              have : b = s := by simpa using hb
              rw [this]
              rintro rfl
              exact no ha⟩
        · walk_at "gs"
      · walk_at "s"
        exact skip _ sm3
    · walk_at "s"
      exact skip _ (.refl _)
  · rintro σ' H1 ⟨y3, ps, vs, rfl, ⟨x1, hx1⟩, hp1, hat, pok, lp, gs⟩
    rw [List.length_map] at lp
    walk_at "s"
    exact q p0 H1 vs ps gs hp0 hp1 hat pok (by omega)
end
end Fl

-- after: hw3.tpl pt.tpl
namespace Fl
end Fl

-- after: hw4.tpl r7.tpl
namespace Fl
open PySem PySem.Spec PyProof.Rows L2 RZ
/-! ### pairs, sorted -/
def pairOf (H : Hp) : V → Int × Int
  | .ref t => match H t with
    | some (.tup [.int a, .int b]) => (a, b)
    | _ => (0, 0)
  | _ => (0, 0)
theorem at_prI {H : Hp} {p : Int × Int} {v : V} (h : At H (prI p) v) : ∃ t, v = .ref t ∧ H t = some (.tup [.int p.1, .int p.2]) := by
  obtain ⟨a, us, rfl, ha, u0, r0, rfl, h0, u1, r1, rfl, h1, h2⟩ := h
  cases (show u0 = .int p.1 from h0)
  cases (show u1 = .int p.2 from h1)
  cases (show r1 = [] from h2)
  exact ⟨a, rfl, ha⟩
theorem pairOf_at {H : Hp} {p : Int × Int} {v : V} (h : At H (prI p) v) : pairOf H v = p := by
  obtain ⟨t, rfl, ht⟩ := at_prI h
  simp only [pairOf, ht]
theorem pairs_map {H : Hp} : ∀ {ps : List (Int × Int)} {vs : List V}, AtAll H (ps.map prI) vs → vs.map (pairOf H) = ps ∧ ∀ v ∈ vs, At H (prI (pairOf H v)) v
  | [], _, h => by
    cases (show _ = _ from h)
    exact ⟨rfl, fun v hv => by cases hv⟩
  | p :: r, _, ⟨v, us, e, h, t⟩ => by
    subst e
    have ih := pairs_map t
    refine ⟨by rw [List.map_cons, ih.1, pairOf_at h], fun w hw => ?_⟩
    rcases List.mem_cons.mp hw with rfl | hw
    · rw [pairOf_at h]; exact h
    · exact ih.2 w hw
theorem atAll_map {H : Hp} {f : V → PyData} : ∀ {vs : List V}, (∀ v ∈ vs, At H (f v) v) → AtAll H (vs.map f) vs
  | [], _ => rfl
  | v :: r, h => ⟨v, r, rfl, h v (List.mem_cons_self ..), atAll_map fun w hw => h w (List.mem_cons_of_mem _ hw)⟩
theorem sortP_use {K : PySem.W.Frag} {H : Hp} {Q : VK} {a : Addr} {xs : List V} {ps qs : List (Int × Int)} (ha : H a = some (.lst xs)) (hat : AtAll H (ps.map prI) xs) (nd : ps.Nodup) (hq : qs.Pairwise ltI) (mem : ∀ p, p ∈ ps ↔ p ∈ qs)
    (q : ∀ p ys, H p = none → AtAll H (qs.map prI) ys → Q (.ref p) (upd H p (.lst ys))) : rSortedPO K [.ref a] H Q := by
  obtain ⟨e1, e2⟩ := pairs_map hat
  refine ⟨a, xs, pairOf H, rfl, .of ha, fun x hx => at_prI (e2 x hx), fun ys p srt stb hp => ?_⟩
  have e3 : ∀ y ∈ ys, At H (prI (pairOf H y)) y := fun y hy => e2 y (stb.perm.mem_iff.mp hy)
  have pm : (ys.map (pairOf H)).Perm ps := e1 ▸ stb.perm.map (pairOf H)
  have nd' : (ys.map (pairOf H)).Nodup := pm.nodup_iff.mpr nd
  have pw : (ys.map (pairOf H)).Pairwise ltI := by
    refine List.pairwise_map.mpr ((List.Pairwise.and srt (List.pairwise_map.mp nd')).imp fun {x y} h => ?_)
    have h1 := SrtO.lexB_no.mp h.1
    have h2 := h.2
    unfold ltI
    have : (pairOf H x).1 ≠ (pairOf H y).1 ∨ (pairOf H x).2 ≠ (pairOf H y).2 := Classical.byContradiction fun c => h2 (Prod.ext (Classical.byContradiction fun z => c (.inl z)) (Classical.byContradiction fun z => c (.inr z)))
    omega
  have e : ys.map (pairOf H) = qs := ltI_uniq pw hq fun p => (pm.mem_iff).trans (mem p)
  refine q p ys hp ?_
  rw [← e, List.map_map]
  exact atAll_map (f := prI ∘ pairOf H) e3
/-! ### a pair in a list of these -/
theorem depth_prI (ps : List (Int × Int)) : PyData.depthAll (ps.map prI) ≤ 1 := by
  induction ps with
  | nil => simp [PyData.depthAll]
  | cons p r ih =>
    simp only [List.map_cons, PyData.depthAll]
    have : PyData.depth (prI p) = 1 := rfl
    omega
theorem shaped_prs (ps : List (Int × Int)) : SeqAt.shaped (.list (ps.map prI)) = true := by
  have h := depth_prI ps
  have l : PyData.canLayAll0 (ps.map prI) = true := lay_all _ fun d hd => by
    obtain ⟨p, _, rfl⟩ := List.mem_map.mp hd
    rfl
  have e : PyData.depthAll (ps.map prI) + 1 ≤ 64 := by omega
  simp [SeqAt.shaped, PyData.canLay0, l, PyData.depth, e]
theorem shaped_pr (p : Int × Int) : SeqAt.shaped (prI p) = true := rfl
theorem any_prI {p : Int × Int} : ∀ ps : List (Int × Int), ((ps.map prI).any fun z => PyData.eqv z (prI p)) = decide (p ∈ ps)
  | [] => by simp
  | q :: r => by
    rw [List.map_cons, List.any_cons, any_prI r]
    have e : PyData.eqv (prI q) (prI p) = decide (p = q) := by
      simp only [prI, PyData.eqv, PyData.eqvAll]
      by_cases c : p = q
      · subst c
        simp
      · have : ¬ (q.1 = p.1 ∧ q.2 = p.2) := fun h => c (Prod.ext h.1.symm h.2.symm)
        simp [c]
        omega
    rw [e]
    by_cases c : p = q <;> simp [c]
theorem in_pr {K : PySem.W.Frag} {H : Hp} {Q : VK} {a : Addr} {v : V} {vs : List V} {p : Int × Int} {ps : List (Int × Int)} (hv : At H (prI p) v) (ha : H a = some (.lst vs)) (hat : AtAll H (ps.map prI) vs) (q : Q (.bl (decide (p ∈ ps))) H) : uIn K v (.ref a) H Q :=
  .inr ⟨prI p, ps.map prI, hv.dp, .lst (.of ha) hat.dp, shaped_pr p, shaped_prs ps, by rw [any_prI]; exact q⟩
theorem notin_pr {K : PySem.W.Frag} {H : Hp} {Q : VK} {a : Addr} {v : V} {vs : List V} {p : Int × Int} {ps : List (Int × Int)} (hv : At H (prI p) v) (ha : H a = some (.lst vs)) (hat : AtAll H (ps.map prI) vs) (q : Q (.bl (!decide (p ∈ ps))) H) : uNotIn K v (.ref a) H Q :=
  .inr ⟨prI p, ps.map prI, hv.dp, .lst (.of ha) hat.dp, shaped_pr p, shaped_prs ps, by rw [any_prI]; exact q⟩
/-- all pairs -/
def allP (N : Nat) : Nat → List (Int × Int)
  | 0 => []
  | c + 1 => allP N c ++ (rangeI N).map fun k => ((c : Int), k)
theorem allP_len (N : Nat) : ∀ c, (allP N c).length = c * N
  | 0 => by simp [allP]
  | c + 1 => by rw [allP, List.length_append, List.length_map, rangeI_len, allP_len N c, Nat.succ_mul]
theorem allP_mem {N : Nat} {p : Int × Int} (h : 0 ≤ p.2 ∧ p.2 < N) : ∀ {c : Nat}, 0 ≤ p.1 → p.1 < c → p ∈ allP N c
  | 0, h0, h1 => by omega
  | c + 1, h0, h1 => by
    rw [allP, List.mem_append]
    rcases Int.lt_or_le p.1 c with z | z
    · exact .inl (allP_mem h h0 z)
    · exact .inr (List.mem_map.mpr ⟨p.2, mem_rangeI.mpr h, Prod.ext (by show (c : Int) = p.1; omega) rfl⟩)
/-- the test of a pair -/
def Frm.hgT (F : Frm) (x : Str) (v : V) (y0 : Int) (ps : List (Int × Int)) (y k : Int) : Bool :=
  ((decide (y = y0) && decide (v ∈ (F.rule k).names x)) || (F.adj k).any fun o => decide ((y, o) ∈ ps)) || (F.ear k).any fun o => decide ((y - 1, o) ∈ ps)
structure Frm.HgOk (F : Frm) (x : Str) (v : V) (y0 cnt : Nat) (ps : List (Int × Int)) : Prop where
  snd : ∀ p ∈ ps, p.1 < cnt ∧ F.Hg x v y0 p.1 p.2
  nd : ps.Nodup
theorem Frm.HgOk.len {F : Frm} {x : Str} {v : V} {y0 cnt : Nat} {ps : List (Int × Int)} (h : F.HgOk x v y0 cnt ps) : ps.length ≤ cnt * F.rs.length := by
  rw [← allP_len]
  refine nodup_le h.nd fun p hp => ?_
  have := h.snd p hp
  exact allP_mem this.2.rng (by have := this.2.ge; omega) this.1
theorem Frm.HgOk.put {F : Frm} {x : Str} {v : V} {y0 cnt : Nat} {ps : List (Int × Int)} (h : F.HgOk x v y0 cnt ps) {y k : Int} (hy : y0 ≤ y ∧ y < cnt) (hk : 0 ≤ k ∧ k < F.rs.length) (t : F.hgT x v y0 ps y k = true) (no : (y, k) ∉ ps) : F.HgOk x v y0 cnt (ps ++ [(y, k)]) := by
  refine ⟨fun p hp => ?_, List.nodup_append.mpr ⟨h.nd, by simp, fun a ha b hb => by rw [List.mem_singleton.mp hb]; rintro rfl; exact no ha⟩⟩
  rcases List.mem_append.mp hp with z | z
  · exact h.snd p z
  · rw [List.mem_singleton.mp z]
    refine ⟨hy.2, ?_⟩
    unfold Frm.hgT at t
    simp only [Bool.or_eq_true, Bool.and_eq_true, decide_eq_true_eq, List.any_eq_true] at t
    rcases t with (⟨e, hv⟩ | ⟨o, ho, hm⟩) | ⟨o, ho, hm⟩
    · show F.Hg x v y0 y k
      rw [e]
      exact .own k hk hv
    · exact .line y k o (h.snd _ hm).2 hk ho
    · exact .earl y k o (h.snd _ hm).2 hk ho
def Frm.HgCl (F : Frm) (x : Str) (v : V) (y0 : Nat) (ps : List (Int × Int)) (y k : Int) : Prop := F.hgT x v y0 ps y k = true → (y, k) ∈ ps
theorem Frm.HgOk.mem {F : Frm} {m : Nat} (ok : F.Ok m) {x : Str} {v : V} {y0 cnt : Nat} {ps : List (Int × Int)} (h : F.HgOk x v y0 cnt ps) (hyc : y0 ≤ cnt) (cl : ∀ y k : Int, y0 ≤ y → y < cnt → 0 ≤ k ∧ k < F.rs.length → F.HgCl x v y0 ps y k) : ∀ p, p ∈ ps ↔ p ∈ F.hp x v y0 (cnt - y0) := fun p => by
  rw [Frm.hp_mem ok]
  have e : (y0 : Int) + ((cnt - y0 : Nat) : Int) = cnt := by omega
  rw [e]
  refine ⟨h.snd p, fun ⟨h1, h2⟩ => ?_⟩
  refine Frm.Hg.all (F := F) (x := x) (v := v) (y0 := y0) (cnt := cnt) (fun y k hy1 hy2 hk t => cl y k hy1 hy2 hk ?_) h2 h1
  unfold Frm.hgT
  simp only [Bool.or_eq_true, Bool.and_eq_true, decide_eq_true_eq, List.any_eq_true]
  rcases t with ⟨e, hv⟩ | ⟨o, ho, hm⟩ | ⟨o, ho, hm⟩
  · exact .inl (.inl ⟨e, hv⟩)
  · exact .inl (.inr ⟨o, ho, hm⟩)
  · exact .inr ⟨o, ho, hm⟩
end Fl

-- after: hx.tpl hw5.tpl srt2.tpl
namespace Fl
open PySem PySem.Spec PyProof.Rows L2 RZ
/-! ### lines told anew -/
theorem Frm.anew_val {F : Frm} {m : Nat} (ok : F.Ok m) {ps : List (Str × Int)} {earl : List Int} {tk : List Bool} {L : List Int} {j : Nat} {k : Int} (ek : F.ord[j]? = some k) (hL : ∀ y : Int, y ∈ F.ord.take j → L.getD y.toNat 0 = (F.yr ps earl tk).getD y.toNat 0) :
    (F.rule k).val ⟨L, papF ps, earl, F.tbs, tk⟩ = (F.yr ps earl tk).getD k.toNat 0 := by
  have rg := ok.ord.rng k (List.mem_of_getElem? ek)
  have e := Frm.rule_at rg
  have fx : (F.yr ps earl tk).getD k.toNat 0 = (F.rule k).val ⟨F.yr ps earl tk, papF ps, earl, F.tbs, tk⟩ := Frm.year_fix ok (S := ⟨[], papF ps, earl, F.tbs, tk⟩) e
  rw [fx]
  exact Rule.val_congr (S := ⟨L, papF ps, earl, F.tbs, tk⟩) (S' := ⟨F.yr ps earl tk, papF ps, earl, F.tbs, tk⟩) rfl (fun y hy => hL y (ok.ord.ord j k ek y (Frm.mem_adj ok rg hy))) (fun _ _ => rfl) (fun _ _ => rfl) (fun _ _ => rfl)
/-- a row of which the first j lines of the order are told anew -/
structure Frm.MixAt (F : Frm) (j : Nat) (o n L : List Int) : Prop where
  len : L.length = F.rs.length
  val : ∀ k : Int, 0 ≤ k ∧ k < F.rs.length → L.getD k.toNat 0 = if k ∈ F.ord.take j then n.getD k.toNat 0 else o.getD k.toNat 0
theorem Frm.MixAt.zero {F : Frm} {o n : List Int} (l : o.length = F.rs.length) : F.MixAt 0 o n o := ⟨l, fun k _ => by simp⟩
theorem Frm.MixAt.stay {F : Frm} {j : Nat} {o n L : List Int} {k : Int} (h : F.MixAt j o n L) (ek : F.ord[j]? = some k) (e : o.getD k.toNat 0 = n.getD k.toNat 0) : F.MixAt (j + 1) o n L := by
  refine ⟨h.len, fun y hy => ?_⟩
  rw [h.val y hy, List.take_add_one, ek]
  by_cases c : y ∈ F.ord.take j
  · rw [if_pos c, if_pos (List.mem_append.mpr (.inl c))]
  · rw [if_neg c]
    by_cases c2 : y = k
    · subst c2
      rw [if_pos (by simp), e]
    · rw [if_neg (by simp [c, c2])]
theorem Frm.MixAt.put {F : Frm} {m : Nat} (ok : F.Ok m) {j : Nat} {o n L : List Int} {k : Int} (h : F.MixAt j o n L) (ek : F.ord[j]? = some k) : F.MixAt (j + 1) o n (L.set k.toNat (n.getD k.toNat 0)) := by
  have rg := ok.ord.rng k (List.mem_of_getElem? ek)
  refine ⟨by rw [List.length_set]; exact h.len, fun y hy => ?_⟩
  rw [List.take_add_one, ek]
  by_cases c2 : y = k
  · subst c2
    rw [getD_set_self (by rw [h.len]; omega), if_pos (by simp)]
  · rw [getD_set_ne (by omega), h.val y hy]
    by_cases c : y ∈ F.ord.take j
    · rw [if_pos c, if_pos (List.mem_append.mpr (.inl c))]
    · rw [if_neg c, if_neg (by simp [c, c2])]
/-- before its turn a line is what it was -/
theorem Frm.MixAt.old {F : Frm} {m : Nat} (ok : F.Ok m) {j : Nat} {o n L : List Int} {k : Int} (h : F.MixAt j o n L) (ek : F.ord[j]? = some k) : L.getD k.toNat 0 = o.getD k.toNat 0 := by
  have rg := ok.ord.rng k (List.mem_of_getElem? ek)
  rw [h.val k rg, if_neg]
  intro c
  have h3 := pos_take c
  have h4 := pos_get ok.ord.nd ek
  omega
theorem Frm.MixAt.told {F : Frm} {j : Nat} {o n L : List Int} (h : F.MixAt j o n L) : ∀ y : Int, y ∈ F.ord.take j → 0 ≤ y ∧ y < F.rs.length → L.getD y.toNat 0 = n.getD y.toNat 0 := fun y hy rg => by rw [h.val y rg, if_pos hy]
theorem list_ext_getD {a b : List Int} (l : a.length = b.length) (h : ∀ k : Nat, k < a.length → a.getD k 0 = b.getD k 0) : a = b := by
  apply List.ext_getElem l
  intro i h1 h2
  have := h i h1
  rw [List.getD_eq_getElem?_getD, List.getD_eq_getElem?_getD, List.getElem?_eq_getElem h1, List.getElem?_eq_getElem h2] at this
  exact this
theorem Frm.MixAt.all {F : Frm} {m : Nat} (ok : F.Ok m) {o n L : List Int} (h : F.MixAt F.rs.length o n L) (l : n.length = F.rs.length) : L = n := by
  refine list_ext_getD (by rw [h.len, l]) fun k hk => ?_
  have rg : 0 ≤ (k : Int) ∧ (k : Int) < F.rs.length := by have := h.len; omega
  have mem : (k : Int) ∈ F.ord := (ok.ord.perm k).mpr rg
  have e := h.val k rg
  rw [List.take_of_length_le (by rw [ok.ord.len]; exact Nat.le_refl _), if_pos mem, Int.toNat_natCast] at e
  exact e
/-- the pairs of which the lines are others -/
def chgP (o n : Nat → List Int) (N : Nat) : Nat → List (Int × Int)
  | 0 => []
  | c + 1 => chgP o n N c ++ ((rangeI N).filter fun k => decide ((o c).getD k.toNat 0 ≠ (n c).getD k.toNat 0)).map fun k => ((c : Int), k)
theorem chgP_mem {o n : Nat → List Int} {N : Nat} {p : Int × Int} : ∀ {c : Nat}, p ∈ chgP o n N c ↔ (0 ≤ p.1 ∧ p.1 < c) ∧ (0 ≤ p.2 ∧ p.2 < N) ∧ (o p.1.toNat).getD p.2.toNat 0 ≠ (n p.1.toNat).getD p.2.toNat 0
  | 0 => by
    simp only [chgP, List.not_mem_nil, false_iff]
    omega
  | c + 1 => by
    rw [chgP, List.mem_append, chgP_mem (c := c), List.mem_map]
    constructor
    · rintro (⟨h1, h2, h3⟩ | ⟨k, hk, rfl⟩)
      · exact ⟨by omega, h2, h3⟩
      · obtain ⟨h1, h2⟩ := List.mem_filter.mp hk
        exact ⟨by dsimp only; omega, mem_rangeI.mp h1, by simpa using h2⟩
    · rintro ⟨h1, h2, h3⟩
      rcases Int.lt_or_le p.1 c with z | z
      · exact .inl ⟨⟨h1.1, z⟩, h2, h3⟩
      · have e : p.1 = c := by omega
        refine .inr ⟨p.2, List.mem_filter.mpr ⟨mem_rangeI.mpr h2, ?_⟩, Prod.ext e.symm rfl⟩
        rw [e, Int.toNat_natCast] at h3
        simpa using h3
theorem chgP_pw {o n : Nat → List Int} {N : Nat} : ∀ {c : Nat}, (chgP o n N c).Pairwise ltI
  | 0 => .nil
  | c + 1 => by
    rw [chgP, List.pairwise_append]
    refine ⟨chgP_pw, List.pairwise_map.mpr (((range_srt N).filter _).imp fun h => .inr ⟨rfl, h⟩), fun p hp q hq => ?_⟩
    obtain ⟨k, _, rfl⟩ := List.mem_map.mp hq
    exact .inl (chgP_mem.mp hp).1.2
theorem chgP_len {o n : Nat → List Int} {N : Nat} : ∀ {c : Nat}, (chgP o n N c).length ≤ N * c
  | 0 => by simp [chgP]
  | c + 1 => by
    rw [chgP, List.length_append, List.length_map]
    have h1 := chgP_len (o := o) (n := n) (N := N) (c := c)
    have h2 := List.length_filter_le (fun k => decide ((o c).getD k.toNat 0 ≠ (n c).getD k.toNat 0)) (rangeI N)
    rw [rangeI_len] at h2
    rw [Nat.mul_succ]
    omega
/-! ### the dict of papers -/
def DicP (ps : List (Str × Int)) (kvs : List (Key × V)) : Prop := ∃ qs : List (Str × Int), kvs = qs.map kvSN ∧ qs.Perm ps
theorem nd_key : ∀ {ps : List (Str × Int)} {x y : Str × Int}, (ps.map (·.1)).Nodup → x ∈ ps → y ∈ ps → x.1 = y.1 → x = y
  | [], _, _, _, h, _, _ => by cases h
  | p :: r, x, y, nd, hx, hy, e => by
    rw [List.map_cons, List.nodup_cons] at nd
    rcases List.mem_cons.mp hx with e1 | hx1 <;> rcases List.mem_cons.mp hy with e2 | hy1
    · rw [e1, e2]
    · exact (nd.1 (List.mem_map.mpr ⟨y, hy1, by rw [← e, e1]⟩)).elim
    · exact (nd.1 (List.mem_map.mpr ⟨x, hx1, by rw [e, e2]⟩)).elim
    · exact nd_key nd.2 hx1 hy1 e
theorem find_perm {ps qs : List (Str × Int)} (pm : qs.Perm ps) (nd : (ps.map (·.1)).Nodup) (w : Str) : qs.find? (fun p => decide (p.1 = w)) = ps.find? (fun p => decide (p.1 = w)) := by
  cases e : ps.find? (fun p => decide (p.1 = w)) with
  | none =>
    rw [List.find?_eq_none] at e ⊢
    exact fun x hx => e x (pm.mem_iff.mp hx)
  | some x =>
    have hx := List.mem_of_find?_eq_some e
    have ex : x.1 = w := by simpa using List.find?_some e
    cases e2 : qs.find? (fun p => decide (p.1 = w)) with
    | none =>
      rw [List.find?_eq_none] at e2
      exact absurd ex (by simpa using e2 x (pm.mem_iff.mpr hx))
    | some y =>
      have hy := pm.mem_iff.mp (List.mem_of_find?_eq_some e2)
      have ey : y.1 = w := by simpa using List.find?_some e2
      rw [nd_key nd hy hx (ey.trans ex.symm)]
theorem papF_perm {ps qs : List (Str × Int)} (pm : qs.Perm ps) (nd : (ps.map (·.1)).Nodup) : papF qs = papF ps := funext fun w => by
  unfold papF
  rw [find_perm pm nd]
theorem valV_kvSN (w : Str) : ∀ l : List (Str × Int), valV (l.map kvSN) (.inr w) = ((l.find? fun p => decide (p.1 = w)).map (·.2)).map V.int
  | [] => rfl
  | p :: r => by
    by_cases c : p.1 = w
    · rw [List.map_cons, valV_pos (show (kvSN p).1 = .inr w by rw [← c]), List.find?_cons_of_pos (by simpa using c)]
      rfl
    · rw [List.map_cons, valV_neg (show ¬ (kvSN p).1 = .inr w from fun e => c (Sum.inr.inj e)), List.find?_cons_of_neg (by simpa using c)]
      exact valV_kvSN w r
theorem DicP.dicOf {ps : List (Str × Int)} {kvs : List (Key × V)} (h : DicP ps kvs) (nd : (ps.map (·.1)).Nodup) : DicOf ps kvs := by
  obtain ⟨qs, rfl, pm⟩ := h
  intro w
  rw [valV_kvSN, find_perm pm nd]
theorem repl_perm {w : Str} {z : Int} : ∀ {qs : List (Str × Int)}, (qs.map (·.1)).Nodup → w ∈ qs.map (·.1) → (qs.map fun p => if p.1 = w then (w, z) else p).Perm ((qs.filter fun p => decide (p.1 ≠ w)) ++ [(w, z)])
  | [], _, h => by cases h
  | p :: r, nd, h => by
    rw [List.map_cons, List.nodup_cons] at nd
    by_cases c : p.1 = w
    · have no : ∀ x ∈ r, x.1 ≠ w := fun x hx e => nd.1 (by rw [c, ← e]; exact List.mem_map.mpr ⟨x, hx, rfl⟩)
      have e1 : (r.map fun p => if p.1 = w then (w, z) else p) = r := (List.map_congr_left (f := fun p => if p.1 = w then (w, z) else p) (g := id) fun x hx => if_neg (no x hx)).trans (List.map_id _)
      have e2 : (r.filter fun p => decide (p.1 ≠ w)) = r := List.filter_eq_self.mpr fun x hx => by simpa using no x hx
      rw [List.map_cons, if_pos c, e1, List.filter_cons_of_neg (by simpa using c), e2]
      exact (List.perm_append_singleton _ _).symm
    · have h' : w ∈ r.map (·.1) := by
        rcases List.mem_cons.mp h with e | e
        · exact absurd e.symm c
        · exact e
      rw [List.map_cons, if_neg c, List.filter_cons_of_pos (by simpa using c), List.cons_append]
      exact (repl_perm nd.2 h').cons _
theorem DicP.put {ps : List (Str × Int)} {kvs : List (Key × V)} {w : Str} {z : Int} (h : DicP ps kvs) (nd : (ps.map (·.1)).Nodup) : DicP ((ps.filter fun p => decide (p.1 ≠ w)) ++ [(w, z)]) (putK kvs (.inr w) (.int z)) := by
  obtain ⟨qs, rfl, pm⟩ := h
  have ndq : (qs.map (·.1)).Nodup := (pm.map (·.1)).nodup_iff.mpr nd
  have pf : ((qs.filter fun p => decide (p.1 ≠ w)) ++ [(w, z)]).Perm ((ps.filter fun p => decide (p.1 ≠ w)) ++ [(w, z)]) := (pm.filter _).append_right _
  unfold putK
  by_cases c : w ∈ qs.map (·.1)
  · have e : ((qs.map kvSN).any fun kv => decide (kv.1 = .inr w)) = true := by
      obtain ⟨p, hp, e⟩ := List.mem_map.mp c
      rw [List.any_eq_true]
      exact ⟨kvSN p, List.mem_map.mpr ⟨p, hp, rfl⟩, by simp [kvSN, e]⟩
    rw [if_pos e]
    refine ⟨qs.map fun p => if p.1 = w then (w, z) else p, ?_, (repl_perm ndq c).trans pf⟩
    rw [List.map_map, List.map_map]
    refine List.map_congr_left fun p _ => ?_
    by_cases e : p.1 = w
    · simp [kvSN, e]
    · simp [kvSN, e]
  · have e : ¬ ((qs.map kvSN).any fun kv => decide (kv.1 = .inr w)) = true := by
      rw [List.any_eq_true]
      rintro ⟨kv, hkv, e⟩
      obtain ⟨p, hp, rfl⟩ := List.mem_map.mp hkv
      exact c (List.mem_map.mpr ⟨p, hp, by simpa [kvSN] using e⟩)
    rw [if_neg e]
    have e2 : (qs.filter fun p => decide (p.1 ≠ w)) = qs := List.filter_eq_self.mpr fun x hx => by
      have : x.1 ≠ w := fun z => c (z ▸ List.mem_map.mpr ⟨x, hx, rfl⟩)
      simpa using this
    rw [e2] at pf
    exact ⟨qs ++ [(w, z)], by simp, pf⟩
theorem Frm.hy_perm {F : Frm} {pss pss' : List (List (Str × Int))} {tks : List (List Bool)} (h : ∀ i, papF (pss.getD i []) = papF (pss'.getD i [])) : ∀ i, F.hy pss tks i = F.hy pss' tks i
  | 0 => rfl
  | i + 1 => by
    show F.yr _ _ _ = F.yr _ _ _
    rw [Frm.hy_perm h i]
    unfold Frm.yr
    rw [h i]
end Fl

-- after: cls.tpl wn.tpl va3.tpl srt2.tpl yt.tpl r6.tpl hm.tpl fl1.tpl
namespace Fl
open PySem PySem.Spec PyProof.Rows L2 RZ
/-! ### a file -/


/-- what the file is: its form, its papers and choices; what its lines are -/
structure FilG (C : Addr) (H : Hp) (a : Addr) (F : Frm) (pss : List (List (Str × Int))) (tks : List (List Bool)) (f : Nat → List Int) (pa ta la : Addr) (dv tv lv : List Addr) : Prop where
  obj : ∃ dx fv, H a = some (FileO C dx fv pa ta la) ∧ At H F.d fv
  hpa : H pa = some (.lst (dv.map V.ref))
  hta : H ta = some (.lst (tv.map V.ref))
  hla : H la = some (.lst (lv.map V.ref))
  ld : dv.length = pss.length
  lt : tv.length = pss.length
  ll : lv.length = pss.length
  lk : tks.length = pss.length
  dic : ∀ (i : Nat) (d : Addr) (ps : List (Str × Int)), dv[i]? = some d → pss[i]? = some ps → PapOk ps ∧ ∃ kvs, H d = some (.dK kvs) ∧ DicP ps kvs
  tk : ∀ (i : Nat) (t : Addr) (tk : List Bool), tv[i]? = some t → tks[i]? = some tk → tk.length = F.C ∧ H t = some (.lst (tk.map V.bl))
  ln : ∀ (i : Nat) (l : Addr), lv[i]? = some l → H l = some (.lst ((f i).map V.int))
  nd : (pa :: ta :: la :: (dv ++ tv ++ lv)).Nodup
  n1 : 1 ≤ pss.length
  n8 : pss.length ≤ 8
/-- .. these are those of the years -/
abbrev FilAt (C : Addr) (H : Hp) (a : Addr) (F : Frm) (pss : List (List (Str × Int))) (tks : List (List Bool)) (pa ta la : Addr) (dv tv lv : List Addr) : Prop := FilG C H a F pss tks (fun i => F.hy pss tks (i + 1)) pa ta la dv tv lv
/-- all that it stands on -/
def foot (a pa ta la : Addr) (dv tv lv : List Addr) : List Addr := a :: pa :: ta :: la :: (dv ++ tv ++ lv)
theorem FilG.kp {C : Addr} {H H' : Hp} {a : Addr} {F : Frm} {pss : List (List (Str × Int))} {tks : List (List Bool)} {f : Nat → List Int} {pa ta la : Addr} {dv tv lv : List Addr} (h : FilG C H a F pss tks f pa ta la dv tv lv)
    (k : ∀ b u, b ∈ foot a pa ta la dv tv lv → H b = some u → H' b = some u) (lt : LeT H H') : FilG C H' a F pss tks f pa ta la dv tv lv where
  obj := let ⟨dx, fv, h1, h2⟩ := h.obj; ⟨dx, fv, k _ _ (by simp [foot]) h1, h2.leT lt F.tupO⟩
  hpa := k _ _ (by simp [foot]) h.hpa
  hta := k _ _ (by simp [foot]) h.hta
  hla := k _ _ (by simp [foot]) h.hla
  ld := h.ld
  lt := h.lt
  ll := h.ll
  lk := h.lk
  dic := fun i d ps e1 e2 => let ⟨ok, kvs, h1, h2⟩ := h.dic i d ps e1 e2; ⟨ok, kvs, k _ _ (by have := List.mem_of_getElem? e1; simp [foot, this]) h1, h2⟩
  tk := fun i t tk e1 e2 => let ⟨l, h1⟩ := h.tk i t tk e1 e2; ⟨l, k _ _ (by have := List.mem_of_getElem? e1; simp [foot, this]) h1⟩
  ln := fun i l e => k _ _ (by have := List.mem_of_getElem? e; simp [foot, this]) (h.ln i l e)
  nd := h.nd
  n1 := h.n1
  n8 := h.n8
theorem FilG.same {C : Addr} {H H' : Hp} {a : Addr} {F : Frm} {pss : List (List (Str × Int))} {tks : List (List Bool)} {f : Nat → List Int} {pa ta la : Addr} {dv tv lv : List Addr} (h : FilG C H a F pss tks f pa ta la dv tv lv) (e : Same H H') : FilG C H' a F pss tks f pa ta la dv tv lv :=
  h.kp (fun b u _ q => e b u q) (Same.le e).let
/-- somewhere -/
def FilV (C : Addr) (H : Hp) (v : V) (F : Frm) (pss : List (List (Str × Int))) (tks : List (List Bool)) (ft : List Addr) : Prop :=
  ∃ a pa ta la dv tv lv, v = .ref a ∧ ft = foot a pa ta la dv tv lv ∧ FilAt C H a F pss tks pa ta la dv tv lv
section
variable {P : Program} {w : World} {K : PySem.W.Frag} {mg : Str → Option Value} {base : Heap}
abbrev s_File_need_year : Stmt := inClass (topS 58) 1
theorem sc_File_need_year : FnScope ["self", "year"] ["self", "year"] (defScope s_File_need_year) := ⟨rfl, rfl, rfl, by decide +kernel, rfl, by decide +kernel, by decide +kernel⟩
/-- a year that it has, or that it has not -/
def sp_needyear (C CY : Addr) : Sp2 := fun a b H Q E => ∃ (F : Frm) (pss : List (List (Str × Int))) (tks : List (List Bool)) (ft : List Addr) (d : PyData), FilV C H a F pss tks ft ∧ At H d b ∧
  (isWhole d 0 (pss.length - 1) = true → Q .non H) ∧ (isWhole d 0 (pss.length - 1) = false → E (.ref CY) none H)
theorem ok_need_year {C CY : Addr} (M : Mg mg) (CF : ClsF K C) (T_NoYear : ExcT K mg "NoYear" CY) (G_is_whole : Has P w K mg base "is_whole" ["thing", "least", "most"] 1 (sp3 sp_is_whole)) (D : MethAt K C "need_year" "File.need_year" s_File_need_year ["self", "year"]) :
    HasM P w K mg base C "need_year" ["self", "year"] 2 (sp2 (sp_needyear C CY)) := by
  refine .mk2 D sc_File_need_year fun fa cdv A outer s0 H a b Q E hr h => ⟨_, (pss_one (ps_if (pt_not (pt_val (pe_own G_is_whole (hr.mono (by first | decide | omega)) (by rfl) p_body (pa_cons (pv 1) (pa_cons pe_int (pa_cons (pe_op o_sub (pe_callB (k_len K rfl) (by rfl) M.len (by decide +kernel) (pa_cons (fldF (pv 0) CF.cls CF.lines (fun _ _ _ _ => fl_lines) rfl) pa_nil)) pe_int) pa_nil)))))) (pss_one (ps_raise (by rfl) t_body (pmk_own PySem.F.excBase_ValueError T_NoYear.xC T_NoYear.gC T_NoYear.kC (raises_own T_NoYear.bC T_NoYear.tC) (by exact rfl)))) pss_nil)), ?_⟩
  obtain ⟨F, pss, tks, ft, d, ⟨a, pa, ta, la, dv, tv, lv, rfl, rfl, fa'⟩, hd, q1, q2⟩ := h
  obtain ⟨dx, fv, ho, hf⟩ := fa'.obj
  have hla := fa'.hla
  refine Fl.go_start (σ0 := [some _, some _]) rfl ?_
  walk_at "s"
  rw [List.length_map, fa'.ll]
  cases e : isWhole d 0 (pss.length - 1) with
  | true =>
    walk_at "s"
    exact q1 e
  | false =>
    walk_at "s"
    exact q2 e
theorem whole_nat {d : PyData} {n : Nat} (h : isWhole d 0 ((n : Int) - 1) = true) : ∃ i : Nat, d = .int i ∧ i < n := by
  obtain ⟨i, rfl⟩ := isWhole_int h
  simp only [isWhole, Bool.and_eq_true, decide_eq_true_eq] at h
  exact ⟨i.toNat, by rw [Int.toNat_of_nonneg h.1], by omega⟩
theorem nat_whole {i n : Nat} (h : i < n) : isWhole (.int (i : Int)) 0 ((n : Int) - 1) = true := by
  simp only [isWhole, Bool.and_eq_true, decide_eq_true_eq]
  omega
abbrev s_File_values : Stmt := inClass (topS 58) 5
theorem sc_File_values : FnScope ["self", "year"] ["self", "year"] (defScope s_File_values) := ⟨rfl, rfl, rfl, by decide +kernel, rfl, by decide +kernel, by decide +kernel⟩
def sp_values (C CY : Addr) : Sp2 := fun a b H Q E => ∃ (F : Frm) (pss : List (List (Str × Int))) (tks : List (List Bool)) (ft : List Addr) (d : PyData), FilV C H a F pss tks ft ∧ At H d b ∧
  (∀ i : Nat, d = .int i → i < pss.length → ∀ p H', Same H H' → H p = none → H' p = some (.lst ((F.hy pss tks (i + 1)).map V.int)) → Q (.ref p) H') ∧ (isWhole d 0 (pss.length - 1) = false → E (.ref CY) none H)
theorem ok_values {C CY : Addr} (M : Mg mg) (CF : ClsF K C) (M_need_year : HasM P w K mg base C "need_year" ["self", "year"] 2 (sp2 (sp_needyear C CY))) (D : MethAt K C "values" "File.values" s_File_values ["self", "year"]) :
    HasM P w K mg base C "values" ["self", "year"] 3 (sp2 (sp_values C CY)) := by
  refine .mk2 D sc_File_values fun fa cdv A outer s0 H a b Q E hr h => ⟨_, (pss_cons (ps_expr (pe_ownM (pv 0) CF.cls M_need_year (by decide +kernel) (hr.mono (by first | decide | omega)) p_body (pa_cons (pv 1) pa_nil)))
    (pss_one (ps_ret (pe_callTy (k_list K rfl) (by rfl) M.list (by decide +kernel) (pa_cons (pe_ix (k_ix K rfl) (fldF (pv 0) CF.cls CF.lines (fun _ _ _ _ => fl_lines) rfl) (pv 1) (fun _ _ => rfl)) pa_nil))))), ?_⟩
  obtain ⟨F, pss, tks, ft, d, hV, hd, q1, q2⟩ := h
  obtain ⟨a, pa, ta, la, dv, tv, lv, rfl, rfl, fa'⟩ := id hV
  obtain ⟨dx, fv, ho, hf⟩ := fa'.obj
  have hla := fa'.hla
  refine Fl.go_start (σ0 := [some _, some _]) rfl ?_
  walk_at "s"
  refine ⟨F, pss, tks, _, d, hV, hd, fun w => ?_, q2⟩
  obtain ⟨i, rfl, il⟩ := whole_nat w
  cases (show b = .int i from hd)
  have hi : i < lv.length := by rw [fa'.ll]; exact il
  have hl := fa'.ln i lv[i] (List.getElem?_eq_getElem hi)
  walk_at "s"
  refine ex_v (atI_nat (j := i) (by rw [List.getElem?_map, List.getElem?_eq_getElem hi]; rfl)) ?_
  walk_at "s"
  exact q1 i rfl il _ _ (by walk_at "sm") (by walk_at "fr") upd_same
abbrev s_File_owed : Stmt := inClass (topS 58) 7
theorem sc_File_owed : FnScope ["self", "lines"] ["self"] (defScope s_File_owed) := ⟨rfl, rfl, rfl, by decide +kernel, rfl, by decide +kernel, by decide +kernel⟩
def sp_owedF (C : Addr) : Sp1 := fun a H Q _ => ∃ (F : Frm) (pss : List (List (Str × Int))) (tks : List (List Bool)) (ft : List Addr), F.Ok 40 ∧ FilV C H a F pss tks ft ∧
  ∀ H', Same H H' → Q (.int ((List.range pss.length).map fun i => (F.hy pss tks (i + 1)).getD F.owed 0).sum) H'
theorem ok_owedF {C : Addr} (M : Mg mg) (CF : ClsF K C) (D : MethAt K C "owed" "File.owed" s_File_owed ["self"]) : HasM P w K mg base C "owed" ["self"] 2 (sp1 (sp_owedF C)) := by
  refine .mk1 D sc_File_owed fun fa cdv A outer s0 H a Q E hr h => ⟨_, (pss_one (ps_ret (pe_callB (k_sum K rfl rfl) (by rfl) M.sum (by decide +kernel) (pa_cons (pe_lc (own := [("lines", 1)]) (g := gName 1) (by rfl) sc_File_owed.nd (k_pi K rfl (fldF (pv 0) CF.cls CF.lines (fun _ _ _ _ => fl_lines) rfl)) (blkOk_by (N := ["self", "lines"]) (sc := (defScope s_File_owed)) (own := [("lines", 1)]) (by decide +kernel)) (fun _ _ _ _ _ => (pg_name (i := 1) sc_File_owed.nd rfl (by first | exact Or.inl rfl | exact Or.inr rfl))) (fun _ _ _ _ _ => pts_nil) (fun _ _ _ _ _ => (pe_ix (k_ix K rfl) (pv 1) (pe_ix (k_ix K rfl) (fldF (pv 0) CF.cls CF.form (fun _ _ _ _ => fl_form) rfl) pe_int (fun _ _ => rfl)) (fun _ _ => rfl)))) pa_nil)))), ?_⟩
  obtain ⟨F, pss, tks, ft, ok, ⟨a, pa, ta, la, dv, tv, lv, rfl, rfl, fa'⟩, q⟩ := h
  obtain ⟨dx, fv, ho, hf⟩ := fa'.obj
  obtain ⟨f, L, T, vs, ts, rfl, hf0, hL, hvs, hT, hts⟩ := Frm.at hf
  have hla := fa'.hla
  refine Fl.go_start (σ0 := [some _, none]) rfl ?_
  walk_at "s"
  have ow := ok.ow
  refine lc_seqL (((List.range pss.length).map fun i => (F.hy pss tks (i + 1)).getD F.owed 0).map V.int) hla (by simp [fa'.ll]) (by have := fa'.n8; simp; omega) (fun _ => rfl) (fun i x z H' ex ez sm R hR => ?_) (fun D H2 hD sm2 hDv => ?_)
  · have il := (List.getElem?_eq_some_iff.mp ex).1
    rw [List.length_map, fa'.ll] at il
    have hi : i < lv.length := by rw [fa'.ll]; exact il
    rw [List.getElem?_map, List.getElem?_map, List.getElem?_range il] at ez
    cases ez
    rw [List.getElem?_map, List.getElem?_eq_getElem hi] at ex
    cases ex
    have hl := sm _ _ (fa'.ln i lv[i] (List.getElem?_eq_getElem hi))
    have ho2 := sm _ _ ho
    have hf2 := sm _ _ hf0
    have ly : (F.hy pss tks (i + 1)).length = F.rs.length := F.yr_len
    have g := atI_getD (ls := F.hy pss tks (i + 1)) (i := F.owed) (by omega) (by omega)
    rw [Int.toNat_natCast] at g
    walk_at "s"
    refine ex_v g ?_
    exact hR _ (.refl _)
  · walk_at "s"
    exact q _ sm2
end
end Fl

-- after: fl0.tpl hw3.tpl
namespace Fl
open PySem PySem.Spec PyProof.Rows L2 RZ
/-! ### lines told anew: the walk -/
theorem FilG.ne {C : Addr} {H : Hp} {a : Addr} {F : Frm} {pss : List (List (Str × Int))} {tks : List (List Bool)} {f : Nat → List Int} {pa ta la : Addr} {dv tv lv : List Addr} (h : FilG C H a F pss tks f pa ta la dv tv lv) {l : Addr} (m : l ∈ lv) :
    l ≠ a ∧ l ≠ pa ∧ l ≠ ta ∧ l ≠ la ∧ l ∉ dv ∧ l ∉ tv := by
  obtain ⟨i, hi⟩ := List.mem_iff_getElem?.mp m
  have hl := h.ln i l hi
  obtain ⟨dx, fv, ho, _⟩ := h.obj
  have nd := h.nd
  simp only [List.nodup_cons, List.mem_cons, List.mem_append, not_or, List.nodup_append] at nd
  obtain ⟨⟨n1, n2, ⟨n3, n4⟩, n5⟩, ⟨m1, ⟨m2, m3⟩, m4⟩, ⟨⟨o1, o2⟩, o3⟩, ⟨_, p2⟩, p3, p4⟩ := nd
  refine ⟨fun e => ?_, fun e => n5 (e ▸ m), fun e => m4 (e ▸ m), fun e => o3 (e ▸ m), fun e => ?_, fun e => ?_⟩
  · rw [e, ho] at hl
    cases hl
  · exact p4 l (.inl e) l m rfl
  · exact p4 l (.inr e) l m rfl
theorem nodup_ix {xs : List Addr} (nd : xs.Nodup) {i j : Nat} {x y : Addr} (ei : xs[i]? = some x) (ej : xs[j]? = some y) (n : i ≠ j) : x ≠ y := fun e => by
  subst e
  exact n ((List.getElem?_inj (List.getElem?_eq_some_iff.mp ei).1 nd).mp (ei.trans ej.symm))
theorem FilG.ndl {C : Addr} {H : Hp} {a : Addr} {F : Frm} {pss : List (List (Str × Int))} {tks : List (List Bool)} {f : Nat → List Int} {pa ta la : Addr} {dv tv lv : List Addr} (h : FilG C H a F pss tks f pa ta la dv tv lv) : dv.Nodup ∧ tv.Nodup ∧ lv.Nodup := by
  have nd := h.nd
  simp only [List.nodup_cons, List.nodup_append] at nd
  obtain ⟨_, _, _, ⟨h1, h2, _⟩, h3, _⟩ := nd
  exact ⟨h1, h2, h3⟩
theorem FilG.row {C : Addr} {H H' : Hp} {a : Addr} {F : Frm} {pss : List (List (Str × Int))} {tks : List (List Bool)} {f : Nat → List Int} {pa ta la : Addr} {dv tv lv : List Addr} (h : FilG C H a F pss tks f pa ta la dv tv lv) {y : Nat} {l : Addr} {r : List Int}
    (ey : lv[y]? = some l) (hl : H' l = some (.lst (r.map V.int))) (k : ∀ b u, b ≠ l → b ∈ foot a pa ta la dv tv lv → H b = some u → H' b = some u) (lt : LeT H H') : FilG C H' a F pss tks (fun i => if i = y then r else f i) pa ta la dv tv lv := by
  have m := List.mem_of_getElem? ey
  obtain ⟨n0, n1, n2, n3, n4, n5⟩ := h.ne m
  exact {
    obj := let ⟨dx, fv, h1, h2⟩ := h.obj; ⟨dx, fv, k _ _ n0.symm (by simp [foot]) h1, h2.leT lt F.tupO⟩
    hpa := k _ _ n1.symm (by simp [foot]) h.hpa
    hta := k _ _ n2.symm (by simp [foot]) h.hta
    hla := k _ _ n3.symm (by simp [foot]) h.hla
    ld := h.ld
    lt := h.lt
    ll := h.ll
    lk := h.lk
    dic := fun i d ps e1 e2 => let ⟨ok, kvs, h1, h2⟩ := h.dic i d ps e1 e2; ⟨ok, kvs, k _ _ (fun e => n4 (e ▸ List.mem_of_getElem? e1)) (by have := List.mem_of_getElem? e1; simp [foot, this]) h1, h2⟩
    tk := fun i t tk e1 e2 => let ⟨l, h1⟩ := h.tk i t tk e1 e2; ⟨l, k _ _ (fun e => n5 (e ▸ List.mem_of_getElem? e1)) (by have := List.mem_of_getElem? e1; simp [foot, this]) h1⟩
    ln := fun i l' e => by
      by_cases c : i = y
      · subst c
        have e2 : l' = l := Option.some.inj (e.symm.trans ey)
        rw [e2, if_pos rfl]
        exact hl
      · rw [if_neg c]
        exact k _ _ (nodup_ix h.ndl.2.2 e ey c) (by have := List.mem_of_getElem? e; simp [foot, this]) (h.ln i l' e)
    nd := h.nd
    n1 := h.n1
    n8 := h.n8 }
theorem FilG.fcongr {C : Addr} {H : Hp} {a : Addr} {F : Frm} {pss : List (List (Str × Int))} {tks : List (List Bool)} {f g : Nat → List Int} {pa ta la : Addr} {dv tv lv : List Addr} (h : FilG C H a F pss tks f pa ta la dv tv lv) (e : ∀ i, i < pss.length → f i = g i) : FilG C H a F pss tks g pa ta la dv tv lv :=
  { h with ln := fun i l ei => (e i (by have il := (List.getElem?_eq_some_iff.mp ei).1; rw [h.ll] at il; exact il)) ▸ h.ln i l ei }
theorem chgP_nd {o n : Nat → List Int} {N c : Nat} : (chgP o n N c).Nodup := chgP_pw.imp fun {a b} h e => by
  subst e
  unfold ltI at h
  omega
section
variable {P : Program} {w : World} {K : PySem.W.Frag} {mg : Str → Option Value} {base : Heap}
abbrev s_File_anew : Stmt := inClass (topS 58) 2
theorem sc_File_anew : FnScope ["self", "hang", "changed", "year", "earlier", "sight", "line", "ahead"] ["self", "hang"] (defScope s_File_anew) := ⟨rfl, rfl, rfl, by decide +kernel, rfl, by decide +kernel, by decide +kernel⟩
def sp_anew (C : Addr) : Sp2 := fun a b H Q _ => ∃ (F : Frm) (pss : List (List (Str × Int))) (tks : List (List Bool)) (o : Nat → List Int) (fa pa ta la : Addr) (dv tv lv : List Addr) (hang : List (Int × Int)) (hl : Addr) (vs : List V), F.Ok 40 ∧ a = .ref fa ∧ FilG C H fa F pss tks o pa ta la dv tv lv ∧
  (∀ i, i < pss.length → (o i).length = F.rs.length) ∧ b = .ref hl ∧ H hl = some (.lst vs) ∧ AtAll H (hang.map prI) vs ∧ hl ∉ lv ∧
  (∀ (i : Nat) (k : Int), i < pss.length → 0 ≤ k ∧ k < F.rs.length → ((i : Int), k) ∉ hang → (o i).getD k.toNat 0 = (F.hy pss tks (i + 1)).getD k.toNat 0) ∧
  ∀ H' p ys, (∀ b u, b ∉ lv → H b = some u → H' b = some u) → LeT H H' → H p = none → H' p = some (.lst ys) → AtAll H' ((chgP o (fun i => F.hy pss tks (i + 1)) F.rs.length pss.length).map prI) ys → FilAt C H' fa F pss tks pa ta la dv tv lv → Q (.ref p) H'
theorem ok_anew {C : Addr} (M : Mg mg) (CF : ClsF K C) (G_order_of : Has P w K mg base "order_of" ["form"] 3 (sp1 sp_order_of)) (G_comes_to : Has P w K mg base "comes_to" ["rule", "sight"] 9 (sp2 (sp_comes 8))) (D : MethAt K C "anew" "File.anew" s_File_anew ["self", "hang"]) :
    HasM P w K mg base C "anew" ["self", "hang"] 10 (sp2 (sp_anew C)) := by
  refine .mk2 D sc_File_anew fun fa' cdv A outer s0 H a b Q E hr h => ⟨_, (pss_cons (ps_set (i := 2) sc_File_anew.nd rfl (by first | exact Or.inl rfl | exact Or.inr rfl) (pe_lst pa_nil))
    (pss_cons (ps_for own_p (by rfl) (pi_range1 (by rfl) M.range (pa_cons (pe_callB (k_len K rfl) (by rfl) M.len (by decide +kernel) (pa_cons (fldF (pv 0) CF.cls CF.lines (fun _ _ _ _ => fl_lines) rfl) pa_nil)) pa_nil)) (pg_name (i := 3) sc_File_anew.nd rfl (by first | exact Or.inl rfl | exact Or.inr rfl)) (pss_meet (ps_set (i := 4) sc_File_anew.nd rfl (by first | exact Or.inl rfl | exact Or.inr rfl) (pe_ifExp (pt_cmpR o_gt (pv 3) pe_int (nomark _)) (pe_ix (k_ix K rfl) (fldF (pv 0) CF.cls CF.lines (fun _ _ _ _ => fl_lines) rfl) (pe_op o_sub (pv 3) pe_int) (fun _ _ => rfl)) (pe_lst pa_nil)))
    (pss_cons (ps_set (i := 5) sc_File_anew.nd rfl (by first | exact Or.inl rfl | exact Or.inr rfl) (pe_tup (pa_cons (pe_ix (k_ix K rfl) (fldF (pv 0) CF.cls CF.lines (fun _ _ _ _ => fl_lines) rfl) (pv 3) (fun _ _ => rfl)) (pa_cons (pe_ix (k_ix K rfl) (fldF (pv 0) CF.cls CF.papers (fun _ _ _ _ => fl_papers) rfl) (pv 3) (fun _ _ => rfl)) (pa_cons (pv 4) (pa_cons (pe_ix (k_ix K rfl) (fldF (pv 0) CF.cls CF.form (fun _ _ _ _ => fl_form) rfl) pe_int (fun _ _ => rfl)) (pa_cons (pe_ix (k_ix K rfl) (fldF (pv 0) CF.cls CF.taken (fun _ _ _ _ => fl_taken) rfl) (pv 3) (fun _ _ => rfl)) pa_nil)))))))
    (pss_one (ps_for own_p (by rfl) (k_pi K rfl (pe_own G_order_of (hr.mono (by first | decide | omega)) (by rfl) p_body (pa_cons (fldF (pv 0) CF.cls CF.form (fun _ _ _ _ => fl_form) rfl) pa_nil))) (pg_name (i := 6) sc_File_anew.nd rfl (by first | exact Or.inl rfl | exact Or.inr rfl)) (pss_one (ps_if (pt_cmpR (k_in K rfl hr) (pe_tup (pa_cons (pv 3) (pa_cons (pv 6) pa_nil))) (pv 1) (by rfl)) (pss_cons (ps_set (i := 7) sc_File_anew.nd rfl (by first | exact Or.inl rfl | exact Or.inr rfl) (pe_ix (k_ix K rfl) (pe_ix (k_ix K rfl) (fldF (pv 0) CF.cls CF.lines (fun _ _ _ _ => fl_lines) rfl) (pv 3) (fun _ _ => rfl)) (pv 6) (fun _ _ => rfl)))
    (pss_cons (ps_asg (pe_own G_comes_to (hr.mono (by first | decide | omega)) (by rfl) p_body (pa_cons (pe_ix (k_ix K rfl) (pe_ix (k_ix K rfl) (fldF (pv 0) CF.cls CF.form (fun _ _ _ _ => fl_form) rfl) pe_int (fun _ _ => rfl)) (pv 6) (fun _ _ => rfl)) (pa_cons (pv 5) pa_nil))) (pg_sub (pe_ix (k_ix K rfl) (fldF (pv 0) CF.cls CF.lines (fun _ _ _ _ => fl_lines) rfl) (pv 3) (fun _ _ => rfl)) (pv 6) set_list))
    (pss_one (ps_if (pt_cmpR (k_ne K rfl hr) (pe_ix (k_ix K rfl) (pe_ix (k_ix K rfl) (fldF (pv 0) CF.cls CF.lines (fun _ _ _ _ => fl_lines) rfl) (pv 3) (fun _ _ => rfl)) (pv 6) (fun _ _ => rfl)) (pv 7) (nomark _)) (pss_one (ps_expr (k_bm K rfl PySem.F.plainAttrs_list PySem.F.slot_list_append PySem.F.type_list_append mt_append (pv 2) (pa_cons (pe_tup (pa_cons (pv 3) (pa_cons (pv 6) pa_nil))) pa_nil)))) pss_nil)))) pss_nil)))))))
    (pss_one (ps_ret (pe_callB (k_sortPO K rfl) (by rfl) M.sorted (by decide +kernel) (pa_cons (pv 2) pa_nil)))))), ?_⟩
  obtain ⟨F, pss, tks, o, fa, pa, ta, la, dv, tv, lv, hang, hl, vs, ok, rfl, f0, lo, rfl, hhl, hvs, nhl, st, q⟩ := h
  have n1 := f0.n1
  have n8 := f0.n8
  obtain ⟨dx, fv, ho, hf⟩ := f0.obj
  have hla := f0.hla
  refine Fl.go_start (σ0 := [some _, some _, none, none, none, none, none, none]) rfl ?_
  walk_at "s"
  rename_i D0 hD
  have sm0 : Same H (upd H D0 (.lst [])) := by walk_at "sm"
  have f1 := f0.same sm0
  have hD1 : (upd H D0 (.lst [])) D0 = some (.lst []) := upd_same
  have hhl1 := sm0 _ _ hhl
  have hvs1 := hvs.le (Same.le sm0)
  have hla1 := sm0 _ _ hla
  have ho1 := sm0 _ _ ho
  have nDlv : D0 ∉ lv := fun m => by
    obtain ⟨i, hi⟩ := List.mem_iff_getElem?.mp m
    rw [f0.ln i D0 hi] at hD
    cases hD
  have nDf : D0 ∉ foot fa pa ta la dv tv lv := fun m => by
    have := hD
    simp only [foot, List.mem_cons, List.mem_append] at m
    rcases m with rfl | rfl | rfl | rfl | (m | m) | m
    · rw [ho] at hD; cases hD
    · rw [f0.hpa] at hD; cases hD
    · rw [f0.hta] at hD; cases hD
    · rw [hla] at hD; cases hD
    · obtain ⟨i, hi⟩ := List.mem_iff_getElem?.mp m
      have il := (List.getElem?_eq_some_iff.mp hi).1
      obtain ⟨_, kvs, h, _⟩ := f0.dic i D0 (pss[i]'(by rw [← f0.ld]; exact il)) hi (List.getElem?_eq_getElem _)
      rw [h] at hD; cases hD
    · obtain ⟨i, hi⟩ := List.mem_iff_getElem?.mp m
      have il := (List.getElem?_eq_some_iff.mp hi).1
      obtain ⟨_, h⟩ := f0.tk i D0 (tks[i]'(by rw [f0.lk, ← f0.lt]; exact il)) hi (List.getElem?_eq_getElem _)
      rw [h] at hD; cases hD
    · exact nDlv m
  have nDhl : hl ≠ D0 := fun e => by rw [e, hD] at hhl; cases hhl
  generalize upd H D0 (.lst []) = H1 at *
  rw [List.length_map, f0.ll]
  refine ⟨⟨by omega, by omega⟩, ?_⟩
  refine for_rng (fun y σ' H' => ∃ (acc : List V) (cs : List (Int × Int)) (y3 y4 y5 y6 y7 : Option V), σ' = [some (.ref fa), some (.ref hl), some (.ref D0), y3, y4, y5, y6, y7] ∧ FilG C H' fa F pss tks (fun i => if i < y then F.hy pss tks (i + 1) else o i) pa ta la dv tv lv ∧ H' D0 = some (.lst acc) ∧ AtAll H' (cs.map prI) acc ∧
      cs.Nodup ∧ (∀ p, p ∈ cs ↔ p ∈ chgP o (fun i => F.hy pss tks (i + 1)) F.rs.length y) ∧ (∀ b u, b ∉ lv → b ≠ D0 → H1 b = some u → H' b = some u) ∧ LeT H1 H')
    ⟨[], [], _, _, _, _, _, rfl, f1.fcongr (fun i _ => by simp), hD1, rfl, .nil, fun p => by simp [chgP], fun b u _ _ h => h, .refl _⟩ (fun y σ' H2 hy ⟨acc, cs, y3, y4, y5, y6, y7, e, f2, hD2, hcs, nd2, mem2, k2, lt2⟩ => ?_) (fun σ' H2 ⟨acc, cs, y3, y4, y5, y6, y7, e, f2, hD2, hcs, nd2, mem2, k2, lt2⟩ => ?_)
  · subst e
    rw [Int.zero_add]
    have hyl : y < lv.length := by rw [f0.ll]; exact hy
    have ely : lv[y]? = some lv[y] := List.getElem?_eq_getElem hyl
    generalize lv[y] = l at ely
    have ml := List.mem_of_getElem? ely
    have nlD : l ≠ D0 := fun e => nDlv (e ▸ ml)
    have hl2 := f2.ln y l ely
    rw [if_neg (Nat.lt_irrefl y)] at hl2
    obtain ⟨nl0, nl1, nl2, nl3, nl4, nl5⟩ := f2.ne ml
    have hla2 := f2.hla
    obtain ⟨dx2, fv2, ho2, hf2⟩ := f2.obj
    walk_at "s"
    refine meet (fun σ' H' => ∃ (e0 : Addr), σ' = [some (.ref fa), some (.ref hl), some (.ref D0), some (.int y), some (.ref e0), y5, y6, y7] ∧ H' e0 = some (.lst ((F.hy pss tks y).map V.int)) ∧ e0 ≠ l ∧ e0 ≠ D0 ∧ Same H2 H') ?_ ?_
    · walk_at "s"
      refine if_d (fun c => ?_) (fun c => ?_)
      · have hy1 : y - 1 < lv.length := by omega
        have el1 : lv[y - 1]? = some lv[y - 1] := List.getElem?_eq_getElem hy1
        generalize lv[y - 1] = l1 at el1
        have hl1 := f2.ln (y - 1) l1 el1
        rw [if_pos (by omega), show y - 1 + 1 = y by omega] at hl1
        walk_at "s"
        rw [show (y : Int) - 1 = ((y - 1 : Nat) : Int) by omega]
        refine ex_v (atI_nat (j := y - 1) (by rw [List.getElem?_map, el1]; rfl)) ?_
        walk_at "s"
        exact ⟨l1, rfl, hl1, nodup_ix f2.ndl.2.2 el1 ely (by omega), fun e => nDlv (e ▸ List.mem_of_getElem? el1), .refl _⟩
      · have y0 : y = 0 := by omega
        subst y0
        walk_at "s"
        rename_i e0 he0
        exact ⟨e0, rfl, upd_same, fun e => (by rw [e, hl2] at he0; cases he0), fun e => (by rw [e, hD2] at he0; cases he0), by walk_at "sm"⟩
    rintro σ' H3 ⟨e0, rfl, he3, ne0l, ne0D, sm3⟩
    have f3 := f2.same sm3
    obtain ⟨dx3, fv3, ho3, hf3⟩ := f3.obj
    obtain ⟨f, L, T, fs, ts, rfl, hff, hL, hfs, hT, hts⟩ := Frm.at hf3
    have hla3 := f3.hla
    have hpa3 := f3.hpa
    have hta3 := f3.hta
    have hdl : y < dv.length := by rw [f0.ld]; exact hy
    have htl : y < tv.length := by rw [f0.lt]; exact hy
    have hkl : y < tks.length := by rw [f0.lk]; exact hy
    have edy : dv[y]? = some dv[y] := List.getElem?_eq_getElem hdl
    have ety : tv[y]? = some tv[y] := List.getElem?_eq_getElem htl
    obtain ⟨pok, kvs, hdk, hdp⟩ := f3.dic y dv[y] pss[y] edy (List.getElem?_eq_getElem hy)
    obtain ⟨ltk, htk⟩ := f3.tk y tv[y] tks[y] ety (List.getElem?_eq_getElem hkl)
    have nld : l ≠ dv[y] := fun e => nl4 (e ▸ List.mem_of_getElem? edy)
    have nlt : l ≠ tv[y] := fun e => nl5 (e ▸ List.mem_of_getElem? ety)
    have nDd : dv[y] ≠ D0 := fun e => nDf (by rw [← e]; simp [foot])
    have nDt : tv[y] ≠ D0 := fun e => nDf (by rw [← e]; simp [foot])
    generalize dv[y] = dd at *
    generalize tv[y] = tt at *
    walk_at "s"
    refine ex_v (atI_nat (j := y) (by rw [List.getElem?_map, ely]; rfl)) ?_
    walk_at "s"
    refine ex_v (atI_nat (j := y) (by rw [List.getElem?_map, edy]; rfl)) ?_
    walk_at "s"
    refine ex_v (atI_nat (j := y) (by rw [List.getElem?_map, ety]; rfl)) ?_
    walk_at "s"
    rename_i s4 hs4
    have sm4 : Same H3 (upd H3 s4 (.tup [.ref l, .ref dd, .ref e0, .ref T, .ref tt])) := by walk_at "sm"
    have hs44 : (upd H3 s4 (.tup [.ref l, .ref dd, .ref e0, .ref T, .ref tt])) s4 = some (.tup [.ref l, .ref dd, .ref e0, .ref T, .ref tt]) := upd_same
    generalize upd H3 s4 (.tup [.ref l, .ref dd, .ref e0, .ref T, .ref tt]) = H4 at *
    clear hs4
    refine ⟨F, ok, hf3.le (Same.le sm4), fun oL H5 sm5 hofr hoL => ?_⟩
    have sm35 := L2.Same.trans sm4 sm5
    have sm25 := L2.Same.trans sm3 sm35
    have hl5 := sm25 _ _ hl2
    have hD5 := sm25 _ _ hD2
    have f5 := f3.same sm35
    have noL : oL ≠ l := fun e => by rw [e, sm4 _ _ (sm3 _ _ hl2)] at hofr; cases hofr
    have noD : oL ≠ D0 := fun e => by rw [e, sm4 _ _ (sm3 _ _ hD2)] at hofr; cases hofr
    have hs5 := sm5 _ _ hs44
    have hff5 := sm35 _ _ hff
    have hL5 := sm35 _ _ hL
    have hT5 := sm35 _ _ hT
    have he5 := sm35 _ _ he3
    have hdk5 := sm35 _ _ hdk
    have htk5 := sm35 _ _ htk
    have hla5 := sm35 _ _ hla3
    have ho5 := sm35 _ _ ho3
    have hfs5 := hfs.le (Same.le sm35)
    have hts5 := hts.le (Same.le sm35)
    have nsl : s4 ≠ l := fun e => by rw [e, hl5] at hs5; cases hs5
    have nsD : s4 ≠ D0 := fun e => by rw [e, hD5] at hs5; cases hs5
    have nfl : f ≠ l := fun e => by rw [e, hl5] at hff5; cases hff5
    have nfD : f ≠ D0 := fun e => by rw [e, hD5] at hff5; cases hff5
    have nLl : L ≠ l := fun e => by rw [e, hl5] at hL5; cases hL5
    have nLD : L ≠ D0 := fun e => by rw [e, hD5] at hL5; cases hL5
    have nTl : T ≠ l := fun e => by rw [e, hl5] at hT5; cases hT5
    have nTD : T ≠ D0 := fun e => by rw [e, hD5] at hT5; cases hT5
    have nlaD : la ≠ D0 := fun e => nDf (by rw [← e]; simp [foot])
    have naD : fa ≠ D0 := fun e => nDf (by rw [← e]; simp [foot])
    have hhl5 : H5 hl = some (.lst vs) := sm25 _ _ (k2 _ _ nhl nDhl hhl1)
    have hvs5 : AtAll H5 (hang.map prI) vs := (hvs1.leT lt2 (prI_tupO _)).le (Same.le sm25)
    have nhll : hl ≠ l := fun e => nhl (e ▸ ml)
    have hcs5 := hcs.le (Same.le sm25)
    have oo := ok.ord
    have lfs := hfs.length
    rw [List.length_map] at lfs
    refine for_lst (fun j σ' H' => ∃ (L' : List Int) (acc' : List V) (cs' : List (Int × Int)) (z6 z7 : Option V), σ' = [some (.ref fa), some (.ref hl), some (.ref D0), some (.int y), some (.ref e0), some (.ref s4), z6, z7] ∧ H' l = some (.lst (L'.map V.int)) ∧ F.MixAt j (o y) (F.hy pss tks (y + 1)) L' ∧
        H' D0 = some (.lst acc') ∧ AtAll H' (cs'.map prI) acc' ∧ cs'.Nodup ∧ (∀ p, p ∈ cs' ↔ p ∈ chgP o (fun i => F.hy pss tks (i + 1)) F.rs.length y ∨ (p.1 = y ∧ p.2 ∈ F.ord.take j ∧ (o y).getD p.2.toNat 0 ≠ (F.hy pss tks (y + 1)).getD p.2.toNat 0)) ∧ (∀ b u, b ≠ l → b ≠ D0 → H5 b = some u → H' b = some u) ∧ LeT H5 H')
      hoL ⟨o y, acc, cs, _, _, rfl, hl5, .zero (lo y hy), hD5, hcs5, nd2, fun p => by rw [mem2]; simp, fun b u _ _ h => h, .refl _⟩ (fun j σ' H' _ ⟨_, _, _, _, _, _, _, _, _, _, _, _, k, _⟩ => k _ _ noL noD hoL) (fun j x σ' H6 ex ⟨L', acc', cs', z6, z7, e, hl6, mx, hD6, hcs6, nd6, mem6, k6, lt6⟩ => ?_) (fun σ' H6 ⟨L', acc', cs', z6, z7, e, hl6, mx, hD6, hcs6, nd6, mem6, k6, lt6⟩ => ?_)
    · subst e
      obtain ⟨k, ek, rfl⟩ := map_int_get ex
      have rg := oo.rng k (List.mem_of_getElem? ek)
      have kfr : k ∉ F.ord.take j := fun c => by
        have h3 := pos_take c
        have h4 := pos_get oo.nd ek
        omega
      have hhl6 := k6 _ _ nhll nDhl hhl5
      have hvs6 := hvs5.leT lt6 (prI_tupO _)
      have ll := mx.len
      walk_at "s"
      rename_i t7 ht7
      have sm7 : Same H6 (upd H6 t7 (.tup [.int y, .int k])) := by walk_at "sm"
      have at7 : At (upd H6 t7 (.tup [.int y, .int k])) (prI ((y : Int), k)) (.ref t7) := at_tup upd_same ⟨_, _, rfl, rfl, _, _, rfl, rfl, rfl⟩
      generalize upd H6 t7 (.tup [.int y, .int k]) = H7 at *
      clear ht7
      refine in_pr at7 (sm7 _ _ hhl6) (hvs6.le (Same.le sm7)) ?_
      by_cases c : ((y : Int), k) ∈ hang
      · rw [decide_eq_true c]
        have ho7 := sm7 _ _ (k6 _ _ nl0.symm naD ho5)
        have hla7 := sm7 _ _ (k6 _ _ nl3.symm nlaD hla5)
        have hl7 := sm7 _ _ hl6
        have hff7 := sm7 _ _ (k6 _ _ nfl nfD hff5)
        have hL7 := sm7 _ _ (k6 _ _ nLl nLD hL5)
        have hs7 := sm7 _ _ (k6 _ _ nsl nsD hs5)
        have hD7 := sm7 _ _ hD6
        have kn : k = ((k.toNat : Nat) : Int) := by omega
        have gk : L'[k.toNat]? = some (L'.getD k.toNat 0) := by
          rw [List.getD_eq_getElem?_getD, List.getElem?_eq_getElem (by omega)]; rfl
        have old := mx.old ok ek
        walk_at "s"
        refine ex_v (atI_nat (j := y) (by rw [List.getElem?_map, ely]; rfl)) ?_
        walk_at "s"
        refine ex_v (atI_getD rg.1 (by omega)) ?_
        walk_at "s"
        have er := Frm.rule_at rg
        obtain ⟨v0, ev0, hv0⟩ := hfs5.get (i := k.toNat) (d := (F.rule k).d) (by rw [List.getElem?_map, er]; rfl)
        have hv7 := (hv0.leT lt6 (Rule.tupO _)).le (Same.le sm7)
        refine ex_v (show atI fs k = some v0 by rw [kn]; exact atI_nat ev0) ?_
        walk_at "s"
        have hdk7 := sm7 _ _ (k6 _ _ nld.symm nDd hdk5)
        have htk7 := sm7 _ _ (k6 _ _ nlt.symm nDt htk5)
        have hT7 := sm7 _ _ (k6 _ _ nTl nTD hT5)
        have he7 := sm7 _ _ (k6 _ _ ne0l ne0D he5)
        have hts7 := (hts5.leT lt6 (tbs_tupO _)).le (Same.le sm7)
        refine ⟨F, ⟨L', papF pss[y], F.hy pss tks y, F.tbs, tks[y]⟩, F.rule k, ok, hv7, ok.good _ (List.mem_of_getElem? er), ⟨⟨s4, l, dd, e0, T, tt, kvs, ts, rfl, hs7, hl7, ⟨hdk7, (hdp.dicOf pok.nd).papK⟩, he7, ⟨hT7, hts7⟩, .inl htk7⟩, rfl, mx.len, Frm.hy_len y, ltk⟩, fun H8 sm8 => ?_⟩
        have nv : (F.rule k).val ⟨L', papF pss[y], F.hy pss tks y, F.tbs, tks[y]⟩ = (F.hy pss tks (y + 1)).getD k.toNat 0 := by
          have := Frm.anew_val ok (ps := pss.getD y []) (earl := F.hy pss tks y) (tk := tks.getD y []) (L := L') ek (fun y' hy' => mx.told y' hy' (oo.rng _ (List.mem_of_mem_take hy')))
          have e1 : pss.getD y [] = pss[y] := by rw [List.getD_eq_getElem?_getD, List.getElem?_eq_getElem hy]; rfl
          have e2 : tks.getD y [] = tks[y] := by rw [List.getD_eq_getElem?_getD, List.getElem?_eq_getElem hkl]; rfl
          have e3 : F.hy pss tks (y + 1) = F.yr (pss.getD y []) (F.hy pss tks y) (tks.getD y []) := rfl
          rw [e3, e1, e2]
          rw [e1, e2] at this
          exact this
        rw [nv]
        generalize env : (F.hy pss tks (y + 1)).getD k.toNat 0 = nvv at *
        have ho8 := sm8 _ _ ho7
        have hla8 := sm8 _ _ hla7
        have hl8 := sm8 _ _ hl7
        have hD8 := sm8 _ _ hD7
        walk_at "s"
        refine ex_v (atI_nat (j := y) (by rw [List.getElem?_map, ely]; rfl)) ?_
        walk_at "s"
        refine ex_j (show ixN (L'.map V.int).length k = some k.toNat by rw [kn]; exact ixN_nat (by rw [List.length_map]; omega)) ?_
        rw [show (L'.map V.int).set k.toNat (.int nvv) = (L'.set k.toNat nvv).map V.int from List.map_set.symm]
        have k9 : ∀ b u, b ≠ l → H8 b = some u → (upd H8 l (.lst ((L'.set k.toNat nvv).map V.int))) b = some u := fun b u nb h => by rw [upd_ne nb]; exact h
        have hl9 : (upd H8 l (.lst ((L'.set k.toNat nvv).map V.int))) l = some (.lst ((L'.set k.toNat nvv).map V.int)) := upd_same
        have lt9 : LeT H8 (upd H8 l (.lst ((L'.set k.toNat nvv).map V.int))) := leT_keep k9 hl8
        generalize upd H8 l (.lst ((L'.set k.toNat nvv).map V.int)) = H9 at *
        have ho9 := k9 _ _ nl0.symm ho8
        have hla9 := k9 _ _ nl3.symm hla8
        have hD9 := k9 _ _ nlD.symm hD8
        have lt69 : LeT H6 H9 := ((Same.le (L2.Same.trans sm7 sm8)).let).trans lt9
        have mx9 : F.MixAt (j + 1) (o y) (F.hy pss tks (y + 1)) (L'.set k.toNat nvv) := by
          have := mx.put ok ek
          rw [env] at this
          exact this
        have k69 : ∀ b u, b ≠ l → H6 b = some u → H9 b = some u := fun b u nb h => k9 _ _ nb (sm8 _ _ (sm7 _ _ h))
        walk_at "s"
        refine ex_v (atI_nat (j := y) (by rw [List.getElem?_map, ely]; rfl)) ?_
        walk_at "s"
        refine ex_v (atI_getD rg.1 (by rw [List.length_set]; omega)) ?_
        rw [getD_set_self (by omega), old]
        walk_at "s"
        refine if_n (fun c9 => ?_) (fun c9 => ?_)
        · walk_at "s"
          rename_i t9 ht9
          have lcs : cs'.length ≤ (y + 1) * F.rs.length := by
            rw [← allP_len]
            refine nodup_le nd6 fun p hp => ?_
            rcases (mem6 p).mp hp with h | ⟨h1, h2, _⟩
            · have := chgP_mem.mp h
              exact allP_mem this.2.1 this.1.1 (by omega)
            · exact allP_mem (oo.rng _ (List.mem_of_mem_take h2)) (by omega) (by omega)
          have lcs2 : (y + 1) * F.rs.length ≤ 8 * 40 := Nat.mul_le_mul (by omega) ok.n2
          have lac := hcs6.length
          rw [List.length_map] at lac
          have nn : (o y).getD k.toNat 0 ≠ nvv := fun e => c9 e.symm
          have ltA : LeT H9 (upd (upd H9 t9 (.tup [.int y, .int k])) D0 (.lst (acc' ++ [.ref t9]))) := LeT.put1 (p := D0) (xs := acc') (by rw [upd_ne (ne_of_none hD9 ht9)]; exact hD9) (LeT.new1 ht9 (.refl _))
          have nt9 : t9 ≠ D0 := fun e => by rw [e, hD9] at ht9; cases ht9
          have t9A : (upd (upd H9 t9 (.tup [.int y, .int k])) D0 (.lst (acc' ++ [.ref t9]))) t9 = some (.tup [.int y, .int k]) := by rw [upd_ne nt9, upd_same]
          have hlA : (upd (upd H9 t9 (.tup [.int y, .int k])) D0 (.lst (acc' ++ [.ref t9]))) l = some (.lst ((L'.set k.toNat nvv).map V.int)) := by rw [upd_ne nlD, upd_ne (ne_of_none hl9 ht9)]; exact hl9
          refine ⟨small_lt (by omega), _, acc' ++ [.ref t9], cs' ++ [((y : Int), k)], _, _, rfl, hlA, mx9, upd_same, ?_, List.nodup_append.mpr ⟨nd6, by simp, fun a ha b hb => ?_⟩, fun p => ?_, fun b u h1 h2 h => ?_, (lt6.trans lt69).trans ltA⟩
          · rw [List.map_append]
            exact ((hcs6.leT lt69 (prI_tupO _)).leT ltA (prI_tupO _)).append (.one (at_tup t9A ⟨_, _, rfl, rfl, _, _, rfl, rfl, rfl⟩))
          · rw [List.mem_singleton.mp hb]
            rintro rfl
            rcases (mem6 _).mp ha with h | ⟨_, h, _⟩
            · have := (chgP_mem.mp h).1.2
              dsimp only at this
              omega
            · exact kfr h
          · rw [List.mem_append, mem6, List.take_add_one, ek, List.mem_singleton]
            constructor
            · rintro ((h | ⟨h1, h2, h3⟩) | rfl)
              · exact .inl h
              · exact .inr ⟨h1, List.mem_append.mpr (.inl h2), h3⟩
              · exact .inr ⟨rfl, List.mem_append.mpr (.inr (by simp)), by dsimp only; rw [env]; exact nn⟩
            · rintro (h | ⟨h1, h2, h3⟩)
              · exact .inl (.inl h)
              · rcases List.mem_append.mp h2 with h2 | h2
                · exact .inl (.inr ⟨h1, h2, h3⟩)
                · exact .inr (Prod.ext h1 (by simpa using h2))
          · have h9 := k69 _ _ h1 (k6 _ _ h1 h2 h)
            rw [upd_ne h2, upd_ne (ne_of_none h9 ht9)]
            exact h9
        · have c10 : (o y).getD k.toNat 0 = nvv := c9.symm
          walk_at "s"
          refine ⟨_, acc', cs', _, _, rfl, hl9, mx9, hD9, hcs6.leT lt69 (prI_tupO _), nd6, fun p => ?_, fun b u h1 h2 h => k69 _ _ h1 (k6 _ _ h1 h2 h), lt6.trans lt69⟩
          rw [mem6, List.take_add_one, ek]
          constructor
          · rintro (h | ⟨h1, h2, h3⟩)
            · exact .inl h
            · exact .inr ⟨h1, List.mem_append.mpr (.inl h2), h3⟩
          · rintro (h | ⟨h1, h2, h3⟩)
            · exact .inl h
            · rcases List.mem_append.mp h2 with h2 | h2
              · exact .inr ⟨h1, h2, h3⟩
              · have e : p.2 = k := by simpa using h2
                rw [e, env] at h3
                exact absurd c10 h3
      · rw [decide_eq_false c]
        walk_at "s"
        have es := st y k hy rg c
        refine ⟨L', acc', cs', _, _, rfl, sm7 _ _ hl6, mx.stay ek es, sm7 _ _ hD6, hcs6.le (Same.le sm7), nd6, fun p => ?_, fun b u h1 h2 h => sm7 _ _ (k6 _ _ h1 h2 h), lt6.trans (Same.le sm7).let⟩
        rw [mem6, List.take_add_one, ek]
        constructor
        · rintro (h | ⟨h1, h2, h3⟩)
          · exact .inl h
          · exact .inr ⟨h1, List.mem_append.mpr (.inl h2), h3⟩
        · rintro (h | ⟨h1, h2, h3⟩)
          · exact .inl h
          · rcases List.mem_append.mp h2 with h2 | h2
            · exact .inr ⟨h1, h2, h3⟩
            · have e : p.2 = k := by simpa using h2
              rw [e] at h3
              exact absurd es h3
    · subst e
      rw [List.length_map, oo.len] at mx mem6
      have eL := mx.all ok F.yr_len
      subst eL
      refine ⟨acc', cs', _, _, _, _, _, rfl, ?_, hD6, hcs6, nd6, fun p => ?_, fun b u h1 h2 h => k6 _ _ (fun e => h1 (e ▸ ml)) h2 (sm25 _ _ (k2 _ _ h1 h2 h)), (lt2.trans (Same.le sm25).let).trans lt6⟩
      · refine (f5.row ely hl6 (fun b u h1 h2 h => k6 _ _ h1 (fun e => nDf (e ▸ h2)) h) lt6).fcongr fun i _ => ?_
        by_cases c : i = y
        · subst c
          rw [if_pos rfl, if_pos (Nat.lt_succ_self _)]
        · rw [if_neg c]
          by_cases c2 : i < y
          · rw [if_pos c2, if_pos (by omega)]
          · rw [if_neg c2, if_neg (by omega)]
      · rw [mem6, List.take_of_length_le (by rw [oo.len]; exact Nat.le_refl _), chgP, List.mem_append, List.mem_map]
        constructor
        · rintro (h | ⟨h1, h2, h3⟩)
          · exact .inl h
          · exact .inr ⟨p.2, List.mem_filter.mpr ⟨mem_rangeI.mpr (oo.rng _ h2), by simpa using h3⟩, Prod.ext h1.symm rfl⟩
        · rintro (h | ⟨k, h2, rfl⟩)
          · exact .inl h
          · obtain ⟨h3, h4⟩ := List.mem_filter.mp h2
            exact .inr ⟨rfl, (oo.perm k).mpr (mem_rangeI.mp h3), by simpa using h4⟩
  · subst e
    walk_at "s"
    refine sortP_use hD2 hcs nd2 chgP_pw mem2 fun p ys hp hat => ?_
    have ltp : LeT H2 (upd H2 p (.lst ys)) := LeT.new1 hp (.refl _)
    have smp : Same H2 (upd H2 p (.lst ys)) := Same.new (.refl _) hp
    have fp1 : H1 p = none := by
      cases e : H1 p with
      | none => rfl
      | some u =>
        exfalso
        by_cases c : p ∈ lv
        · obtain ⟨i, hi⟩ := List.mem_iff_getElem?.mp c
          rw [f2.ln i p hi] at hp
          cases hp
        · by_cases c2 : p = D0
          · rw [c2, hD2] at hp; cases hp
          · rw [k2 _ _ c c2 e] at hp; cases hp
    refine q _ p ys (fun b u h1 h => smp _ _ (k2 _ _ h1 (fun e => by rw [e, hD] at h; cases h) (sm0 _ _ h))) (((Same.le sm0).let.trans lt2).trans ltp) (L2.Same.free sm0 fp1) upd_same (hat.leT ltp (prI_tupO _)) ((f2.same smp).fcongr fun i hi => if_pos hi)
end
end Fl

-- after: fl2.tpl
namespace Fl
open PySem PySem.Spec PyProof.Rows L2 RZ
/-! ### a paper comes, a choice is taken -/
theorem leT_keepO {H H' : Hp} {s : Addr} {o : HO} (k : ∀ b u, b ≠ s → H b = some u → H' b = some u) (hs : H s = some o) (nt : ∀ xs, o ≠ .tup xs) : LeT H H' := fun b ys h => k _ _ (fun e => by rw [e, hs] at h; exact nt ys (Option.some.inj h)) h
theorem FilG.dict {C : Addr} {H H' : Hp} {a : Addr} {F : Frm} {pss : List (List (Str × Int))} {tks : List (List Bool)} {f : Nat → List Int} {pa ta la : Addr} {dv tv lv : List Addr} (h : FilG C H a F pss tks f pa ta la dv tv lv) {y : Nat} {d : Addr} {ps : List (Str × Int)} {kvs : List (Key × V)}
    (ey : dv[y]? = some d) (hd : H' d = some (.dK kvs)) (dp : DicP ps kvs) (pok : PapOk ps) (k : ∀ b u, b ≠ d → b ∈ foot a pa ta la dv tv lv → H b = some u → H' b = some u) (lt : LeT H H') : FilG C H' a F (pss.set y ps) tks f pa ta la dv tv lv := by
  have m := List.mem_of_getElem? ey
  have il := (List.getElem?_eq_some_iff.mp ey).1
  obtain ⟨dx, fv, ho, hf⟩ := h.obj
  obtain ⟨_, kv0, hd0, _⟩ := h.dic y d (pss[y]'(by rw [← h.ld]; exact il)) ey (List.getElem?_eq_getElem _)
  have n0 : a ≠ d := fun e => by rw [e, hd0] at ho; cases ho
  have n1 : pa ≠ d := fun e => by have := h.hpa; rw [e, hd0] at this; cases this
  have n2 : ta ≠ d := fun e => by have := h.hta; rw [e, hd0] at this; cases this
  have n3 : la ≠ d := fun e => by have := h.hla; rw [e, hd0] at this; cases this
  exact {
    obj := ⟨dx, fv, k _ _ n0 (by simp [foot]) ho, hf.leT lt F.tupO⟩
    hpa := k _ _ n1 (by simp [foot]) h.hpa
    hta := k _ _ n2 (by simp [foot]) h.hta
    hla := k _ _ n3 (by simp [foot]) h.hla
    ld := by rw [List.length_set]; exact h.ld
    lt := by rw [List.length_set]; exact h.lt
    ll := by rw [List.length_set]; exact h.ll
    lk := by rw [List.length_set]; exact h.lk
    dic := fun i d' ps' e1 e2 => by
      rcases get_set e2 with ⟨c, e⟩ | ⟨c, e⟩
      · subst c e
        cases Option.some.inj (e1.symm.trans ey)
        exact ⟨pok, kvs, hd, dp⟩
      · obtain ⟨ok, kvs', h1, h2⟩ := h.dic i d' ps' e1 e
        exact ⟨ok, kvs', k _ _ (nodup_ix h.ndl.1 e1 ey c) (by have := List.mem_of_getElem? e1; simp [foot, this]) h1, h2⟩
    tk := fun i t tk e1 e2 => let ⟨l, h1⟩ := h.tk i t tk e1 e2; ⟨l, k _ _ (fun e => by rw [e, hd0] at h1; cases h1) (by have := List.mem_of_getElem? e1; simp [foot, this]) h1⟩
    ln := fun i l e => by
      have h1 := h.ln i l e
      exact k _ _ (fun e => by rw [e, hd0] at h1; cases h1) (by have := List.mem_of_getElem? e; simp [foot, this]) h1
    nd := h.nd
    n1 := by rw [List.length_set]; exact h.n1
    n8 := by rw [List.length_set]; exact h.n8 }
theorem FilG.took {C : Addr} {H H' : Hp} {a : Addr} {F : Frm} {pss : List (List (Str × Int))} {tks : List (List Bool)} {f : Nat → List Int} {pa ta la : Addr} {dv tv lv : List Addr} (h : FilG C H a F pss tks f pa ta la dv tv lv) {y : Nat} {t : Addr} {tk : List Bool}
    (ey : tv[y]? = some t) (ht : H' t = some (.lst (tk.map V.bl))) (l : tk.length = F.C) (k : ∀ b u, b ≠ t → b ∈ foot a pa ta la dv tv lv → H b = some u → H' b = some u) (lt : LeT H H') : FilG C H' a F pss (tks.set y tk) f pa ta la dv tv lv := by
  have m := List.mem_of_getElem? ey
  have il := (List.getElem?_eq_some_iff.mp ey).1
  obtain ⟨dx, fv, ho, hf⟩ := h.obj
  obtain ⟨_, ht0⟩ := h.tk y t (tks[y]'(by rw [h.lk, ← h.lt]; exact il)) ey (List.getElem?_eq_getElem _)
  have nd := h.nd
  simp only [List.nodup_cons, List.mem_cons, List.mem_append, not_or, List.nodup_append] at nd
  obtain ⟨⟨q1, q2, ⟨q3, q4⟩, q5⟩, ⟨m1, ⟨m2, m3⟩, m4⟩, ⟨⟨o1, o2⟩, o3⟩, ⟨p1, p2, p5⟩, p3, p4⟩ := nd
  have n0 : a ≠ t := fun e => by rw [e, ht0] at ho; cases ho
  have n1 : pa ≠ t := fun e => q4 (e ▸ m)
  have n2 : ta ≠ t := fun e => m3 (e ▸ m)
  have n3 : la ≠ t := fun e => o2 (e ▸ m)
  exact {
    obj := ⟨dx, fv, k _ _ n0 (by simp [foot]) ho, hf.leT lt F.tupO⟩
    hpa := k _ _ n1 (by simp [foot]) h.hpa
    hta := k _ _ n2 (by simp [foot]) h.hta
    hla := k _ _ n3 (by simp [foot]) h.hla
    ld := h.ld
    lt := h.lt
    ll := h.ll
    lk := by rw [List.length_set]; exact h.lk
    dic := fun i d ps e1 e2 => let ⟨ok, kvs, h1, h2⟩ := h.dic i d ps e1 e2; ⟨ok, kvs, k _ _ (fun e => by rw [e, ht0] at h1; cases h1) (by have := List.mem_of_getElem? e1; simp [foot, this]) h1, h2⟩
    tk := fun i t' tk' e1 e2 => by
      rcases get_set e2 with ⟨c, e⟩ | ⟨c, e⟩
      · subst c e
        cases Option.some.inj (e1.symm.trans ey)
        exact ⟨l, ht⟩
      · obtain ⟨l', h1⟩ := h.tk i t' tk' e1 e
        exact ⟨l', k _ _ (nodup_ix h.ndl.2.1 e1 ey c) (by have := List.mem_of_getElem? e1; simp [foot, this]) h1⟩
    ln := fun i l e => k _ _ (fun z => p4 t (.inr m) l (List.mem_of_getElem? e) z.symm) (by have := List.mem_of_getElem? e; simp [foot, this]) (h.ln i l e)
    nd := h.nd
    n1 := h.n1
    n8 := h.n8 }
theorem word_str {d : PyData} (h : isWord d = true) : ∃ w, d = .str w ∧ WdT w := by
  cases d with
  | str s =>
    simp only [isWord, Bool.and_eq_true, decide_eq_true_eq, List.all_eq_true] at h
    exact ⟨s, rfl, ⟨h.2, h.1.2⟩, h.1.1⟩
  | _ => simp [isWord] at h
theorem number_int {d : PyData} (h : isNumber d = true) : ∃ z, d = .int z ∧ -1000000000 ≤ z ∧ z ≤ 1000000000 := by
  obtain ⟨z, rfl⟩ := isWhole_int h
  simp only [isNumber, isWhole, Bool.and_eq_true, decide_eq_true_eq] at h
  exact ⟨z, rfl, h⟩
section
variable {P : Program} {w : World} {K : PySem.W.Frag} {mg : Str → Option Value} {base : Heap}
/-- the papers with another one -/
def papW (ps : List (Str × Int)) (w : Str) (z : Int) : List (Str × Int) := (ps.filter fun p => decide (p.1 ≠ w)) ++ [(w, z)]
abbrev s_File_put : Stmt := inClass (topS 58) 3
theorem sc_File_put : FnScope ["self", "year", "word", "number"] ["self", "year", "word", "number"] (defScope s_File_put) := ⟨rfl, rfl, rfl, by decide +kernel, rfl, by decide +kernel, by decide +kernel⟩
def sp_putF (C CY CP : Addr) : Sp4 := fun a b c d H Q E => ∃ (F : Frm) (pss : List (List (Str × Int))) (tks : List (List Bool)) (ft : List Addr) (yd wd nd : PyData), F.Ok 40 ∧ FilV C H a F pss tks ft ∧ At H yd b ∧ At H wd c ∧ okD wd = true ∧ At H nd d ∧
  (∀ (i : Nat) (w : Str) (z : Int), yd = .int i → i < pss.length → wd = .str w → WdT w → nd = .int z → -1000000000 ≤ z ∧ z ≤ 1000000000 → PapOk (papW (pss.getD i []) w z) ∧
    ∀ H' p ys, (∀ b u, b ∉ ft → H b = some u → H' b = some u) → LeT H H' → H p = none → H' p = some (.lst ys) → AtAll H' ((chgP (fun j => F.hy pss tks (j + 1)) (fun j => F.hy (pss.set i (papW (pss.getD i []) w z)) tks (j + 1)) F.rs.length pss.length).map prI) ys →
      FilV C H' a F (pss.set i (papW (pss.getD i []) w z)) tks ft → Q (.ref p) H') ∧
  (isWhole yd 0 (pss.length - 1) = false → E (.ref CY) none H) ∧ (isWhole yd 0 (pss.length - 1) = true → isWord wd = false ∨ isNumber nd = false → ∀ H', Same H H' → E (.ref CP) none H')
theorem ok_putF {C CY CP : Addr} (M : Mg mg) (CF : ClsF K C) (T_NoPaper : ExcT K mg "NoPaper" CP) (G_is_word : Has P w K mg base "is_word" ["thing"] 1 (sp1 sp_is_word)) (G_is_number : Has P w K mg base "is_number" ["thing"] 2 (sp1 sp_is_number)) (G_hanging : Has P w K mg base "hanging" ["form", "count", "year", "word"] 6 (sp4 (sp_hang "paper" true)))
    (M_need_year : HasM P w K mg base C "need_year" ["self", "year"] 2 (sp2 (sp_needyear C CY))) (M_anew : HasM P w K mg base C "anew" ["self", "hang"] 10 (sp2 (sp_anew C))) (D : MethAt K C "put" "File.put" s_File_put ["self", "year", "word", "number"]) :
    HasM P w K mg base C "put" ["self", "year", "word", "number"] 11 (sp4 (sp_putF C CY CP)) := by
  refine .mk4 D sc_File_put fun fa cdv A outer s0 H a b c d Q E hr h => ⟨_, (pss_cons (ps_expr (pe_ownM (pv 0) CF.cls M_need_year (by decide +kernel) (hr.mono (by first | decide | omega)) p_body (pa_cons (pv 1) pa_nil)))
    (pss_cons (ps_if (PW.pt (pw_or (pt_not (pt_val (pe_own G_is_word (hr.mono (by first | decide | omega)) (by rfl) p_body (pa_cons (pv 2) pa_nil)))) (pw_or1 (pt_not (pt_val (pe_own G_is_number (hr.mono (by first | decide | omega)) (by rfl) p_body (pa_cons (pv 3) pa_nil))))))) (pss_one (ps_raise (by rfl) t_body (pmk_own PySem.F.excBase_ValueError T_NoPaper.xC T_NoPaper.gC T_NoPaper.kC (raises_own T_NoPaper.bC T_NoPaper.tC) (by exact rfl)))) pss_nil)
    (pss_cons (ps_dput (hu_of hr) (pe_ix (k_ix K rfl) (fldF (pv 0) CF.cls CF.papers (fun _ _ _ _ => fl_papers) rfl) (pv 1) (fun _ _ => rfl)) (pv 2) (pv 3) rfl)
    (pss_one (ps_ret (pe_ownM (pv 0) CF.cls M_anew (by decide +kernel) (hr.mono (by first | decide | omega)) p_body (pa_cons (pe_own G_hanging (hr.mono (by first | decide | omega)) (by rfl) p_body (pa_cons (fldF (pv 0) CF.cls CF.form (fun _ _ _ _ => fl_form) rfl) (pa_cons (pe_callB (k_len K rfl) (by rfl) M.len (by decide +kernel) (pa_cons (fldF (pv 0) CF.cls CF.lines (fun _ _ _ _ => fl_lines) rfl) pa_nil)) (pa_cons (pv 1) (pa_cons (pv 2) pa_nil))))) pa_nil))))))), ?_⟩
  obtain ⟨F, pss, tks, ft, yd, wd, nd, ok, hV, hyd, hwd, okw, hnd, q1, q2, q3⟩ := h
  obtain ⟨a, pa, ta, la, dv, tv, lv, rfl, rfl, f0⟩ := id hV
  obtain ⟨dx, fv, ho, hf⟩ := f0.obj
  have hpa := f0.hpa
  have hla := f0.hla
  refine Fl.go_start (σ0 := [some _, some _, some _, some _]) rfl ?_
  walk_at "s"
  refine ⟨F, pss, tks, _, yd, hV, hyd, fun wy => ?_, q2⟩
  have wy0 := wy
  obtain ⟨i, rfl, il⟩ := whole_nat wy
  cases (show b = .int i from hyd)
  walk_at "s"
  rename_i H1 sm1
  cases ew : isWord wd with
  | false =>
    walk_at "s"
    exact q3 wy0 (.inl ew) _ sm1
  | true =>
    obtain ⟨w, rfl, wdt⟩ := word_str ew
    cases (show c = .str w from hwd)
    walk_at "s"
    cases en : isNumber nd with
    | false =>
      walk_at "s"
      exact q3 wy0 (.inr en) _ sm1
    | true =>
      obtain ⟨z, rfl, hz⟩ := number_int en
      cases (show d = .int z from hnd)
      obtain ⟨pok', q1⟩ := q1 i w z rfl il rfl wdt rfl hz
      have f1 := f0.same sm1
      have hdl : i < dv.length := by rw [f0.ld]; exact il
      have edy : dv[i]? = some dv[i] := List.getElem?_eq_getElem hdl
      obtain ⟨pok, kvs, hdk, hdp⟩ := f1.dic i dv[i] pss[i] edy (List.getElem?_eq_getElem il)
      generalize dv[i] = dd at *
      have epi : pss.getD i [] = pss[i] := by rw [List.getD_eq_getElem?_getD, List.getElem?_eq_getElem il]; rfl
      rw [epi] at q1 pok'
      have hpa1 := sm1 _ _ hpa
      have ho1 := sm1 _ _ ho
      walk_at "s"
      refine ex_v (atI_nat (j := i) (by rw [List.getElem?_map, edy]; rfl)) ?_
      walk_at "s"
      have lkv : kvs.length ≤ 60 := by
        obtain ⟨qs, rfl, pm⟩ := hdp
        rw [List.length_map, pm.length_eq]
        exact pok.few
      refine dputS hdk (show kvs.length < sizeLine from small_lt (by omega)) ?_
      have k2 : ∀ b u, b ≠ dd → H1 b = some u → (upd H1 dd (.dK (putK kvs (.inr w) (.int z)))) b = some u := fun b u nb h => by rw [upd_ne nb]; exact h
      have hd2 : (upd H1 dd (.dK (putK kvs (.inr w) (.int z)))) dd = some (.dK (putK kvs (.inr w) (.int z))) := upd_same
      have lt2 : LeT H1 (upd H1 dd (.dK (putK kvs (.inr w) (.int z)))) := leT_keepO k2 hdk (fun xs e => by cases e)
      have f2 := f1.dict edy hd2 (hdp.put pok.nd) pok' (fun b u nb _ h => k2 b u nb h) lt2
      have mdf : dd ∈ foot a pa ta la dv tv lv := by have := List.mem_of_getElem? edy; simp [foot, this]
      generalize upd H1 dd (.dK (putK kvs (.inr w) (.int z))) = H2 at *
      obtain ⟨dx2, fv2, ho2, hf2⟩ := f2.obj
      have hla2 := f2.hla
      walk_at "s"
      rw [List.length_map, f0.ll]
      refine ⟨F, pss.length, i, ok, hf2, rfl, rfl, ⟨w, rfl⟩, by omega, f0.n8, fun hl H3 vs sm3 nhl hhl hvs => ?_⟩
      have f3 := f2.same sm3
      obtain ⟨dx3, fv3, ho3, hf3⟩ := f3.obj
      walk_at "s"
      refine ⟨F, pss.set i (papW pss[i] w z), tks, fun j => F.hy pss tks (j + 1), a, pa, ta, la, dv, tv, lv, _, hl, vs, ok, rfl, f3, fun j _ => F.yr_len, rfl, hhl, hvs, fun m => ?_, fun j k hj hk no => ?_, fun H4 p ys k4 lt4 np hp hys f4 => ?_⟩
      · obtain ⟨j, hj⟩ := List.mem_iff_getElem?.mp m
        rw [f2.ln j hl hj] at nhl
        cases nhl
      · have e := Frm.stay_paper ok (pss := pss) (tks := tks) (w := w) (z := z) (y0 := i) il (i := j) (k := k) hk (fun hg => no ((Frm.hp_mem ok _ _).mpr ⟨by rw [List.length_set] at hj; dsimp only; omega, hg⟩))
        rw [epi] at e
        exact e
      · rw [List.length_set] at hys
        have free : H p = none := by
          cases e : H p with
          | none => rfl
          | some u =>
            exfalso
            by_cases c : p = dd
            · rw [c, sm3 _ _ hd2] at np; cases np
            · rw [sm3 _ _ (k2 _ _ c (sm1 _ _ e))] at np; cases np
        exact q1 H4 p ys (fun b u nb h => k4 _ _ (fun m => nb (by simp [foot, m])) (sm3 _ _ (k2 _ _ (fun e => nb (e ▸ mdf)) (sm1 _ _ h)))) ((((Same.le sm1).let.trans lt2).trans (Same.le sm3).let).trans lt4) free hp hys ⟨a, pa, ta, la, dv, tv, lv, rfl, rfl, f4⟩
abbrev s_File_take : Stmt := inClass (topS 58) 4
theorem sc_File_take : FnScope ["self", "year", "choice", "taken"] ["self", "year", "choice", "taken"] (defScope s_File_take) := ⟨rfl, rfl, rfl, by decide +kernel, rfl, by decide +kernel, by decide +kernel⟩
def sp_takeF (C CY CC : Addr) : Sp4 := fun a b c d H Q E => ∃ (F : Frm) (pss : List (List (Str × Int))) (tks : List (List Bool)) (ft : List Addr) (yd cd : PyData) (bb : Bool), F.Ok 40 ∧ FilV C H a F pss tks ft ∧ At H yd b ∧ At H cd c ∧ d = .bl bb ∧
  (∀ (i j : Nat), yd = .int i → i < pss.length → cd = .int j → j < F.C →
    ∀ H' p ys, (∀ b u, b ∉ ft → H b = some u → H' b = some u) → LeT H H' → H p = none → H' p = some (.lst ys) → AtAll H' ((chgP (fun j => F.hy pss tks (j + 1)) (fun k => F.hy pss (tks.set i ((tks.getD i []).set j bb)) (k + 1)) F.rs.length pss.length).map prI) ys →
      FilV C H' a F pss (tks.set i ((tks.getD i []).set j bb)) ft → Q (.ref p) H') ∧
  (isWhole yd 0 (pss.length - 1) = false → E (.ref CY) none H) ∧ (isWhole yd 0 (pss.length - 1) = true → isWhole cd 0 (F.C - 1) = false → E (.ref CC) none H)
theorem ok_takeF {C CY CC : Addr} (M : Mg mg) (CF : ClsF K C) (T_NoChoice : ExcT K mg "NoChoice" CC) (G_is_whole : Has P w K mg base "is_whole" ["thing", "least", "most"] 1 (sp3 sp_is_whole)) (G_hanging_choice : Has P w K mg base "hanging_choice" ["form", "count", "year", "choice"] 6 (sp4 (sp_hang "choose" false)))
    (M_need_year : HasM P w K mg base C "need_year" ["self", "year"] 2 (sp2 (sp_needyear C CY))) (M_anew : HasM P w K mg base C "anew" ["self", "hang"] 10 (sp2 (sp_anew C))) (D : MethAt K C "take" "File.take" s_File_take ["self", "year", "choice", "taken"]) :
    HasM P w K mg base C "take" ["self", "year", "choice", "taken"] 11 (sp4 (sp_takeF C CY CC)) := by
  refine .mk4 D sc_File_take fun fa cdv A outer s0 H a b c d Q E hr h => ⟨_, (pss_cons (ps_expr (pe_ownM (pv 0) CF.cls M_need_year (by decide +kernel) (hr.mono (by first | decide | omega)) p_body (pa_cons (pv 1) pa_nil)))
    (pss_cons (ps_if (pt_not (pt_val (pe_own G_is_whole (hr.mono (by first | decide | omega)) (by rfl) p_body (pa_cons (pv 2) (pa_cons pe_int (pa_cons (pe_op o_sub (pe_ix (k_ix K rfl) (fldF (pv 0) CF.cls CF.form (fun _ _ _ _ => fl_form) rfl) pe_int (fun _ _ => rfl)) pe_int) pa_nil)))))) (pss_one (ps_raise (by rfl) t_body (pmk_own PySem.F.excBase_ValueError T_NoChoice.xC T_NoChoice.gC T_NoChoice.kC (raises_own T_NoChoice.bC T_NoChoice.tC) (by exact rfl)))) pss_nil)
    (pss_cons (ps_asg (pv 3) (pg_sub (pe_ix (k_ix K rfl) (fldF (pv 0) CF.cls CF.taken (fun _ _ _ _ => fl_taken) rfl) (pv 1) (fun _ _ => rfl)) (pv 2) set_list))
    (pss_one (ps_ret (pe_ownM (pv 0) CF.cls M_anew (by decide +kernel) (hr.mono (by first | decide | omega)) p_body (pa_cons (pe_own G_hanging_choice (hr.mono (by first | decide | omega)) (by rfl) p_body (pa_cons (fldF (pv 0) CF.cls CF.form (fun _ _ _ _ => fl_form) rfl) (pa_cons (pe_callB (k_len K rfl) (by rfl) M.len (by decide +kernel) (pa_cons (fldF (pv 0) CF.cls CF.lines (fun _ _ _ _ => fl_lines) rfl) pa_nil)) (pa_cons (pv 1) (pa_cons (pv 2) pa_nil))))) pa_nil))))))), ?_⟩
  obtain ⟨F, pss, tks, ft, yd, cd, bb, ok, hV, hyd, hcd, rfl, q1, q2, q3⟩ := h
  obtain ⟨a, pa, ta, la, dv, tv, lv, rfl, rfl, f0⟩ := id hV
  obtain ⟨dx, fv, ho, hf⟩ := f0.obj
  obtain ⟨f, L, T, fs, ts, rfl, hff, hL, hfs, hT, hts⟩ := Frm.at hf
  have hta := f0.hta
  have hla := f0.hla
  refine Fl.go_start (σ0 := [some _, some _, some _, some _]) rfl ?_
  walk_at "s"
  refine ⟨F, pss, tks, _, yd, hV, hyd, fun wy => ?_, q2⟩
  have wy0 := wy
  obtain ⟨i, rfl, il⟩ := whole_nat wy
  cases (show b = .int i from hyd)
  walk_at "s"
  cases ec : isWhole cd 0 (F.C - 1) with
  | false =>
    walk_at "s"
    exact q3 wy0 ec
  | true =>
    obtain ⟨j, rfl, jl⟩ := whole_nat ec
    cases (show c = .int j from hcd)
    replace q1 := q1 i j rfl il rfl jl
    have hyd := hyd
    have htl : i < tv.length := by rw [f0.lt]; exact il
    have hkl : i < tks.length := by rw [f0.lk]; exact il
    have ety : tv[i]? = some tv[i] := List.getElem?_eq_getElem htl
    obtain ⟨ltk, htk⟩ := f0.tk i tv[i] tks[i] ety (List.getElem?_eq_getElem hkl)
    generalize tv[i] = tt at *
    have eti : tks.getD i [] = tks[i] := by rw [List.getD_eq_getElem?_getD, List.getElem?_eq_getElem hkl]; rfl
    rw [eti] at q1
    walk_at "s"
    refine ex_v (atI_nat (j := i) (by rw [List.getElem?_map, ety]; rfl)) ?_
    walk_at "s"
    refine ex_j (ixN_nat (by rw [List.length_map]; omega)) ?_
    rw [show (tks[i].map V.bl).set j (.bl bb) = (tks[i].set j bb).map V.bl from List.map_set.symm]
    have k2 : ∀ b u, b ≠ tt → H b = some u → (upd H tt (.lst ((tks[i].set j bb).map V.bl))) b = some u := fun b u nb h => by rw [upd_ne nb]; exact h
    have ht2 : (upd H tt (.lst ((tks[i].set j bb).map V.bl))) tt = some (.lst ((tks[i].set j bb).map V.bl)) := upd_same
    have lt2 : LeT H (upd H tt (.lst ((tks[i].set j bb).map V.bl))) := leT_keep k2 htk
    have f2 := f0.took ety ht2 (by rw [List.length_set]; exact ltk) (fun b u nb _ h => k2 b u nb h) lt2
    have mdf : tt ∈ foot a pa ta la dv tv lv := by have := List.mem_of_getElem? ety; simp [foot, this]
    generalize upd H tt (.lst ((tks[i].set j bb).map V.bl)) = H2 at *
    obtain ⟨dx2, fv2, ho2, hf2⟩ := f2.obj
    have hla2 := f2.hla
    walk_at "s"
    rw [List.length_map, f0.ll]
    refine ⟨F, pss.length, i, ok, hf2, rfl, rfl, ⟨j, rfl⟩, by omega, f0.n8, fun hl H3 vs sm3 nhl hhl hvs => ?_⟩
    have f3 := f2.same sm3
    obtain ⟨dx3, fv3, ho3, hf3⟩ := f3.obj
    walk_at "s"
    refine ⟨F, pss, tks.set i (tks[i].set j bb), fun j => F.hy pss tks (j + 1), a, pa, ta, la, dv, tv, lv, _, hl, vs, ok, rfl, f3, fun j _ => F.yr_len, rfl, hhl, hvs, fun m => ?_, fun j' k hj hk no => ?_, fun H4 p ys k4 lt4 np hp hys f4 => ?_⟩
    · obtain ⟨j, hj⟩ := List.mem_iff_getElem?.mp m
      rw [f2.ln j hl hj] at nhl
      cases nhl
    · have e := Frm.stay_choice ok (pss := pss) (tks := tks) (c0 := j) (b := bb) (y0 := i) hkl (i := j') (k := k) hk (fun hg => no ((Frm.hp_mem ok _ _).mpr ⟨by dsimp only; omega, hg⟩))
      simp only [eti] at e
      exact e
    · have free : H p = none := by
        cases e : H p with
        | none => rfl
        | some u =>
          exfalso
          by_cases c : p = tt
          · rw [c, sm3 _ _ ht2] at np; cases np
          · rw [sm3 _ _ (k2 _ _ c e)] at np; cases np
      exact q1 H4 p ys (fun b u nb h => k4 _ _ (fun m => nb (by simp [foot, m])) (sm3 _ _ (k2 _ _ (fun e => nb (e ▸ mdf)) h))) ((lt2.trans (Same.le sm3).let).trans lt4) free hp hys ⟨a, pa, ta, la, dv, tv, lv, rfl, rfl, f4⟩
end
end Fl

-- after: fl3.tpl va4h.tpl
namespace Fl
open PySem PySem.Spec PyProof.Rows L2 RZ
/-! ### a file is made -/
theorem pf_form {v : V} : putF ("form" : Str) v [] = [(("form" : Str), v)] := rfl
theorem pf_papers {fv x : V} : putF ("papers" : Str) x [(("form" : Str), fv)] = [(("form" : Str), fv), (("papers" : Str), x)] := by
  show (if ("form" : Str) = "papers" then _ else _ :: _) = _
  rw [if_neg (by decide +kernel)]
  rfl
theorem pf_taken {fv p x : V} : putF ("taken" : Str) x [(("form" : Str), fv), (("papers" : Str), p)] = [(("form" : Str), fv), (("papers" : Str), p), (("taken" : Str), x)] := by
  show (if ("form" : Str) = "taken" then _ else _ :: (if ("papers" : Str) = "taken" then _ else _ :: _)) = _
  rw [if_neg (by decide +kernel), if_neg (by decide +kernel)]
  rfl
theorem pf_lines {fv p t x : V} : putF ("lines" : Str) x [(("form" : Str), fv), (("papers" : Str), p), (("taken" : Str), t)] = [(("form" : Str), fv), (("papers" : Str), p), (("taken" : Str), t), (("lines" : Str), x)] := by
  show (if ("form" : Str) = "lines" then _ else _ :: (if ("papers" : Str) = "lines" then _ else _ :: (if ("taken" : Str) = "lines" then _ else _ :: _))) = _
  rw [if_neg (by decide +kernel), if_neg (by decide +kernel), if_neg (by decide +kernel)]
  rfl
theorem lk_taken {fv p t : V} : [(("form" : Str), fv), (("papers" : Str), p), (("taken" : Str), t)].lookup ("taken" : Str) = some t := by
  have e : (("taken" : Str) == "form") = false := by decide +kernel
  have e2 : (("taken" : Str) == "papers") = false := by decide +kernel
  simp [List.lookup, e, e2]
theorem refs_of : ∀ {hv : List V}, (∀ v ∈ hv, ∃ l, v = V.ref l) → ∃ lv : List Addr, hv = lv.map V.ref
  | [], _ => ⟨[], rfl⟩
  | v :: r, h => by
    obtain ⟨l, e⟩ := h v (List.mem_cons_self ..)
    obtain ⟨lv, e2⟩ := refs_of fun u hu => h u (List.mem_cons_of_mem _ hu)
    exact ⟨l :: lv, by rw [e, e2, List.map_cons]⟩
section
variable {σ : L2.St} {H : Hp} {K : PySem.W.Frag} {ta tv : TE} {f : Str} {nx bk ct : L2.St → Hp → Prop} {rt : VK} {Q : VK}
instance : Step (sFld K ta tv f ⟨nx, rt, bk, ct⟩ σ H) (tv σ H fun y H1 => ta σ H1 fun x H2 => ∃ a C dx fs, x = .ref a ∧ H2 a = some (.ins C dx fs) ∧ Cls K C ∧ NoAttr K C f ∧ fs.length < 1000 ∧ nx σ (upd H2 a (.ins C dx (putF f y fs)))) := ⟨fun h => h⟩
instance : Step (tFld K ta f σ H Q) (ta σ H fun x H1 => ∃ a C dx fs v, x = .ref a ∧ H1 a = some (.ins C dx fs) ∧ Cls K C ∧ NoAttr K C f ∧ fs.lookup f = some v ∧ Q v H1) := ⟨fun h => h⟩
end
section
variable {P : Program} {w : World} {K : PySem.W.Frag} {mg : Str → Option Value} {base : Heap}
abbrev s_File___init__ : Stmt := inClass (topS 58) 0
theorem sc_File___init__ : FnScope ["self", "form", "count", "year"] ["self", "form", "count"] (defScope s_File___init__) := ⟨rfl, rfl, rfl, by decide +kernel, rfl, by decide +kernel, by decide +kernel⟩
def sp_initF (C CN : Addr) : Sp3 := fun x b c H Q E => ∃ (F : Frm) (a dx : Addr) (cd : PyData), F.Ok 40 ∧ x = .ref a ∧ H a = some (.ins C dx []) ∧ At H F.d b ∧ At H cd c ∧
  (∀ n : Nat, cd = .int n → 1 ≤ n ∧ n ≤ 8 → ∀ H' pa ta la dv tv lv, FilAt C H' a F (List.replicate n []) (List.replicate n (List.replicate F.C false)) pa ta la dv tv lv → (∀ b ∈ foot a pa ta la dv tv lv, b = a ∨ H b = none) → (∀ b u, b ≠ a → H b = some u → H' b = some u) → LeT H H' → Q .non H') ∧
  (isWhole cd 1 8 = false → E (.ref CN) none H)
theorem ok_initF {C CN CP CC : Addr} (M : Mg mg) (CF : ClsF K C) (T_NoForm : ExcT K mg "NoForm" CN) (c_MOST_YEARS : ∃ t, mg "MOST_YEARS" = some (.int 8 t)) (G_is_whole : Has P w K mg base "is_whole" ["thing", "least", "most"] 1 (sp3 sp_is_whole)) (G_history : Has P w K mg base "history" ["form", "years", "taken"] 11 (sp3 (sp_histX CP CC)))
    (D : MethAt K C "__init__" "File.__init__" s_File___init__ ["self", "form", "count"]) : HasM P w K mg base C "__init__" ["self", "form", "count"] 12 (sp3 (sp_initF C CN)) := by
  refine .mk3 D sc_File___init__ fun fa cdv A outer s0 H x b c Q E hr h => ⟨_, (pss_cons (ps_if (pt_not (pt_val (pe_own G_is_whole (hr.mono (by first | decide | omega)) (by rfl) p_body (pa_cons (pv 2) (pa_cons pe_int (pa_cons (pe_gi (by rfl) c_MOST_YEARS) pa_nil)))))) (pss_one (ps_raise (by rfl) t_body (pmk_own PySem.F.excBase_ValueError T_NoForm.xC T_NoForm.gC T_NoForm.kC (raises_own T_NoForm.bC T_NoForm.tC) (by exact rfl)))) pss_nil)
    (pss_cons (ps_fld (pv 0) (pv 1) rfl)
    (pss_cons (ps_fld (pv 0) (pe_lc (own := [("year", 3)]) (g := gName 3) (by rfl) sc_File___init__.nd (pi_range1 (by rfl) M.range (pa_cons (pv 2) pa_nil)) (blkOk_by (N := ["self", "form", "count", "year"]) (sc := (defScope s_File___init__)) (own := [("year", 3)]) (by decide +kernel)) (fun _ _ _ _ _ => (pg_name (i := 3) sc_File___init__.nd rfl (by first | exact Or.inl rfl | exact Or.inr rfl))) (fun _ _ _ _ _ => pts_nil) (fun _ _ _ _ _ => pe_dnewK)) rfl)
    (pss_cons (ps_fld (pv 0) (pe_lc (own := [("year", 3)]) (g := gName 3) (by rfl) sc_File___init__.nd (pi_range1 (by rfl) M.range (pa_cons (pv 2) pa_nil)) (blkOk_by (N := ["self", "form", "count", "year"]) (sc := (defScope s_File___init__)) (own := [("year", 3)]) (by decide +kernel)) (fun _ _ _ _ _ => (pg_name (i := 3) sc_File___init__.nd rfl (by first | exact Or.inl rfl | exact Or.inr rfl))) (fun _ _ _ _ _ => pts_nil) (fun _ _ _ _ _ => (pe_op o_mul (pe_lst (pa_cons pe_bl pa_nil)) (pe_ix (k_ix K rfl) (pv 1) pe_int (fun _ _ => rfl))))) rfl)
    (pss_one (ps_fld (pv 0) (pe_own G_history (hr.mono (by first | decide | omega)) (by rfl) p_body (pa_cons (pv 1) (pa_cons (pe_lc (own := [("year", 3)]) (g := gName 3) (by rfl) sc_File___init__.nd (pi_range1 (by rfl) M.range (pa_cons (pv 2) pa_nil)) (blkOk_by (N := ["self", "form", "count", "year"]) (sc := (defScope s_File___init__)) (own := [("year", 3)]) (by decide +kernel)) (fun _ _ _ _ _ => (pg_name (i := 3) sc_File___init__.nd rfl (by first | exact Or.inl rfl | exact Or.inr rfl))) (fun _ _ _ _ _ => pts_nil) (fun _ _ _ _ _ => (pe_lst pa_nil))) (pa_cons (k_fld K rfl (pv 0) rfl) pa_nil)))) rfl)))))), ?_⟩
  obtain ⟨F, a, dx, cd, ok, rfl, ho, hat, hcd, q, q2⟩ := h
  refine Fl.go_start (σ0 := [some _, some _, some _, none]) rfl ?_
  walk_at "s"
  cases ew : isWhole cd 1 8 with
  | false =>
    walk_at "s"
    exact q2 ew
  | true =>
    obtain ⟨z, rfl⟩ := isWhole_int ew
    simp only [isWhole, Bool.and_eq_true, decide_eq_true_eq] at ew
    obtain ⟨n, rfl⟩ : ∃ n : Nat, z = n := ⟨z.toNat, by omega⟩
    cases (show c = .int n from hcd)
    have n1 : 1 ≤ n := by omega
    have n8 : n ≤ 8 := by omega
    have q := q n rfl ⟨n1, n8⟩
    walk_at "s"
    refine ⟨_, _, _, _, rfl, ho, CF.cls, CF.form, by decide, ?_⟩
    rw [pf_form]
    have k1 : ∀ u v, u ≠ a → H u = some v → (upd H a (.ins C dx [(("form" : Str), b)])) u = some v := fun u v nb h => by rw [upd_ne nb]; exact h
    have lt1 : LeT H (upd H a (.ins C dx [(("form" : Str), b)])) := leT_keepO k1 ho (fun xs e => by cases e)
    have ho1 : (upd H a (.ins C dx [(("form" : Str), b)])) a = some (.ins C dx [(("form" : Str), b)]) := upd_same
    generalize upd H a (.ins C dx [(("form" : Str), b)]) = H1 at *
    walk_at "s"
    rw [Int.toNat_natCast]
    refine lc_rng (fun D i H' => ∃ dv : List Addr, H' D = some (.lst (dv.map V.ref)) ∧ dv.length = i ∧ (∀ d ∈ dv, H' d = some (.dK []) ∧ H1 d = none ∧ d ≠ D) ∧ dv.Nodup ∧ Same H1 H')
      (fun D hD => ⟨[], upd_same, rfl, by simp, .nil, Same.new (.refl _) hD⟩) (fun D i H' hD hi ⟨dv, hDv, ldv, hdv, ndv, smv⟩ => ?_) (fun pa H2 hpa ⟨dv, hDv, ldv, hdv, ndv, smv⟩ => ?_)
    · refine ⟨rfl, ?_⟩
      refine Step.h (n := if true = true then _ else _) ?_
      rw [if_pos rfl]
      walk_at "s"
      rename_i d hd
      have nd : d ≠ D := fun e => by rw [e, hDv] at hd; cases hd
      refine ⟨dv ++ [d], by rw [upd_same, List.map_append]; rfl, by rw [List.length_append, ldv]; rfl, fun d' hm => ?_, List.nodup_append.mpr ⟨ndv, by simp, fun u hu v hv => ?_⟩, fun u v h => ?_⟩
      · rcases List.mem_append.mp hm with hm | hm
        · obtain ⟨h1, h2, h3⟩ := hdv d' hm
          exact ⟨by rw [upd_ne h3, upd_ne (ne_of_none h1 hd)]; exact h1, h2, h3⟩
        · rw [List.mem_singleton.mp hm]
          exact ⟨by rw [upd_ne nd, upd_same], L2.Same.free smv hd, nd⟩
      · rw [List.mem_singleton.mp hv]
        rintro rfl
        rw [(hdv u hu).1] at hd
        cases hd
      · have h' := smv _ _ h
        rw [upd_ne (fun e => by rw [e, hD] at h; cases h), upd_ne (ne_of_none h' hd)]
        exact h'
    have ho2 := smv _ _ ho1
    walk_at "s"
    refine ⟨_, _, _, _, rfl, ho2, CF.cls, CF.papers, by show 1 < 1000; decide, ?_⟩
    rw [pf_papers]
    have npa : pa ≠ a := fun e => by rw [e, ho1] at hpa; cases hpa
    have k3 : ∀ u v, u ≠ a → H2 u = some v → (upd H2 a (.ins C dx [(("form" : Str), b), (("papers" : Str), .ref pa)])) u = some v := fun u v nb h => by rw [upd_ne nb]; exact h
    have lt3 : LeT H2 (upd H2 a (.ins C dx [(("form" : Str), b), (("papers" : Str), .ref pa)])) := leT_keepO k3 ho2 (fun xs e => by cases e)
    have ho3 : (upd H2 a (.ins C dx [(("form" : Str), b), (("papers" : Str), .ref pa)])) a = some (.ins C dx [(("form" : Str), b), (("papers" : Str), .ref pa)]) := upd_same
    generalize upd H2 a (.ins C dx [(("form" : Str), b), (("papers" : Str), .ref pa)]) = H3 at *
    have hat3 := ((hat.leT lt1 F.tupO).le (Same.le smv)).leT lt3 F.tupO
    have hpa3 := k3 _ _ npa hDv
    have hdv3 : ∀ d ∈ dv, H3 d = some (.dK []) ∧ H1 d = none ∧ d ≠ pa := fun d hm => let ⟨h1, h2, h3⟩ := hdv d hm; ⟨k3 _ _ (fun e => by rw [e, ho1] at h2; cases h2) h1, h2, h3⟩
    obtain ⟨f, L, T, fs, ts, rfl, hff, hL, hfs, hT, hts⟩ := Frm.at hat3
    have c8 := ok.c8
    walk_at "s"
    rw [Int.toNat_natCast]
    refine lc_rng (fun D i H' => ∃ tv : List Addr, H' D = some (.lst (tv.map V.ref)) ∧ tv.length = i ∧ (∀ t ∈ tv, H' t = some (.lst ((List.replicate F.C false).map V.bl)) ∧ H3 t = none ∧ t ≠ D) ∧ tv.Nodup ∧ Same H3 H')
      (fun D hD => ⟨[], upd_same, rfl, by simp, .nil, Same.new (.refl _) hD⟩) (fun D i H' hD hi ⟨tv, hDt, ltv, htv, ntv, smt⟩ => ?_) (fun ta H4 hta ⟨tv, hDt, ltv, htv, ntv, smt⟩ => ?_)
    · have hff' := smt _ _ hff
      refine ⟨rfl, ?_⟩
      refine Step.h (n := if true = true then _ else _) ?_
      rw [if_pos rfl]
      walk_at "s"
      rename_i p1 hp1 t ht
      rw [Int.toNat_natCast, rep_flat]
      have smA : Same H' (upd (upd H' p1 (.lst [.bl false])) t (.lst (List.replicate F.C (.bl false)))) := by walk_at "sm"
      have htA : (upd (upd H' p1 (.lst [.bl false])) t (.lst (List.replicate F.C (.bl false)))) t = some (.lst ((List.replicate F.C false).map V.bl)) := by rw [upd_same, List.map_replicate]
      have ntn : H' t = none := by
        have h1 : Same H' (upd H' p1 (.lst [.bl false])) := by walk_at "sm"
        exact L2.Same.free h1 ht
      generalize upd (upd H' p1 (.lst [.bl false])) t (.lst (List.replicate F.C (.bl false))) = HA at *
      have nd : t ≠ D := fun e => by rw [e, hDt] at ntn; cases ntn
      refine ⟨tv ++ [t], by rw [upd_same, List.map_append]; rfl, by rw [List.length_append, ltv]; rfl, fun d' hm => ?_, List.nodup_append.mpr ⟨ntv, by simp, fun u hu v hv => ?_⟩, fun u v h => ?_⟩
      · rcases List.mem_append.mp hm with hm | hm
        · obtain ⟨h1, h2, h3⟩ := htv d' hm
          exact ⟨by rw [upd_ne h3]; exact smA _ _ h1, h2, h3⟩
        · rw [List.mem_singleton.mp hm]
          exact ⟨by rw [upd_ne nd]; exact htA, L2.Same.free smt ntn, nd⟩
      · rw [List.mem_singleton.mp hv]
        rintro rfl
        rw [(htv u hu).1] at ntn
        cases ntn
      · rw [upd_ne (fun e => by rw [e, hD] at h; cases h)]
        exact smA _ _ (smt _ _ h)
    have ho4 := smt _ _ ho3
    walk_at "s"
    refine ⟨_, _, _, _, rfl, ho4, CF.cls, CF.taken, by show 2 < 1000; decide, ?_⟩
    rw [pf_taken]
    have nta : ta ≠ a := fun e => by rw [e, ho3] at hta; cases hta
    have k5 : ∀ u v, u ≠ a → H4 u = some v → (upd H4 a (.ins C dx [(("form" : Str), .ref f), (("papers" : Str), .ref pa), (("taken" : Str), .ref ta)])) u = some v := fun u v nb h => by rw [upd_ne nb]; exact h
    have lt5 : LeT H4 (upd H4 a (.ins C dx [(("form" : Str), .ref f), (("papers" : Str), .ref pa), (("taken" : Str), .ref ta)])) := leT_keepO k5 ho4 (fun xs e => by cases e)
    have ho5 : (upd H4 a (.ins C dx [(("form" : Str), .ref f), (("papers" : Str), .ref pa), (("taken" : Str), .ref ta)])) a = some (.ins C dx [(("form" : Str), .ref f), (("papers" : Str), .ref pa), (("taken" : Str), .ref ta)]) := upd_same
    generalize upd H4 a (.ins C dx [(("form" : Str), .ref f), (("papers" : Str), .ref pa), (("taken" : Str), .ref ta)]) = H5 at *
    have hat5 := (hat3.le (Same.le smt)).leT lt5 F.tupO
    have hta5 := k5 _ _ nta hDt
    have hpa5 := k5 _ _ npa (smt _ _ hpa3)
    have htv5 : ∀ t ∈ tv, H5 t = some (.lst ((List.replicate F.C false).map V.bl)) ∧ H3 t = none ∧ t ≠ ta := fun d hm => let ⟨h1, h2, h3⟩ := htv d hm; ⟨k5 _ _ (fun e => by rw [e, ho3] at h2; cases h2) h1, h2, h3⟩
    have hdv5 : ∀ d ∈ dv, H5 d = some (.dK []) ∧ H1 d = none ∧ d ≠ pa := fun d hm => let ⟨h1, h2, h3⟩ := hdv3 d hm; ⟨k5 _ _ (fun e => by rw [e, ho1] at h2; cases h2) (smt _ _ h1), h2, h3⟩
    walk_at "s"
    rw [Int.toNat_natCast]
    refine lc_rng (fun D i H' => ∃ yv : List V, H' D = some (.lst yv) ∧ yv.length = i ∧ (∀ v ∈ yv, ∃ l, v = .ref l ∧ H' l = some (.lst []) ∧ l ≠ D) ∧ Same H5 H')
      (fun D hD => ⟨[], upd_same, rfl, by simp, Same.new (.refl _) hD⟩) (fun D i H' hD hi ⟨yv, hDy, lyv, hyv, smy⟩ => ?_) (fun ya H6 hya ⟨yv, hDy, lyv, hyv, smy⟩ => ?_)
    · refine ⟨rfl, ?_⟩
      refine Step.h (n := if true = true then _ else _) ?_
      rw [if_pos rfl]
      walk_at "s"
      rename_i l hl
      have nd : l ≠ D := fun e => by rw [e, hDy] at hl; cases hl
      refine ⟨by rw [List.length_append, lyv]; rfl, fun v hm => ?_, fun u v h => ?_⟩
      · rcases List.mem_append.mp hm with hm | hm
        · obtain ⟨l', e, h1, h2⟩ := hyv v hm
          exact ⟨l', e, by rw [upd_ne h2, upd_ne (ne_of_none h1 hl)]; exact h1, h2⟩
        · rw [List.mem_singleton.mp hm]
          exact ⟨l, rfl, by rw [upd_ne nd, upd_same], nd⟩
      · have h' := smy _ _ h
        rw [upd_ne (fun e => by rw [e, hD] at h; cases h), upd_ne (ne_of_none h' hl)]
        exact h'
    have ho6 := smy _ _ ho5
    have hta6 := smy _ _ hta5
    walk_at "s"
    refine ⟨_, _, _, _, _, rfl, ho6, CF.cls, CF.taken, lk_taken, ?_⟩
    walk_at "s"
    refine histX_good ⟨F, ya, yv, List.replicate n [], ta, tv.map V.ref, List.replicate n (List.replicate F.C false), ok, hat5.le (Same.le smy), rfl, hDy, ⟨by rw [lyv, List.length_replicate], fun i v ps e1 e2 => ?_⟩, rfl, by first | exact hta6 | exact .inl hta6, ⟨by rw [List.length_map, ltv, List.length_replicate], fun i v tk e1 e2 => ?_⟩, by simp, by rw [List.length_replicate]; omega, fun la H7 hv sm7 nla hla hrows fr nd7 => ?_⟩
    · obtain ⟨l, rfl, hl, _⟩ := hyv v (List.mem_of_getElem? e1)
      have e : ps = [] := (List.mem_replicate.mp (List.mem_of_getElem? e2)).2
      subst e
      exact ⟨l, [], rfl, hl, rfl, ⟨by simp, by simp, by simp, by simp⟩⟩
    · have e : tk = List.replicate F.C false := (List.mem_replicate.mp (List.mem_of_getElem? e2)).2
      subst e
      obtain ⟨t, ht, rfl⟩ := List.mem_map.mp (List.mem_of_getElem? e1)
      exact ⟨t, rfl, .inl (smy _ _ (htv5 t ht).1), List.length_replicate⟩
    obtain ⟨lv, rfl⟩ := refs_of fun v hm => by
      obtain ⟨i, hi⟩ := List.mem_iff_getElem?.mp hm
      obtain ⟨l, e, _⟩ := hrows.at_ i v hi
      exact ⟨l, e⟩
    have lrow := hrows.len
    rw [List.length_map, List.length_replicate] at lrow
    have ho7 := sm7 _ _ ho6
    walk_at "s"
    refine ⟨_, _, _, _, rfl, ho7, CF.cls, CF.lines, by show 3 < 1000; decide, ?_⟩
    rw [pf_lines]
    have nla' : la ≠ a := fun e => by rw [e, ho6] at nla; cases nla
    have k8 : ∀ u v, u ≠ a → H7 u = some v → (upd H7 a (.ins C dx [(("form" : Str), .ref f), (("papers" : Str), .ref pa), (("taken" : Str), .ref ta), (("lines" : Str), .ref la)])) u = some v := fun u v nb h => by rw [upd_ne nb]; exact h
    have lt8 : LeT H7 (upd H7 a (.ins C dx [(("form" : Str), .ref f), (("papers" : Str), .ref pa), (("taken" : Str), .ref ta), (("lines" : Str), .ref la)])) := leT_keepO k8 ho7 (fun xs e => by cases e)
    have ho8 : (upd H7 a (.ins C dx [(("form" : Str), .ref f), (("papers" : Str), .ref pa), (("taken" : Str), .ref ta), (("lines" : Str), .ref la)])) a = some (FileO C dx (.ref f) pa ta la) := upd_same
    generalize upd H7 a (.ins C dx [(("form" : Str), .ref f), (("papers" : Str), .ref pa), (("taken" : Str), .ref ta), (("lines" : Str), .ref la)]) = H8 at *
    walk_at "s"
    have sm57 := L2.Same.trans smy sm7
    have dn : ∀ d ∈ dv, d ≠ a := fun d hm e => by have := (hdv d hm).2.1; rw [e, ho1] at this; cases this
    have tn : ∀ t ∈ tv, t ≠ a := fun t hm e => by have := (htv t hm).2.1; rw [e, ho3] at this; cases this
    have ln : ∀ l ∈ lv, l ≠ a := fun l hm e => by have := fr l (List.mem_map.mpr ⟨l, hm, rfl⟩); rw [e, ho6] at this; cases this
    have f1 : ∀ u, H1 u = none → H u = none := fun u hu => by
      cases e : H u with
      | none => rfl
      | some v => rw [k1 u v (fun z => by rw [z, ho1] at hu; cases hu) e] at hu; cases hu
    have f3 : ∀ u, H3 u = none → H1 u = none := fun u hu => by
      cases e : H1 u with
      | none => rfl
      | some v => rw [k3 u v (fun z => by rw [z, ho3] at hu; cases hu) (smv _ _ e)] at hu; cases hu
    have f6 : ∀ u, H6 u = none → H3 u = none := fun u hu => by
      cases e : H3 u with
      | none => rfl
      | some v => rw [smy _ _ (k5 u v (fun z => by rw [z, ho6] at hu; cases hu) (smt _ _ e))] at hu; cases hu
    have fl : ∀ l ∈ lv, H6 l = none := fun l hm => fr l (List.mem_map.mpr ⟨l, hm, rfl⟩)
    have at_l : ∀ (i : Nat) (l : Addr), lv[i]? = some l → H7 l = some (.lst ((F.hy (List.replicate n []) (List.replicate n (List.replicate F.C false)) (i + 1)).map V.int)) := fun i l hi => by
      obtain ⟨l', e, h⟩ := hrows.at_ i (.ref l) (by rw [List.getElem?_map, hi]; rfl)
      cases e
      exact h
    have pa6 := smy _ _ hpa5
    have nlv : la ∉ lv := fun m => by
      obtain ⟨i, hi⟩ := List.mem_iff_getElem?.mp m
      have h := at_l i la hi
      rw [hla] at h
      have e := HO.lst.inj (Option.some.inj h)
      cases lv with
      | nil => cases m
      | cons x r =>
        cases e2 : F.hy (List.replicate n []) (List.replicate n (List.replicate F.C false)) (i + 1) with
        | nil => rw [e2] at e; cases e
        | cons y s => rw [e2] at e; cases e
    refine q H8 pa ta la dv tv lv ?_ ?_ ?_ ?_
    · exact {
        obj := ⟨dx, .ref f, ho8, (hat5.le (Same.le sm57)).leT lt8 F.tupO⟩
        hpa := k8 _ _ npa (sm57 _ _ hpa5)
        hta := k8 _ _ nta (sm57 _ _ hta5)
        hla := k8 _ _ nla' hla
        ld := by rw [ldv, List.length_replicate]
        lt := by rw [ltv, List.length_replicate]
        ll := by rw [lrow, List.length_replicate]
        lk := by rw [List.length_replicate, List.length_replicate]
        dic := fun i d ps e1 e2 => by
          have e : ps = [] := (List.mem_replicate.mp (List.mem_of_getElem? e2)).2
          subst e
          have m := List.mem_of_getElem? e1
          exact ⟨⟨by simp, by simp, by simp, by simp⟩, [], k8 _ _ (dn d m) (sm57 _ _ (hdv5 d m).1), [], rfl, .refl _⟩
        tk := fun i t tk e1 e2 => by
          have e : tk = List.replicate F.C false := (List.mem_replicate.mp (List.mem_of_getElem? e2)).2
          subst e
          have m := List.mem_of_getElem? e1
          exact ⟨List.length_replicate, k8 _ _ (tn t m) (sm57 _ _ (htv5 t m).1)⟩
        ln := fun i l e => k8 _ _ (ln l (List.mem_of_getElem? e)) (at_l i l e)
        nd := by
          simp only [List.nodup_cons, List.mem_cons, List.mem_append, not_or, List.nodup_append]
          refine ⟨⟨fun e => ?_, fun e => ?_, ⟨fun m => (hdv pa m).2.2 rfl, fun m => ?_⟩, fun m => ?_⟩, ⟨fun e => ?_, ⟨fun m => ?_, fun m => (htv ta m).2.2 rfl⟩, fun m => ?_⟩, ⟨⟨fun m => ?_, fun m => ?_⟩, nlv⟩, ⟨ndv, ntv, fun x hx y hy e => ?_⟩, ?_, fun x hx y hy e => ?_⟩
          · rw [e, hta] at hpa3; cases hpa3
          · rw [e, nla] at pa6; cases pa6
          · have := (htv pa m).2.1; rw [hpa3] at this; cases this
          · have := fl pa m; rw [pa6] at this; cases this
          · rw [e, nla] at hta6; cases hta6
          · have := (hdv5 ta m).1; rw [hta5] at this; cases this
          · have := fl ta m; rw [hta6] at this; cases this
          · have := smy _ _ (hdv5 la m).1; rw [nla] at this; cases this
          · have := smy _ _ (htv5 la m).1; rw [nla] at this; cases this
          · have h1 := (hdv3 x hx).1; rw [e, (htv y hy).2.1] at h1; cases h1
          · exact (List.pairwise_map.mp nd7).imp fun h e => h (by rw [e])
          · rcases hx with hx | hx
            · have h1 := smy _ _ (hdv5 x hx).1; rw [e, fl y hy] at h1; cases h1
            · have h1 := smy _ _ (htv5 x hx).1; rw [e, fl y hy] at h1; cases h1
        n1 := by rw [List.length_replicate]; exact n1
        n8 := by rw [List.length_replicate]; exact n8 }
    · intro u m
      simp only [foot, List.mem_cons, List.mem_append] at m
      rcases m with m | m | m | m | (m | m) | m
      · exact .inl m
      · exact .inr (f1 _ (m ▸ hpa))
      · exact .inr (f1 _ (f3 _ (m ▸ hta)))
      · exact .inr (f1 _ (f3 _ (f6 _ (m ▸ nla))))
      · exact .inr (f1 _ (hdv u m).2.1)
      · exact .inr (f1 _ (f3 _ (htv u m).2.1))
      · exact .inr (f1 _ (f3 _ (f6 _ (fl u m))))
    · exact fun u v nb h => k8 _ _ nb (sm57 _ _ (k5 _ _ nb (smt _ _ (k3 _ _ nb (smv _ _ (k1 _ _ nb h))))))
    · exact (((((lt1.trans (Same.le smv).let).trans lt3).trans (Same.le smt).let).trans lt5).trans (Same.le sm57).let).trans lt8
end
end Fl

-- after: ex.tpl
namespace Fl
open PySem PySem.Spec PyProof.Rows L2 RZ
/-! ### a def that is asked of the refusal that is handled -/
abbrev SpE := Addr × Obj → Hp → VK → Prop
/-- it answers, whatever is handled -/
structure AskE (P : Program) (w : World) (K : PySem.W.Frag) (mg : Str → Option Value) (base : Heap) (k : Nat) (f : Addr) (fd : FuncData) (x1 : Str) (g : SpE) : Prop where
  run : ∀ {A : Around} {outer : List Env} {s : Shared} {H : Hp} {args : Args} {Q : VK} {p : Addr × Obj}, L2H.RoomH k A → L2H.PinOk outer H s p → Env0 P w K mg base A outer s H → BindsTo s fd args [(x1, .ref p.1)] → g p H Q →
    codeAny (model P w) A (.call (.ref f) args) (CR (L2.CX P w) outer P w H s Q E0) s
structure HasE (P : Program) (w : World) (K : PySem.W.Frag) (mg : Str → Option Value) (base : Heap) (x x1 : Str) (k : Nat) (g : SpE) : Prop where
  ex : ∃ (f : Addr) (fd : FuncData), AskE P w K mg base k f fd x1 g ∧ mg x = some (.ref f) ∧ PySem.W.keepIn K (.ref f) = true ∧ Binds K fd [x1] []
section
variable {P : Program} {w : World} {K : PySem.W.Frag} {mg : Str → Option Value} {base : Heap} {x x1 : Str} {st : Stmt} {N : List Str} {k : Nat} {g : SpE}
theorem HasE.of (D : DefAt K mg x st [x1]) (S : FnScope N [x1] (defScope st))
    (body : ∀ (f : Addr) (cdv : Value) (A : Around) (outer : List Env) (s : Shared) (H : Hp) (Q : VK) (p : Addr × Obj), L2H.RoomH k (A.deeper (envOfC x (defScope st) s.heap.objs.size f cdv)) → g p H Q →
      ∃ t, PSs (L2H.cxH (L2.CX P w) P w K mg base N x (defScope st) f cdv A outer s H E0 p) (defBody st) t ∧ t { nx := fun _ H' => Q .non H', rt := Q } (L2.start N [.ref p.1]) H) : HasE P w K mg base x x1 (k + 1) g := by
  obtain ⟨f, fd, F, hm, hb⟩ := D.ex
  refine ⟨f, fd, ⟨?_⟩, hm, F.kp, hb⟩
  obtain ⟨oc, od, kV, doc, pm, an, cdv, ct, osl, rfl, lk, cod⟩ := F.ex
  intro A outer s H args Q p room pin around bind asked
  have inK : K.In s.heap := around.mod.kin.keeps fun b o e => (around.bs b o e).1
  have nolim : s.heap.NoLimit := around.mod.nolimit.keeps fun b o e => (around.bs b o e).1
  have kinds : ∀ z ∈ [(x1, Value.ref p.1)], (defScope st).names.lookup z.1 = some .local ∨ ((defScope st).names.lookup z.1 = some .cell ∧ ((cellsFrom (s.heap.objs.size + 1) (defScope st).names []).lookup z.1).isSome = true) := fun z hz => by
    have e : z = (x1, Value.ref p.1) := List.mem_singleton.mp hz
    subst e
    rcases S.par x1 (List.mem_singleton.mpr rfl) with c | c
    · exact .inl c
    · exact .inr ⟨c, PySem.W.cellsFrom_some _ _ _ (.inl c)⟩
  have vals : Vals [V.ref p.1] [Value.ref p.1] := .cons rfl .nil
  refine codeAny_call_function room.depth (inK _ _ lk) rfl S.co S.gen rfl (PySem.W.codeRec_of inK cod) (bind _ _ _ _ ?_)
  refine wpAny_newFunctionEnv_cells S.kind kinds fun env he s2 made => ?_
  subst he
  refine ⟨nolim.keeps made.toInCall.keep, codeAny_func ?_⟩
  obtain ⟨t, walk, asked'⟩ := body f cdv A outer s H Q p (room.deeper _) asked
  have I := L2H.inv_startH (CX := L2.CX P w) (E := E0) (vs := [V.ref p.1]) S pin around rfl vals made
  refine wpAny_mono (walk.run [] s2 _ H _ I asked') (fun fl s' ends => ?_) fun _ _ z => z
  have fin : ∀ {σ' : L2.St} {H' : Hp} {v : V} {u : Value}, Inv (L2H.cxH (L2.CX P w) P w K mg base N x (defScope st) f cdv A outer s H E0 p) [] σ' H' s' → RelV v u → Q v H' → CE outer P w H s Q u s' := fun J r q => ⟨_, _, J.os, J.bare, J.base, J.hok, r, q⟩
  cases fl with
  | ret u =>
    obtain ⟨v, σ', H', J, r, q⟩ := ends
    exact fin J r q
  | next =>
    obtain ⟨σ', H', J, q⟩ := ends
    exact fin (v := .non) (u := .none) J rfl q
  | brk =>
    obtain ⟨_, _, _, z⟩ := ends
    exact z.elim
  | cont =>
    obtain ⟨_, _, _, z⟩ := ends
    exact z.elim
end
section
variable {X : L2.Cx} {x x1 : Str} {k : Nat} {g : SpE} {q pos : Pos} {e : Expr} {t : TA} {a : Addr} {oe : Obj} {p : Addr × Obj} {D : Addr}
def tAsk (G : Hp → VK → Prop) (a : Addr) (t : TA) : TE := fun σ H Q => t σ H fun vs H1 => vs = [.ref a] ∧ G H1 Q
theorem pe_ask {G : Hp → VK → Prop} (h : HasE X.prog X.w X.K X.mg X.base x x1 k g) (hr : L2H.RoomH k X.A) (here : (a, oe) ∈ X.pn) (im : ∀ H Q, G H Q → g (a, oe) H Q) (hg : Gl X x) (ha : PA X [e] t) (hdb : (x == ("__debug__" : Str)) = false := by decide)
    (he : starEach [e] X.env = (false, eval e X.env) :: starEach [] X.env := by rfl) (hpl : (backTo pos (starEach [] X.env)).any (·.1) = false := by rfl) : PE X (.Call (.Name x q) [e] [] pos) (tAsk G a t) := by
  obtain ⟨f, fd, F, hm, hk, hb⟩ := h.ex
  refine ⟨fun pins s σ H Q I w => wpAny_Call_Name_kw (ld_glob I hg hm ?_ hdb)⟩
  refine PySem.W.callWith_K (h₀ := X.base) I.ok.mod.kin hk (thn (ha.run pos pins s σ H _ I w) fun us s2 ⟨vs, H2, J, r, ev, asked⟩ => ⟨J.kIn, ?_⟩) he hpl
  subst ev
  obtain ⟨u, eu, ru⟩ := vals1 r
  subst eu
  cases ru
  have bnd := hb s2 [.ref a] J.kIn rfl
  rw [List.append_nil] at bnd
  have P := J.pin (a, oe) (List.mem_append_left _ here)
  have pin : L2H.PinOk X.stack H2 s2 (a, oe) := ⟨P.1, P.2.1, fun hm => (List.mem_cons.mp (J.stkSub a hm)).elim P.2.2.1 P.2.2.2.1, P.2.2.2.2⟩
  refine wpAny_call (codeAny_mono (F.run (p := (a, oe)) hr pin J.env0 bnd (im _ _ asked)) fun res s' ends => ?_)
  cases res with
  | error z => exact passL pins σ H2 s2 z s' J ends
  | ok fl =>
    cases fl with
    | ret u => exact J.after ends
    | next => exact ends.elim
    | brk => exact ends.elim
    | cont => exact ends.elim
theorem roomS {j k : Nat} {A : Around} {hd : Option Value} (r : Room k A) (l : j ≤ k) : L2H.RoomH j (A.mark hd) := ⟨(r.mono l).dp, (r.mono l).un⟩
/-- isinstance, of what is handled -/
theorem ask_kind (here : p ∈ X.pn) (T : ExcC X.K D) (z : Zc (.ref D) none p.2) (fl : ∃ vs, p.2.data = .fields vs) : CallR X (.builtin "isinstance") (rIsE X.K D p.1) := by
  intro pins s σ H xs us Q I r w
  obtain ⟨c, cv, b, rfl, only, kit, q⟩ := w
  obtain ⟨u1, u2, rfl, r1, r2⟩ := vals2 r
  cases r1
  cases only _ r2
  obtain ⟨get, _⟩ := I.pin p (List.mem_append.mpr (.inl here))
  obtain ⟨vs, dat⟩ := fl
  have J : PySem.W.InstAt s.heap p.1 p.2 D none := by
    rcases p with ⟨adr, cl, dc, dt, sl⟩
    obtain ⟨z1, z2⟩ := z
    cases z1
    cases z2
    cases dat
    exact ⟨get, rfl, rfl, trivial⟩
  exact PySem.W.kia_one (PySem.W.handS_kitx_exc T.hg T.hk T.hs T.hd T.ha T.hn T.ht T.hm) I.kIn J kit (fun z => nomatch z) fun tk => ⟨.bl b, H, I.kept (t' := tk) fun _ _ z => z, rfl, q⟩
end
section
variable {P : Program} {w : World} {K : PySem.W.Frag} {mg : Str → Option Value} {base : Heap}
section
variable {σ : L2.St} {H : Hp} {Q : VK} {G : Hp → VK → Prop} {t : TA} {a : Addr}
instance : Step (tAsk G a t σ H Q) (t σ H fun vs H1 => ∃ v, vs = [v] ∧ v = .ref a ∧ G H1 Q) := ⟨fun h => by
  have e : (fun (vs : List V) (H1 : Hp) => ∃ v, vs = [v] ∧ v = .ref a ∧ G H1 Q) = fun vs H1 => vs = [.ref a] ∧ G H1 Q := by
    funext vs H1
    exact propext ⟨fun ⟨v, e1, e2, q⟩ => ⟨by rw [e1, e2], q⟩, fun ⟨e1, q⟩ => ⟨_, e1, rfl, q⟩⟩
  show t σ H _
  rw [← e]
  exact h⟩
end
/-- which of the classes it is -/
structure AlC (K : PySem.W.Frag) (D : Addr) (cs : List Addr) (bs : List Bool) : Prop where
  C : ExcC K D
  v : PySem.W.kitOne K (.ref D) (.type "ValueError") = some true
  k : ∀ (i : Nat) c b, cs[i]? = some c → bs[i]? = some b → PySem.W.kitOne K (.ref D) (.ref c) = some b
  n9 : bs.length = 9
  one : (bs.map fun b : Bool => if b = true then (1 : Int) else 0).sum = 1
theorem AlC.of {D c1 c2 c3 c4 c5 c6 c7 c8 c9 : Addr} {b1 b2 b3 b4 b5 b6 b7 b8 b9 : Bool} (C : ExcC K D) (v : PySem.W.kitOne K (.ref D) (.type "ValueError") = some true) (k1 : PySem.W.kitOne K (.ref D) (.ref c1) = some b1) (k2 : PySem.W.kitOne K (.ref D) (.ref c2) = some b2) (k3 : PySem.W.kitOne K (.ref D) (.ref c3) = some b3) (k4 : PySem.W.kitOne K (.ref D) (.ref c4) = some b4) (k5 : PySem.W.kitOne K (.ref D) (.ref c5) = some b5) (k6 : PySem.W.kitOne K (.ref D) (.ref c6) = some b6) (k7 : PySem.W.kitOne K (.ref D) (.ref c7) = some b7) (k8 : PySem.W.kitOne K (.ref D) (.ref c8) = some b8) (k9 : PySem.W.kitOne K (.ref D) (.ref c9) = some b9)
    (one : ([b1, b2, b3, b4, b5, b6, b7, b8, b9].map fun b : Bool => if b = true then (1 : Int) else 0).sum = 1) : AlC K D [c1, c2, c3, c4, c5, c6, c7, c8, c9] [b1, b2, b3, b4, b5, b6, b7, b8, b9] := ⟨C, v, (fun i c b e1 e2 => by
  match i, e1, e2 with
  | 0, e1, e2 =>
    have h1 : c1 = c := Option.some.inj e1
    have h2 : b1 = b := Option.some.inj e2
    rw [← h1, ← h2]
    exact k1
  | 1, e1, e2 =>
    have h1 : c2 = c := Option.some.inj e1
    have h2 : b2 = b := Option.some.inj e2
    rw [← h1, ← h2]
    exact k2
  | 2, e1, e2 =>
    have h1 : c3 = c := Option.some.inj e1
    have h2 : b3 = b := Option.some.inj e2
    rw [← h1, ← h2]
    exact k3
  | 3, e1, e2 =>
    have h1 : c4 = c := Option.some.inj e1
    have h2 : b4 = b := Option.some.inj e2
    rw [← h1, ← h2]
    exact k4
  | 4, e1, e2 =>
    have h1 : c5 = c := Option.some.inj e1
    have h2 : b5 = b := Option.some.inj e2
    rw [← h1, ← h2]
    exact k5
  | 5, e1, e2 =>
    have h1 : c6 = c := Option.some.inj e1
    have h2 : b6 = b := Option.some.inj e2
    rw [← h1, ← h2]
    exact k6
  | 6, e1, e2 =>
    have h1 : c7 = c := Option.some.inj e1
    have h2 : b7 = b := Option.some.inj e2
    rw [← h1, ← h2]
    exact k7
  | 7, e1, e2 =>
    have h1 : c8 = c := Option.some.inj e1
    have h2 : b8 = b := Option.some.inj e2
    rw [← h1, ← h2]
    exact k8
  | 8, e1, e2 =>
    have h1 : c9 = c := Option.some.inj e1
    have h2 : b9 = b := Option.some.inj e2
    rw [← h1, ← h2]
    exact k9
  | n + 9, e1, _ => exact absurd e1 (by simp)), rfl, one⟩
theorem isE_own {H : Hp} {Q : VK} {D a c : Addr} {b : Bool} (h : PySem.W.kitOne K (.ref D) (.ref c) = some b) (q : Q (.bl b) H) : rIsE K D a [.ref a, .ref c] H Q := ⟨.ref c, .ref c, b, rfl, fun _ r => r, h, q⟩
theorem isE_ty {H : Hp} {Q : VK} {D a : Addr} {T : String} {b : Bool} (h : PySem.W.kitOne K (.ref D) (.type T) = some b) (q : Q (.bl b) H) : rIsE K D a [.ref a, .ty T] H Q := ⟨.ty T, .type T, b, rfl, fun _ r => r, h, q⟩
theorem eq_one {H : Hp} {Q : VK} {i : Int} (h : i = 1) (q : Q (.bl true) H) : rEq (.int i) (.int 1) H Q := ⟨rfl, by rw [h]; exact q⟩
abbrev s__law_alone : Stmt := topS 72
theorem sc__law_alone : FnScope ["_law_e", "_law_many"] ["_law_e"] (defScope s__law_alone) := ⟨rfl, rfl, rfl, by decide +kernel, rfl, by decide +kernel, by decide +kernel⟩
def spA (K : PySem.W.Frag) (cs : List Addr) : SpE := fun p H Q => ∃ (D : Addr) (bs : List Bool), AlC K D cs bs ∧ Zc (.ref D) none p.2 ∧ (∃ vs, p.2.data = .fields vs) ∧ Q (.bl true) H
/-- what is asked, by the class that flew -/
def gAl (K : PySem.W.Frag) (cs : List Addr) (cls : Value) (d : Option Addr) : Hp → VK → Prop := fun H Q => (∃ (D : Addr) (bs : List Bool), cls = .ref D ∧ d = none ∧ AlC K D cs bs) ∧ Q (.bl true) H
theorem gAl_im {cs : List Addr} {cls : Value} {d : Option Addr} {a : Addr} {oe : Obj} (z : Zc cls d oe) (f : ∃ vs, oe.data = .fields vs) : ∀ H Q, gAl K cs cls d H Q → spA K cs (a, oe) H Q := by
  rintro H Q ⟨⟨D, bs, rfl, rfl, al⟩, q⟩
  exact ⟨D, bs, al, z, f, q⟩
theorem ok_law_alone {C1 C2 C3 C4 C5 C6 C7 C8 C9 : Addr} (M : Mg mg) (T_NoTable : ExcT K mg "NoTable" C1) (T_NoForm : ExcT K mg "NoForm" C2) (T_NoRule : ExcT K mg "NoRule" C3) (T_Ring : ExcT K mg "Ring" C4) (T_NoPaper : ExcT K mg "NoPaper" C5) (T_NoYear : ExcT K mg "NoYear" C6) (T_NoLine : ExcT K mg "NoLine" C7)
    (T_NoChoice : ExcT K mg "NoChoice" C8) (T_TooMany : ExcT K mg "TooMany" C9) (D : DefAt K mg "_law_alone" s__law_alone ["_law_e"]) : HasE P w K mg base "_law_alone" "_law_e" 1 (spA K [C1, C2, C3, C4, C5, C6, C7, C8, C9]) := by
  refine .of D sc__law_alone fun fa cdv A outer s0 H Q p hr h => ?_
  obtain ⟨DC, bs, al, hz, hf, q⟩ := h
  have TD := al.C
  refine ⟨_, (pss_cons (ps_set (i := 1) sc__law_alone.nd rfl (by first | exact Or.inl rfl | exact Or.inr rfl) (pe_op (k_add K rfl) (pe_op (k_add K rfl) (pe_callTy c_int (by rfl) M.int (by decide +kernel) (pa_cons (pe_callB (ask_kind (p := p) (by exact List.mem_cons_self) TD hz hf) (by rfl) M.isinstance (by decide +kernel) (pa_cons (pv 0) (pa_cons (pe_gcls (by rfl) T_NoTable.gC) pa_nil))) pa_nil)) (pe_callTy c_int (by rfl) M.int (by decide +kernel) (pa_cons (pe_callB (ask_kind (p := p) (by exact List.mem_cons_self) TD hz hf) (by rfl) M.isinstance (by decide +kernel) (pa_cons (pv 0) (pa_cons (pe_gcls (by rfl) T_NoForm.gC) pa_nil))) pa_nil))) (pe_callTy c_int (by rfl) M.int (by decide +kernel) (pa_cons (pe_callB (ask_kind (p := p) (by exact List.mem_cons_self) TD hz hf) (by rfl) M.isinstance (by decide +kernel) (pa_cons (pv 0) (pa_cons (pe_gcls (by rfl) T_NoRule.gC) pa_nil))) pa_nil))))
    (pss_cons (ps_set (i := 1) sc__law_alone.nd rfl (by first | exact Or.inl rfl | exact Or.inr rfl) (pe_op (k_add K rfl) (pe_op (k_add K rfl) (pe_op (k_add K rfl) (pv 1) (pe_callTy c_int (by rfl) M.int (by decide +kernel) (pa_cons (pe_callB (ask_kind (p := p) (by exact List.mem_cons_self) TD hz hf) (by rfl) M.isinstance (by decide +kernel) (pa_cons (pv 0) (pa_cons (pe_gcls (by rfl) T_Ring.gC) pa_nil))) pa_nil))) (pe_callTy c_int (by rfl) M.int (by decide +kernel) (pa_cons (pe_callB (ask_kind (p := p) (by exact List.mem_cons_self) TD hz hf) (by rfl) M.isinstance (by decide +kernel) (pa_cons (pv 0) (pa_cons (pe_gcls (by rfl) T_NoPaper.gC) pa_nil))) pa_nil))) (pe_callTy c_int (by rfl) M.int (by decide +kernel) (pa_cons (pe_callB (ask_kind (p := p) (by exact List.mem_cons_self) TD hz hf) (by rfl) M.isinstance (by decide +kernel) (pa_cons (pv 0) (pa_cons (pe_gcls (by rfl) T_NoYear.gC) pa_nil))) pa_nil))))
    (pss_cons (ps_set (i := 1) sc__law_alone.nd rfl (by first | exact Or.inl rfl | exact Or.inr rfl) (pe_op (k_add K rfl) (pe_op (k_add K rfl) (pe_op (k_add K rfl) (pv 1) (pe_callTy c_int (by rfl) M.int (by decide +kernel) (pa_cons (pe_callB (ask_kind (p := p) (by exact List.mem_cons_self) TD hz hf) (by rfl) M.isinstance (by decide +kernel) (pa_cons (pv 0) (pa_cons (pe_gcls (by rfl) T_NoLine.gC) pa_nil))) pa_nil))) (pe_callTy c_int (by rfl) M.int (by decide +kernel) (pa_cons (pe_callB (ask_kind (p := p) (by exact List.mem_cons_self) TD hz hf) (by rfl) M.isinstance (by decide +kernel) (pa_cons (pv 0) (pa_cons (pe_gcls (by rfl) T_NoChoice.gC) pa_nil))) pa_nil))) (pe_callTy c_int (by rfl) M.int (by decide +kernel) (pa_cons (pe_callB (ask_kind (p := p) (by exact List.mem_cons_self) TD hz hf) (by rfl) M.isinstance (by decide +kernel) (pa_cons (pv 0) (pa_cons (pe_gcls (by rfl) T_TooMany.gC) pa_nil))) pa_nil))))
    (pss_one (ps_ret (pe_and (pe_cmpR op_eq (pv 1) pe_int (nomark _)) (pe_one (pe_callB (ask_kind (p := p) (by exact List.mem_cons_self) TD hz hf) (by rfl) M.isinstance (by decide +kernel) (pa_cons (pv 0) (pa_cons (pe_bltn (v := .ty "ValueError") (by rfl) M.ValueError (by decide +kernel) rfl) pa_nil)))))))))), ?_⟩
  have n9 := al.n9
  obtain ⟨b1, b2, b3, b4, b5, b6, b7, b8, b9, rfl⟩ : ∃ b1 b2 b3 b4 b5 b6 b7 b8 b9, bs = [b1, b2, b3, b4, b5, b6, b7, b8, b9] := by
    match bs, n9 with
    | [b1, b2, b3, b4, b5, b6, b7, b8, b9], _ => exact ⟨b1, b2, b3, b4, b5, b6, b7, b8, b9, rfl⟩
  refine Fl.go_start (σ0 := [some _, none]) rfl ?_
  walk_at "s"
  refine isE_own (al.k 0 _ _ rfl rfl) ?_
  walk_at "s"
  refine isE_own (al.k 1 _ _ rfl rfl) ?_
  walk_at "s"
  refine isE_own (al.k 2 _ _ rfl rfl) ?_
  walk_at "s"
  refine isE_own (al.k 3 _ _ rfl rfl) ?_
  walk_at "s"
  refine isE_own (al.k 4 _ _ rfl rfl) ?_
  walk_at "s"
  refine isE_own (al.k 5 _ _ rfl rfl) ?_
  walk_at "s"
  refine isE_own (al.k 6 _ _ rfl rfl) ?_
  walk_at "s"
  refine isE_own (al.k 7 _ _ rfl rfl) ?_
  walk_at "s"
  refine isE_own (al.k 8 _ _ rfl rfl) ?_
  walk_at "s"
  refine eq_one (by have := al.one; simp only [List.map_cons, List.map_nil, List.sum_cons, List.sum_nil] at this; omega) ?_
  walk_at "s"
  refine isE_ty al.v ?_
  exact q
end
end Fl

-- after: mks.tpl fl4.tpl al.tpl
namespace Fl
open PySem PySem.Spec PyProof.Rows L2 RZ
def NoC (v : V) : Prop := ∃ d, (∀ H, At H d v) ∧ isWhole d 1 8 = false
theorem noc_int {i : Int} (h : ¬ (1 ≤ i ∧ i ≤ 8)) : NoC (.int i) := ⟨.int i, fun _ => rfl, by
  simp only [isWhole, Bool.and_eq_false_iff, decide_eq_false_iff_not]
  omega⟩
section
variable {P : Program} {w : World} {K : PySem.W.Frag} {mg : Str → Option Value} {base : Heap}
abbrev s__law_no_file : Stmt := topS 73
theorem sc__law_no_file : FnScope ["_law_form_here", "_law_cell", "_law_count", "_law_refused", "_law_e"] ["_law_form_here", "_law_cell"] (defScope s__law_no_file) := ⟨rfl, rfl, rfl, by decide +kernel, rfl, by decide +kernel, by decide +kernel⟩
def sp_nofile : Sp2 := fun a b H Q _ => ∃ (F : Frm) (c : Int), F.Ok 40 ∧ At H F.d a ∧ b = .int c ∧ 0 ≤ c ∧ ∀ H', Same H H' → Q (.bl true) H'
theorem ok_nofile {C CN CF : Addr} {cs bN : List _} (M : Mg mg) (T_NoForm : ExcT K mg "NoForm" CN) (T_FormError : ExcT K mg "FormError" CF) (e_NN : PySem.W.exmOne K (.ref CN) (.ref CN) = some true) (e_NF : PySem.W.exmOne K (.ref CN) (.ref CF) = some true) (AN : AlC K CN cs bN)
    (MK_File : MkF P w K mg base "File" C ["self", "form", "count"] 12 (sp3 (sp_initF C CN))) (G__law_alone : HasE P w K mg base "_law_alone" "_law_e" 1 (spA K cs)) (D : DefAt K mg "_law_no_file" s__law_no_file ["_law_form_here", "_law_cell"]) : Has P w K mg base "_law_no_file" ["_law_form_here", "_law_cell"] 14 (sp2 sp_nofile) := by
  refine .mk2 D sc__law_no_file fun fa cdv A outer s0 H a b Q E hr h => ⟨_, (pss_cons (ps_set (i := 2) sc__law_no_file.nd rfl (by first | exact Or.inl rfl | exact Or.inr rfl) (pe_ix (k_ix K rfl) (pe_lst (pa_cons pe_int (pa_cons (pe_un o_neg pe_int) (pa_cons pe_int (pa_cons pe_non (pa_cons pe_bl (pa_cons pe_str (pa_cons (pe_op (k_add K rfl) pe_int (pe_op o_mod (pe_op o_div (pv 1) pe_int) (pe_op o_pow pe_int pe_int))) pa_nil)))))))) (pe_op o_mod (pv 1) pe_int) (fun _ _ => rfl)))
    (pss_cons (ps_set (i := 3) sc__law_no_file.nd rfl (by first | exact Or.inl rfl | exact Or.inr rfl) pe_bl)
    (pss_cons (ps_try_many rfl rfl t_body (fun W pn xe tk _ => (pss_one (ps_expr (pe_makeS MK_File (hr.mono (by first | decide | omega)) (by rfl) (fun σ => passAt tk σ) (pa_cons (pv 0) (pa_cons (pv 2) pa_nil)))))) (HdsOk.cons ⟨rfl, by decide, .inl T_NoForm.gC⟩ (fun a oe cls d pn _ _ => (pss_one (ps_set (i := 3) sc__law_no_file.nd rfl (by first | exact Or.inl rfl | exact Or.inr rfl) pe_bl))) HdsOk.nil))
    (pss_cons (ps_try_as (i := 4) rfl rfl sc__law_no_file.nd rfl rfl ⟨rfl, by decide, .inl T_FormError.gC⟩ t_body (fun W pn xe tk _ => (pss_one (ps_expr (pe_makeS MK_File (hr.mono (by first | decide | omega)) (by rfl) (fun σ => passAt tk σ) (pa_cons (pv 0) (pa_cons (pv 2) pa_nil)))))) (fun a oe cls d pn hz hf => (pss_one (ps_ret (pe_and (pv 3) (pe_one (pe_ask G__law_alone (roomS hr (by first | decide | omega)) (oe := oe) (by exact List.mem_cons_self) (gAl_im hz hf) (by rfl) (pa_cons (pv 4) pa_nil))))))))
    (pss_one (ps_ret pe_bl)))))), ?_⟩
  obtain ⟨F, c, ok, hat, rfl, c0, q⟩ := h
  refine Fl.go_start (σ0 := [some _, some _, none, none, none]) rfl ?_
  walk_at "s"
  rename_i lc hlc
  have smL : Same H (upd H lc (.lst [.int 0, .int (-1), .int 9, .non, .bl true, .str "2", .int (10 + c / 7 % 10 ^ Int.toNat 9)])) := Same.new (.refl _) hlc
  generalize (upd H lc (.lst [.int 0, .int (-1), .int 9, .non, .bl true, .str "2", .int (10 + c / 7 % 10 ^ Int.toNat 9)])) = HL at *
  have m0 := Int.emod_nonneg (c / 7) (show (10 ^ Int.toNat 9 : Int) ≠ 0 by decide)
  generalize c / 7 % 10 ^ Int.toNat 9 = z at *
  refine ex_pick NoC (by omega) (by simp; omega) (fun v hv => ?_) (fun v hv => ?_)
  · simp only [List.mem_cons, List.not_mem_nil, or_false] at hv
    rcases hv with rfl | rfl | rfl | rfl | rfl | rfl | rfl
    · exact noc_int (by omega)
    · exact noc_int (by omega)
    · exact noc_int (by omega)
    · exact ⟨.none, fun _ => rfl, rfl⟩
    · exact ⟨.bool true, fun _ => rfl, rfl⟩
    · exact ⟨.str "2", fun _ => rfl, rfl⟩
    · exact noc_int (by omega)
  obtain ⟨d, hd, ew⟩ := hv
  have made : ∀ {HH : Hp} {x dx : Addr}, HH x = none → HH dx = none → Same HH (upd (upd HH dx (.own x)) x (.ins C dx [])) := fun hx hdx b u h => by
    rw [upd_ne (ne_of_none h hx), upd_ne (ne_of_none h hdx)]
    exact h
  have no : ∀ {Z : Prop} (n : Nat), d = .int n → 1 ≤ n ∧ n ≤ 8 → Z := fun {Z} n e h => by
    subst e
    simp only [isWhole, Bool.and_eq_false_iff, decide_eq_false_iff_not] at ew
    omega
  walk_at "s"
  intro a0 d0 ha0 hd0 nda
  have sm0 := L2.Same.trans smL (made ha0 hd0)
  refine ⟨_, _, _, rfl, F, a0, d0, d, ok, rfl, upd_same, hat.le (Same.le sm0), hd _, fun n en hn => no n en hn, fun _ => ?_⟩
  refine wm_yes e_NN fun ea hea => ?_
  walk_at "s"
  intro a1 d1 ha1 hd1 ndb
  have sm1 := L2.Same.trans sm0 (made ha1 hd1)
  refine ⟨_, _, _, rfl, F, a1, d1, d, ok, rfl, upd_same, hat.le (Same.le sm1), hd _, fun n en hn => no n en hn, fun _ => ?_⟩
  refine was_yes e_NF fun eb heb => ?_
  walk_at "s"
  exact ⟨rfl, ⟨_, bN, rfl, rfl, AN⟩, q _ sm1⟩
end
end Fl

-- after: k11a.tpl k11b.tpl
namespace Fl
open PySem PySem.Spec PyProof.Rows L2 RZ
/-! ### a file is filled -/
theorem set_self {α : Type} {xs : List α} {i : Nat} {x : α} (h : xs[i]? = some x) : xs.set i x = xs := by
  obtain ⟨l, e⟩ := List.getElem?_eq_some_iff.mp h
  rw [← e]
  exact List.set_getElem_self l
theorem getD_setS {α : Type} {xs : List α} {i : Nat} {x d : α} (h : i < xs.length) : (xs.set i x).getD i d = x := by
  rw [List.getD_eq_getElem?_getD, List.getElem?_set_self h]
  rfl
theorem PapOk.upto {ps : List (Str × Int)} (h : PapOk ps) (j : Nat) : PapOk (ps.take j) :=
  ⟨fun p hp => h.wd p (List.mem_of_mem_take hp), fun p hp => h.num p (List.mem_of_mem_take hp), List.Pairwise.sublist ((List.take_sublist j ps).map _) h.nd, by have := h.few; rw [List.length_take]; omega⟩
theorem papW_snoc {ps : List (Str × Int)} {j : Nat} {p : Str × Int} (nd : (ps.map (·.1)).Nodup) (e : ps[j]? = some p) : papW (ps.take j) p.1 p.2 = ps.take (j + 1) := by
  unfold papW
  rw [List.take_add_one, e]
  have : ((ps.take j).filter fun q => decide (q.1 ≠ p.1)) = ps.take j := List.filter_eq_self.mpr fun q hq => by
    rw [decide_eq_true_eq]
    intro ee
    obtain ⟨i, hi⟩ := List.mem_iff_getElem?.mp hq
    have il := (List.getElem?_eq_some_iff.mp hi).1
    rw [List.length_take] at il
    rw [List.getElem?_take_of_lt (by omega)] at hi
    have h1 : (ps.map (·.1))[i]? = some q.1 := by rw [List.getElem?_map, hi]; rfl
    have h2 : (ps.map (·.1))[j]? = some q.1 := by rw [List.getElem?_map, e, ee]; rfl
    have := (List.getElem?_inj (List.getElem?_eq_some_iff.mp h1).1 nd).mp (h1.trans h2.symm)
    omega
  rw [this]
  rfl
theorem FilV.obj {C : Addr} {H : Hp} {v : V} {F : Frm} {pss : List (List (Str × Int))} {tks : List (List Bool)} {ft : List Addr} (h : FilV C H v F pss tks ft) : ∃ a dx fv pa ta la, v = .ref a ∧ H a = some (FileO C dx fv pa ta la) := by
  obtain ⟨a, pa, ta, la, dv, tv, lv, rfl, _, f⟩ := h
  obtain ⟨dx, fv, h, _⟩ := f.obj
  exact ⟨a, dx, fv, pa, ta, la, rfl, h⟩
theorem FilV.kp {C : Addr} {H H' : Hp} {v : V} {F : Frm} {pss : List (List (Str × Int))} {tks : List (List Bool)} {ft : List Addr} (h : FilV C H v F pss tks ft) (k : ∀ b u, b ∈ ft → H b = some u → H' b = some u) (lt : LeT H H') : FilV C H' v F pss tks ft := by
  obtain ⟨a, pa, ta, la, dv, tv, lv, h1, rfl, f⟩ := h
  exact ⟨a, pa, ta, la, dv, tv, lv, h1, rfl, f.kp k lt⟩
theorem FilV.used {C : Addr} {H : Hp} {v : V} {F : Frm} {pss : List (List (Str × Int))} {tks : List (List Bool)} {ft : List Addr} (h : FilV C H v F pss tks ft) : ∀ b ∈ ft, ∃ o, H b = some o ∧ ∀ xs, o ≠ .tup xs := fun b hb => by
  obtain ⟨a, pa, ta, la, dv, tv, lv, _, rfl, f⟩ := h
  obtain ⟨dx, fv, ho, _⟩ := f.obj
  simp only [foot, List.mem_cons, List.mem_append] at hb
  rcases hb with rfl | rfl | rfl | rfl | (hb | hb) | hb
  · exact ⟨_, ho, fun xs e => by cases e⟩
  · exact ⟨_, f.hpa, fun xs e => by cases e⟩
  · exact ⟨_, f.hta, fun xs e => by cases e⟩
  · exact ⟨_, f.hla, fun xs e => by cases e⟩
  · obtain ⟨i, hi⟩ := List.mem_iff_getElem?.mp hb
    have il := (List.getElem?_eq_some_iff.mp hi).1
    obtain ⟨_, kvs, h1, _⟩ := f.dic i b (pss[i]'(by rw [← f.ld]; exact il)) hi (List.getElem?_eq_getElem _)
    exact ⟨_, h1, fun xs e => by cases e⟩
  · obtain ⟨i, hi⟩ := List.mem_iff_getElem?.mp hb
    have il := (List.getElem?_eq_some_iff.mp hi).1
    obtain ⟨_, h1⟩ := f.tk i b (tks[i]'(by rw [f.lk, ← f.lt]; exact il)) hi (List.getElem?_eq_getElem _)
    exact ⟨_, h1, fun xs e => by cases e⟩
  · obtain ⟨i, hi⟩ := List.mem_iff_getElem?.mp hb
    exact ⟨_, f.ln i b hi, fun xs e => by cases e⟩
section
variable {P : Program} {w : World} {K : PySem.W.Frag} {mg : Str → Option Value} {base : Heap}
abbrev s__law_filled : Stmt := topS 74
theorem sc__law_filled : FnScope ["_law_form_here", "_law_years", "_law_taken", "_law_file", "_law_year", "_law_pair", "_law_choice"] ["_law_form_here", "_law_years", "_law_taken"] (defScope s__law_filled) := ⟨rfl, rfl, rfl, by decide +kernel, rfl, by decide +kernel, by decide +kernel⟩
def sp_filled (C : Addr) : Sp3 := fun a b c H Q _ => ∃ (F : Frm) (y k : Addr) (yv kv : List V) (pss : List (List (Str × Int))) (tks : List (List Bool)), F.Ok 40 ∧ At H F.d a ∧ b = .ref y ∧ H y = some (.lst yv) ∧ PapsAt H yv pss ∧ c = .ref k ∧ H k = some (.tup kv) ∧ rowsT H tks kv ∧ Shp F.C pss.length tks ∧ 1 ≤ pss.length ∧ pss.length ≤ 8 ∧
  ∀ H' v ft, FilV C H' v F pss tks ft → Same H H' → (∀ b ∈ ft, H b = none) → Q v H'
theorem ok_filled {C CN CY CP CC : Addr} (M : Mg mg) (CF : ClsF K C) (MK_File : MkF P w K mg base "File" C ["self", "form", "count"] 12 (sp3 (sp_initF C CN))) (M_put : HasM P w K mg base C "put" ["self", "year", "word", "number"] 11 (sp4 (sp_putF C CY CP))) (M_take : HasM P w K mg base C "take" ["self", "year", "choice", "taken"] 11 (sp4 (sp_takeF C CY CC)))
    (D : DefAt K mg "_law_filled" s__law_filled ["_law_form_here", "_law_years", "_law_taken"]) : Has P w K mg base "_law_filled" ["_law_form_here", "_law_years", "_law_taken"] 14 (sp3 (sp_filled C)) := by
  refine .mk3 D sc__law_filled fun fa cdv A outer s0 H a b c Q E hr h => ⟨_, (pss_cons (ps_set (i := 3) sc__law_filled.nd rfl (by first | exact Or.inl rfl | exact Or.inr rfl) (pe_makeF MK_File (hr.mono (by first | decide | omega)) (by rfl) p_body (pa_cons (pv 0) (pa_cons (pe_callB (k_len K rfl) (by rfl) M.len (by decide +kernel) (pa_cons (pv 1) pa_nil)) pa_nil))))
    (pss_cons (ps_for own_p (by rfl) (pi_range1 (by rfl) M.range (pa_cons (pe_callB (k_len K rfl) (by rfl) M.len (by decide +kernel) (pa_cons (pv 1) pa_nil)) pa_nil)) (pg_name (i := 4) sc__law_filled.nd rfl (by first | exact Or.inl rfl | exact Or.inr rfl)) (pss_cons (ps_for own_p (by rfl) (k_pi K rfl (pe_ix (k_ix K rfl) (pv 1) (pv 4) (fun _ _ => rfl))) (pg_name (i := 5) sc__law_filled.nd rfl (by first | exact Or.inl rfl | exact Or.inr rfl)) (pss_one (ps_expr (pe_ownM (pv 3) CF.cls M_put (by decide +kernel) (hr.mono (by first | decide | omega)) p_body (pa_cons (pv 4) (pa_cons (pe_ix (k_ix K rfl) (pv 5) pe_int (fun _ _ => rfl)) (pa_cons (pe_ix (k_ix K rfl) (pv 5) pe_int (fun _ _ => rfl)) pa_nil)))))))
    (pss_one (ps_for own_p (by rfl) (pi_range1 (by rfl) M.range (pa_cons (pe_callB (k_len K rfl) (by rfl) M.len (by decide +kernel) (pa_cons (pe_ix (k_ix K rfl) (pv 2) (pv 4) (fun _ _ => rfl)) pa_nil)) pa_nil)) (pg_name (i := 6) sc__law_filled.nd rfl (by first | exact Or.inl rfl | exact Or.inr rfl)) (pss_one (ps_expr (pe_ownM (pv 3) CF.cls M_take (by decide +kernel) (hr.mono (by first | decide | omega)) p_body (pa_cons (pv 4) (pa_cons (pv 6) (pa_cons (pe_ix (k_ix K rfl) (pe_ix (k_ix K rfl) (pv 2) (pv 4) (fun _ _ => rfl)) (pv 6) (fun _ _ => rfl)) pa_nil))))))))))
    (pss_one (ps_ret (pv 3))))), ?_⟩
  obtain ⟨F, y, k, yv, kv, pss, tks, ok, hat, rfl, hy, hps, rfl, hk, hrow, shp, n1, n8, q⟩ := h
  have lyv := hps.len
  have lkv := hrow.1
  have ltk := shp.1
  refine Fl.go_start (σ0 := [some _, some _, some _, none, none, none, none]) rfl ?_
  walk_at "s"
  intro a0 d0 ha0 hd0 nda
  have smM : Same H (upd (upd H d0 (.own a0)) a0 (.ins C d0 [])) := fun b u h => by
    rw [upd_ne (ne_of_none h ha0), upd_ne (ne_of_none h hd0)]
    exact h
  have free0 : ∀ b, (upd (upd H d0 (.own a0)) a0 (.ins C d0 [])) b = none → H b = none := fun b hb => L2.Same.free smM hb
  have hoM : (upd (upd H d0 (.own a0)) a0 (.ins C d0 [])) a0 = some (.ins C d0 []) := upd_same
  generalize (upd (upd H d0 (.own a0)) a0 (.ins C d0 [])) = HM at *
  refine ⟨_, _, _, rfl, F, a0, d0, .int yv.length, ok, rfl, hoM, hat.le (Same.le smM), rfl, fun n en _ H3 pa ta la dv tv lv hF fr k3 lt3 => ⟨rfl, ?_⟩, fun h => ?_⟩
  · obtain rfl : yv.length = n := by have := PyData.int.inj en; omega
    have sm3 : Same H H3 := fun b u h => k3 _ _ (ne_of_none h ha0) (smM _ _ h)
    obtain ⟨ft, eft⟩ : ∃ ft, ft = foot a0 pa ta la dv tv lv := ⟨_, rfl⟩
    have hft : ∀ b ∈ ft, H b = none := fun b hb => by
      rw [eft] at hb
      rcases fr b hb with rfl | h
      · exact ha0
      · exact free0 b h
    have hV3 : FilV C H3 (.ref a0) F (filP [] pss 0) (filP (List.replicate F.C false) tks 0) ft := by
      rw [filP_zero, filP_zero, ltk, ← lyv]
      exact ⟨a0, pa, ta, la, dv, tv, lv, rfl, eft, hF⟩
    have nft : ∀ {b : Addr} {u : HO}, H b = some u → b ∉ ft := fun {b u} hb mm => by rw [hft b mm] at hb; cases hb
    clear hF fr k3 lt3 eft
    have hy3 := sm3 _ _ hy
    walk_at "s"
    rw [Int.toNat_natCast]
    refine for_rng (fun i σ' H' => ∃ (y4 y5 y6 : Option V), σ' = [some a, some (.ref y), some (.ref k), some (.ref a0), y4, y5, y6] ∧ FilV C H' (.ref a0) F (filP [] pss i) (filP (List.replicate F.C false) tks i) ft ∧ Same H H')
      ⟨_, _, _, rfl, hV3, sm3⟩ (fun i σ' H4 hi ⟨y4, y5, y6, e, hV, sm4⟩ => ?_) (fun σ' H4 ⟨y4, y5, y6, e, hV, sm4⟩ => ?_)
    · subst e
      rw [Int.zero_add]
      have hi2 : i < pss.length := by omega
      have hi3 : i < tks.length := by omega
      have hy4 := sm4 _ _ hy
      have hk4 := sm4 _ _ hk
      have ei : pss[i]? = some pss[i] := List.getElem?_eq_getElem hi2
      have et : tks[i]? = some tks[i] := List.getElem?_eq_getElem hi3
      obtain ⟨l, vs, evl, hl, hvs, pok⟩ := hps.at_ i yv[i] pss[i] (List.getElem?_eq_getElem hi) ei
      obtain ⟨kk, evk, hkk⟩ := hrow.2 i (kv[i]'(by omega)) tks[i] (List.getElem?_eq_getElem _) et
      have lk := shp.2 tks[i] (List.getElem_mem _)
      have eyl : yv[i]? = some (.ref l) := by rw [List.getElem?_eq_getElem hi, evl]
      have ekl : kv[i]? = some (.ref kk) := by rw [List.getElem?_eq_getElem (by omega), evk]
      have sP := filP_succ (d := ([] : List (Str × Int))) hi2
      have sT := filP_succ (d := List.replicate F.C false) hi3
      have gP := filP_get (d := ([] : List (Str × Int))) hi2
      have gT := filP_get (d := List.replicate F.C false) hi3
      have lP := filP_len (d := ([] : List (Str × Int))) (Nat.le_of_lt hi2)
      have lT := filP_len (d := List.replicate F.C false) (Nat.le_of_lt hi3)
      generalize pss[i] = ps at *
      generalize tks[i] = tk at *
      have lvs := hvs.length
      rw [List.length_map] at lvs
      have hl4 := sm4 _ _ hl
      walk_at "s"
      refine ex_v (atI_nat (j := i) eyl) ?_
      walk_at "s"
      refine for_lst (fun j σ' H' => ∃ (y5 y6 : Option V), σ' = [some a, some (.ref y), some (.ref k), some (.ref a0), some (.int i), y5, y6] ∧ FilV C H' (.ref a0) F ((filP [] pss i).set i (ps.take j)) (filP (List.replicate F.C false) tks i) ft ∧ Same H H')
        hl4 ⟨_, _, rfl, by rw [List.take_zero, set_self gP]; exact hV, sm4⟩ (fun j σ' H' _ ⟨_, _, _, _, sm⟩ => sm _ _ hl) (fun j x σ' H5 ex ⟨y5, y6, e, hV5, sm5⟩ => ?_) (fun σ' H5 ⟨y5, y6, e, hV5, sm5⟩ => ?_)
      · subst e
        have jl := (List.getElem?_eq_some_iff.mp ex).1
        have jp : j < ps.length := by omega
        have ej : ps[j]? = some ps[j] := List.getElem?_eq_getElem jp
        obtain ⟨x', ex', hx'⟩ := hvs.get (i := j) (d := prD ps[j]) (by rw [List.getElem?_map, ej]; rfl)
        cases ex.symm.trans ex'
        have snoc := papW_snoc pok.nd ej
        have wd := pok.wd _ (List.getElem_mem jp)
        have nm := pok.num _ (List.getElem_mem jp)
        have pokj := pok.upto (j + 1)
        generalize ps[j] = pr at *
        obtain ⟨t, u, rfl, ht, hu⟩ := At.t2 hx'
        cases (show u = .int pr.2 from hu)
        have ht5 := sm5 _ _ ht
        obtain ⟨a', dx, fv, pa', ta', la', ea', ho5⟩ := hV5.obj
        cases ea'
        have no : isWhole (.int (i : Int)) 0 ((((filP [] pss i).set i (ps.take j)).length : Int) - 1) = true := nat_whole (by rw [List.length_set, lP]; exact hi2)
        walk_at "s"
        refine ⟨F, _, _, ft, .int i, .str pr.1, .int pr.2, ok, hV5, rfl, rfl, wd.ok.ok (Nat.le_refl _), rfl, fun i' w' z' e1 _ e2 _ e3 _ => ?_, fun h => ?_, fun _ h => ?_⟩
        · obtain rfl : i = i' := by have := PyData.int.inj e1; omega
          cases e2
          cases e3
          rw [getD_setS (by rw [lP]; exact hi2), snoc, List.set_set]
          refine ⟨pokj, fun H6 p ys k6 lt6 _ _ _ hV6 => ?_⟩
          exact ⟨_, _, rfl, hV6, fun b u h => k6 _ _ (nft h) (sm5 _ _ h)⟩
        · rw [no] at h; cases h
        · rcases h with h | h
          · rw [wd.word] at h; cases h
          · rw [show isNumber (.int pr.2) = true from isWhole_of nm.1 nm.2] at h; cases h
      · subst e
        rw [lvs, List.take_length, sP] at hV5
        have hk5 := sm5 _ _ hk
        have hkk5 := sm5 _ _ hkk
        walk_at "s"
        refine ex_v (atI_nat (j := i) ekl) ?_
        walk_at "s"
        have c8 := ok.c8
        rw [List.length_map]
        refine ⟨⟨by omega, by omega⟩, ?_⟩
        rw [Int.toNat_natCast]
        refine for_rng (fun j σ' H' => ∃ (y6 : Option V), σ' = [some a, some (.ref y), some (.ref k), some (.ref a0), some (.int i), y5, y6] ∧ FilV C H' (.ref a0) F (filP [] pss (i + 1)) ((filP (List.replicate F.C false) tks i).set i (filP false tk j)) ft ∧ Same H H')
          ⟨_, rfl, by rw [filP_zero, lk, set_self gT]; exact hV5, sm5⟩ (fun j σ' H6 hj ⟨y6, e, hV6, sm6⟩ => ?_) (fun σ' H6 ⟨y6, e, hV6, sm6⟩ => ?_)
        · subst e
          rw [Int.zero_add]
          have hk6 := sm6 _ _ hk
          have hkk6 := sm6 _ _ hkk
          have ebj : (tk.map V.bl)[j]? = some (.bl tk[j]) := by rw [List.getElem?_map, List.getElem?_eq_getElem hj]; rfl
          have sB := filP_succ (d := false) hj
          obtain ⟨a', dx, fv, pa', ta', la', ea', ho6⟩ := hV6.obj
          cases ea'
          have lP1 := filP_len (d := ([] : List (Str × Int))) (xs := pss) (i := i + 1) (by omega)
          have no : isWhole (.int (i : Int)) 0 (((filP ([] : List (Str × Int)) pss (i + 1)).length : Int) - 1) = true := nat_whole (by rw [lP1]; exact hi2)
          walk_at "s"
          refine ex_v (atI_nat (j := i) ekl) ?_
          walk_at "s"
          refine ex_v (atI_nat (j := j) ebj) ?_
          walk_at "s"
          refine ⟨F, _, _, ft, .int i, .int j, tk[j], ok, hV6, rfl, rfl, rfl, fun i' j' e1 _ e2 _ => ?_, fun h => ?_, fun _ h => ?_⟩
          rotate_left
          · rw [no] at h; cases h
          · rw [nat_whole (show j < F.C by omega)] at h; cases h
          obtain rfl : i = i' := by have := PyData.int.inj e1; omega
          obtain rfl : j = j' := by have := PyData.int.inj e2; omega
          rw [getD_setS (by rw [lT]; exact hi3), sB, List.set_set]
          exact fun H7 p ys k7 lt7 _ _ _ hV7 => ⟨_, rfl, hV7, fun b u h => k7 _ _ (nft h) (sm6 _ _ h)⟩
        · subst e
          rw [filP_all, sT] at hV6
          exact ⟨_, _, _, rfl, hV6, sm6⟩
    · subst e
      walk_at "s"
      rw [show yv.length = pss.length from lyv, filP_all] at hV
      rw [show pss.length = tks.length from ltk.symm, filP_all] at hV
      exact q _ _ ft hV sm4 hft
  · rw [show isWhole (.int (yv.length : Int)) 1 8 = true from isWhole_of (by omega) (by omega)] at h
    cases h
end
end Fl

-- after: gen0.tpl k09b.tpl
-- import: KE.KeyNested
namespace Fl
open PySem PySem.Spec PyProof.Rows L2 RZ
/-! ### a dict whose keys are tuples of tuples of truths -/
def nkB (b : Bool) : NestedKey := .num (if b = true then 1 else 0)
def nkR (r : List Bool) : NestedKey := .tup (r.map nkB)
def nk (rs : List (List Bool)) : NestedKey := .tup (rs.map nkR)
theorem nkB_inj {a b : Bool} (h : nkB a = nkB b) : a = b := by
  unfold nkB at h
  injection h with h
  cases a <;> cases b <;> first | rfl | simp at h
theorem nkR_inj {a b : List Bool} (h : nkR a = nkR b) : a = b := by
  unfold nkR at h
  injection h with h
  exact (List.map_inj_right fun x y e => nkB_inj e).mp h
theorem nk_inj {a b : List (List Bool)} (h : nk a = nk b) : a = b := by
  unfold nk at h
  injection h with h
  exact (List.map_inj_right fun x y e => nkR_inj e).mp h
theorem nkR_depth (r : List Bool) : (nkR r).depth ≤ 1 := by
  have e : NestedKey.depthAll (r.map nkB) = 0 := by
    induction r with
    | nil => rfl
    | cons a t ih => rw [List.map_cons, NestedKey.depthAll, ih]; rfl
  unfold nkR
  rw [NestedKey.depth, e]
  exact Nat.le_refl _
theorem nk_depth (rs : List (List Bool)) : (nk rs).depth ≤ 8 := by
  have e : NestedKey.depthAll (rs.map nkR) ≤ 1 := by
    induction rs with
    | nil => exact Nat.zero_le _
    | cons a t ih => rw [List.map_cons, NestedKey.depthAll]; exact Nat.max_le.mpr ⟨nkR_depth a, ih⟩
  unfold nk
  rw [NestedKey.depth]
  omega
def keyD (rs : List (List Bool)) : PyData := .tuple (rs.map blD)
theorem keyD_tupO (rs : List (List Bool)) : tupOnly (keyD rs) = true := by
  have h1 : ∀ r : List Bool, tupsOnly (r.map PyData.bool) = true := fun r => tupsOnly_all fun d hd => by
    obtain ⟨b, _, rfl⟩ := List.mem_map.mp hd
    rfl
  have h2 : tupsOnly (rs.map blD) = true := tupsOnly_all fun d hd => by
    obtain ⟨r, _, rfl⟩ := List.mem_map.mp hd
    show tupOnly (.tuple (r.map PyData.bool)) = true
    simp [tupOnly, h1]
  show tupOnly (.tuple (rs.map blD)) = true
  simp [tupOnly, h2]
theorem bools_eq {H : Hp} : ∀ {r : List Bool} {vs : List V}, AtAll H (r.map PyData.bool) vs → vs = r.map V.bl
  | [], _, h => h
  | b :: r, _, ⟨v, us, e, h, t⟩ => by
    subst e
    rw [List.map_cons, ← bools_eq t]
    cases (show v = .bl b from h)
    rfl
section
variable {P : Program} {w : World} {H : Hp} {h : Heap}
theorem nestBs : ∀ {r : List Bool} {us : List Value}, Vals (r.map V.bl) us → NestedAll h (r.map nkB) us
  | [], _, q => by
    rw [List.map_nil] at q
    cases q
    exact .nil
  | b :: r, _, q => by
    rw [List.map_cons] at q
    cases q with
    | cons a t =>
      cases (show _ = Value.bool b from a)
      exact .cons (.bool rfl) (nestBs t)
theorem nestR (ok : HOk P w H h) {t : Addr} {r : List Bool} (e : H t = some (.tup (r.map V.bl))) : NestedIs h (nkR r) (.ref t) := by
  obtain ⟨_, its, rv, o, g1, g2, n, g3⟩ := (show ObjOk P w H h t (.tup (r.map V.bl)) from ok t _ e)
  exact .tup g1 g2 g3 (by simpa using nestBs rv)
theorem nestRs (ok : HOk P w H h) : ∀ {rs : List (List Bool)} {vs : List V} {us : List Value}, AtAll H (rs.map blD) vs → Vals vs us → NestedAll h (rs.map nkR) us
  | [], _, _, a, q => by
    cases (show _ = _ from a)
    cases q
    exact .nil
  | r :: rs, _, _, ⟨v, ws, e, hv, t⟩, q => by
    subst e
    obtain ⟨b, xs, rfl, hb, hx⟩ := hv
    cases bools_eq hx
    cases q with
    | cons q1 q2 =>
      cases (show _ = Value.ref b from q1)
      exact .cons (nestR ok hb) (nestRs ok t q2)
theorem key_is (ok : HOk P w H h) {rs : List (List Bool)} {q : Addr} (e : At H (keyD rs) (.ref q)) : (nestedKind P w).is h (nk rs) q := by
  obtain ⟨b, xs, eb, hb, hx⟩ := e
  cases eb
  obtain ⟨_, its, rv, o, g1, g2, n, g3⟩ := (show ObjOk P w H h q (.tup xs) from ok q _ hb)
  exact ⟨.tup g1 g2 g3 (by simpa using nestRs ok hx rv), nk_depth rs⟩
end
/-- entries: a key, where it stands, its value -/
abbrev EntN := List (List Bool) × Addr × V
def findN (kvs : List EntN) (k : List (List Bool)) : Option V := (kvs.find? fun e => decide (e.1 = k)).map (·.2.2)
def putN (kvs : List EntN) (k : List (List Bool)) (q : Addr) (v : V) : List EntN := if (findN kvs k).isSome = true then kvs.map (fun e => if e.1 = k then (e.1, e.2.1, v) else e) else kvs ++ [(k, q, v)]
theorem findN_pos {e : EntN} {r : List EntN} {k : List (List Bool)} (h : e.1 = k) : findN (e :: r) k = some e.2.2 := by simp [findN, List.find?_cons, h]
theorem findN_neg {e : EntN} {r : List EntN} {k : List (List Bool)} (h : ¬ e.1 = k) : findN (e :: r) k = findN r k := by simp [findN, List.find?_cons, h]
theorem findN_map (k j : List (List Bool)) (v : V) : ∀ kvs : List EntN, findN (kvs.map fun e => if e.1 = k then (e.1, e.2.1, v) else e) j = (findN kvs j).map fun x => if j = k then v else x
  | [] => rfl
  | e :: r => by
    have ih := findN_map k j v r
    rw [List.map_cons]
    by_cases c : e.1 = k
    · rw [if_pos c]
      by_cases c2 : e.1 = j
      · rw [findN_pos (e := (e.1, e.2.1, v)) c2, findN_pos c2, Option.map_some, if_pos (c2.symm.trans c)]
      · rw [findN_neg (e := (e.1, e.2.1, v)) c2, findN_neg c2, ih]
    · rw [if_neg c]
      by_cases c2 : e.1 = j
      · rw [findN_pos c2, findN_pos c2, Option.map_some, if_neg fun z => c (c2.trans z)]
      · rw [findN_neg c2, findN_neg c2, ih]
theorem findN_snoc (k j : List (List Bool)) (q : Addr) (v : V) : ∀ kvs : List EntN, findN kvs k = none → findN (kvs ++ [(k, q, v)]) j = if j = k then some v else findN kvs j
  | [], _ => by
    by_cases c : k = j
    · rw [if_pos c.symm, List.nil_append, findN_pos (e := (k, q, v)) c]
    · rw [if_neg fun z => c z.symm, List.nil_append, findN_neg (e := (k, q, v)) c]
  | e :: r, n => by
    have c0 : ¬ e.1 = k := fun z => by rw [findN_pos z] at n; cases n
    rw [findN_neg c0] at n
    have ih := findN_snoc k j q v r n
    rw [List.cons_append]
    by_cases c : e.1 = j
    · rw [findN_pos c, findN_pos c, if_neg fun z => c0 (c.trans z)]
    · rw [findN_neg c, findN_neg c, ih]
theorem findN_put {kvs : List EntN} {k j : List (List Bool)} {q : Addr} {v : V} : findN (putN kvs k q v) j = if j = k then some v else findN kvs j := by
  unfold putN
  by_cases c : (findN kvs k).isSome = true
  · rw [if_pos c, findN_map]
    by_cases e : j = k
    · obtain ⟨x, hx⟩ := Option.isSome_iff_exists.mp c
      rw [if_pos e, e, hx, Option.map_some, if_pos rfl]
    · rw [if_neg e]
      cases findN kvs j with
      | none => rfl
      | some x => rw [Option.map_some, if_neg e]
  · rw [if_neg c]
    refine findN_snoc k j q v kvs ?_
    cases e : findN kvs k with
    | none => rfl
    | some x => rw [e] at c; exact (c rfl).elim
theorem putN_len {kvs : List EntN} {k : List (List Bool)} {q : Addr} {v : V} : (putN kvs k q v).length ≤ kvs.length + 1 := by
  unfold putN
  split
  · rw [List.length_map]; omega
  · rw [List.length_append, List.length_singleton]; omega
abbrev NT : List EntN → List (NestedKey × Addr × Value) → Prop := Paired fun p q => nk p.1 = q.1 ∧ p.2.1 = q.2.1 ∧ RelV p.2.2 q.2.2
theorem NT.find {kvs : List EntN} {xs : List (NestedKey × Addr × Value)} (r : NT kvs xs) (k : List (List Bool)) : (findN kvs k).isSome = (atKey xs (nk k)).isSome ∧ ∀ v, findN kvs k = some v → ∃ p, atKey xs (nk k) = some p ∧ RelV v p.2 := by
  induction r with
  | nil => exact ⟨rfl, fun v e => nomatch e⟩
  | @cons p q ps qs a t ih =>
    obtain ⟨a1, a2, a3⟩ := a
    by_cases c : p.1 = k
    · have b : atKey (q :: qs) (nk k) = some q.2 := by simp [atKey, List.find?_cons, ← a1, c]
      rw [findN_pos c, b]
      exact ⟨rfl, fun v e => ⟨q.2, rfl, by cases e; exact a3⟩⟩
    · have c2 : ¬ q.1 = nk k := fun z => c (nk_inj (a1.trans z))
      have b : atKey (q :: qs) (nk k) = atKey qs (nk k) := by simp [atKey, List.find?_cons, c2]
      rw [findN_neg c, b]
      exact ih
theorem NT.over {kvs : List EntN} {xs : List (NestedKey × Addr × Value)} (r : NT kvs xs) (k : List (List Bool)) {v : V} {u : Value} (ru : RelV v u) : NT (kvs.map fun e => if e.1 = k then (e.1, e.2.1, v) else e) (xs.map (putAt (nk k) u)) := by
  induction r with
  | nil => exact .nil
  | @cons p q ps qs a t ih =>
    obtain ⟨a1, a2, a3⟩ := a
    rw [List.map_cons, List.map_cons]
    refine .cons ?_ ih
    unfold putAt
    by_cases c : p.1 = k
    · rw [if_pos c, if_pos (by rw [← a1, c])]
      exact ⟨a1, a2, ru⟩
    · rw [if_neg c, if_neg fun z => c (nk_inj (a1.trans z))]
      exact ⟨a1, a2, a3⟩
theorem NT.put {kvs : List EntN} {xs : List (NestedKey × Addr × Value)} (r : NT kvs xs) (k : List (List Bool)) {q : Addr} {v : V} {u : Value} (ru : RelV v u) : NT (putN kvs k q v) (storedH xs (nk k) q u) := by
  unfold putN storedH
  rw [(r.find k).1]
  by_cases c : (atKey xs (nk k)).isSome = true
  · rw [if_pos c, if_pos c]
    exact r.over k ru
  · rw [if_neg c, if_neg c]
    exact Paired.snoc r ⟨rfl, rfl, ru⟩
theorem NT.keys {kvs : List EntN} {xs : List (NestedKey × Addr × Value)} (r : NT kvs xs) : ∀ x ∈ xs, ∃ e ∈ kvs, nk e.1 = x.1 ∧ e.2.1 = x.2.1 := by
  induction r with
  | nil => exact fun x hx => nomatch hx
  | @cons p q ps qs a t ih =>
    intro x hx
    rcases List.mem_cons.mp hx with e | hx
    · exact ⟨p, List.mem_cons_self, by rw [e]; exact ⟨a.1, a.2.1⟩⟩
    · obtain ⟨y, hy, z⟩ := ih x hx
      exact ⟨y, List.mem_cons_of_mem _ hy, z⟩
def DnOk (P : Program) (w : World) (h : Heap) (a : Addr) (kvs : List EntN) : Prop := kvs.length ≤ 100000 ∧ ∃ xs, NT kvs xs ∧ ∃ o es ep, h.get? a = some o ∧ o.ExactDict ∧ o.data = .dict es ep ∧ es.toList = xs.map (entryOfKey (nestedKind P w)) ∧ (xs.map (·.1)).Nodup
/-- the dict at a -/
def DnO (P : Program) (w : World) (a : Addr) (kvs : List EntN) : HO := .ext fun h => DnOk P w h a kvs
def KeysAt (H : Hp) (kvs : List EntN) : Prop := ∀ e ∈ kvs, At H (keyD e.1) (.ref e.2.1)
theorem KeysAt.leT {H H' : Hp} {kvs : List EntN} (h : KeysAt H kvs) (e : LeT H H') : KeysAt H' kvs := fun x hx => (h x hx).leT e (keyD_tupO _)
theorem KeysAt.put {H : Hp} {kvs : List EntN} {k : List (List Bool)} {q : Addr} {v : V} (h : KeysAt H kvs) (hk : At H (keyD k) (.ref q)) : KeysAt H (putN kvs k q v) := fun x hx => by
  unfold putN at hx
  split at hx
  · obtain ⟨y, hy, rfl⟩ := List.mem_map.mp hx
    split
    · exact h y hy
    · exact h y hy
  · rcases List.mem_append.mp hx with hx | hx
    · exact h x hx
    · rw [List.mem_singleton.mp hx]
      exact hk
section
variable {P : Program} {w : World} {H : Hp} {h : Heap} {a : Addr} {kvs : List EntN}
theorem dn_mk (e : DnOk P w h a kvs) : ObjOk P w H h a (DnO P w a kvs) := by
  refine ⟨e, ?_, fun h1 h2 p k => ?_⟩
  · obtain ⟨_, _, _, o, _, _, g, _⟩ := e
    exact ⟨o, g⟩
  · obtain ⟨l, xs, r, o, es, ep, g, rest⟩ := p
    exact ⟨l, xs, r, o, es, ep, k o g, rest⟩
theorem dn_of (ok : HOk P w H h) (e : H a = some (DnO P w a kvs)) (ks : KeysAt H kvs) : kvs.length ≤ 100000 ∧ ∃ xs, NT kvs xs ∧ h.DictOfH (nestedKind P w) a xs := by
  obtain ⟨⟨l, xs, r, o, es, ep, g1, g2, g3, g4, g5⟩, _⟩ := (show ObjOk P w H h a (DnO P w a kvs) from ok a _ e)
  refine ⟨l, xs, r, o, es, ep, g1, g2, g3, g4, fun x hx => ?_, g5⟩
  obtain ⟨y, hy, e1, e2⟩ := r.keys x hx
  rw [← e1, ← e2]
  exact key_is ok (ks y hy)
end
def tDNewN (P : Program) (w : World) : TE := fun _ H Q => ∀ p, H p = none → Q (.ref p) (upd H p (DnO P w p []))
def tNGet (P : Program) (w : World) (td ty : TE) : TE := fun σ H Q => td σ H fun x H1 => ty σ H1 fun y H2 => ∃ a, x = .ref a ∧ ∃ kvs q k v, H2 a = some (DnO P w a kvs) ∧ KeysAt H2 kvs ∧ y = .ref q ∧ At H2 (keyD k) (.ref q) ∧ findN kvs k = some v ∧ Q v H2
def sNPut (P : Program) (w : World) (td ty tv : TE) : TS := fun D σ H => tv σ H fun v H1 => td σ H1 fun x H2 => ty σ H2 fun y H3 => ∃ a, x = .ref a ∧ ∃ kvs q k, H3 a = some (DnO P w a kvs) ∧ KeysAt H3 kvs ∧ y = .ref q ∧ At H3 (keyD k) (.ref q) ∧ kvs.length < 1000 ∧ D.nx σ (upd H3 a (DnO P w a (putN kvs k q v)))
section
variable {P : Program} {w : World} {σ : L2.St} {H : Hp} {Q : VK} {td ty tv : TE} {nx bk ct : L2.St → Hp → Prop} {rt : VK}
instance : Step (tDNewN P w σ H Q) (∀ p, H p = none → Q (.ref p) (upd H p (DnO P w p []))) := ⟨fun h => h⟩
instance : Step (tNGet P w td ty σ H Q) (td σ H fun x H1 => ty σ H1 fun y H2 => ∃ a, x = .ref a ∧ ∃ kvs q k v, H2 a = some (DnO P w a kvs) ∧ KeysAt H2 kvs ∧ y = .ref q ∧ At H2 (keyD k) (.ref q) ∧ findN kvs k = some v ∧ Q v H2) := ⟨fun h => h⟩
instance : Step (sNPut P w td ty tv ⟨nx, rt, bk, ct⟩ σ H) (tv σ H fun v H1 => td σ H1 fun x H2 => ty σ H2 fun y H3 => ∃ a, x = .ref a ∧ ∃ kvs q k, H3 a = some (DnO P w a kvs) ∧ KeysAt H3 kvs ∧ y = .ref q ∧ At H3 (keyD k) (.ref q) ∧ kvs.length < 1000 ∧ nx σ (upd H3 a (DnO P w a (putN kvs k q v)))) := ⟨fun h => h⟩
end
section
variable {X : L2.Cx} {o i value : Expr} {pos pos' : Pos} {td ty tv : TE}
theorem pe_dnewN : PE X (.Dict [] [] pos) (tDNewN X.prog X.w) := by
  refine ⟨fun pins s σ H Q I q => ?_⟩
  have new : ObjOk X.prog X.w (upd H s.heap.objs.size (DnO X.prog X.w s.heap.objs.size [])) (s.heap.push { cls := .type "dict", data := .dict #[] }) s.heap.objs.size (DnO X.prog X.w s.heap.objs.size []) :=
    dn_mk ⟨Nat.zero_le _, [], .nil, _, #[], 0, Heap.get?_push_size _ rfl, ⟨rfl, rfl, rfl⟩, rfl, rfl, .nil⟩
  have lay := I.laid (t' := s.toks) (fun _ _ e => Heap.get?_push_of_some _ e) (Nat.le_refl _) new
  exact wpAny_Dict_empty ⟨.ref s.heap.objs.size, _, lay, rfl, q _ (I.hok.fresh (Nat.le_refl _))⟩
theorem pe_nget (hu : X.A.units + 65 < cLine) (ho : PE X o td) (hi : PE X i ty) (hs : NoSl i) : PE X (.Subscript o i pos) (tNGet X.prog X.w td ty) := by
  refine ⟨fun pins s σ H Q I q0 => ?_⟩
  refine subD_of PySem.F.slot_dict_getitem.lookup hs (thn (ho.run pins s σ H _ I q0) fun u s1 ⟨x, H1, I1, rx, q1⟩ => thn (hi.run pins s1 σ H1 _ I1 q1) fun iv s2 ⟨y, H2, I2, ry, a, ex, kvs, q, k, v, ea, ka, ey, ek, fv, q2⟩ => ?_)
  subst ex ey
  obtain rfl : u = Value.ref a := rx
  obtain rfl : iv = Value.ref q := ry
  obtain ⟨_, xs, rel, dd⟩ := dn_of I2.hok ea ka
  obtain ⟨p, hp, rv⟩ := (rel.find k).2 v fv
  have room : (nestedKind X.prog X.w).room X.A.in1 := by show X.A.units + 1 + 8 < cLine; omega
  exact ⟨dd.typeIs, wpAny_getItem_heap room (key_is I2.hok ek) dd hp ⟨v, H2, I2.tok _, rv, q2⟩⟩
theorem ps_nput (hu : X.A.units + 65 < cLine) (ho : PE X o td) (hi : PE X i ty) (hv : PE X value tv) (hs : swapsWith value (some (.Subscript o i pos')) pos.line X.env = pure false) :
    PS X (.Assign [.Subscript o i pos'] value pos) (sNPut X.prog X.w td ty tv) := by
  refine ⟨fun pins s σ H D I q0 => ?_⟩
  refine wpAny_Assign_Subscript (thn (hv.run pins s σ H _ I q0) fun r s1 ⟨v, H1, I1, rv, q1⟩ => thn (ho.run pins s1 σ H1 _ I1 q1) fun u s2 ⟨x, H2, I2, rx, q2⟩ => thn (hi.run pins s2 σ H2 _ I2 q2) fun iv s3 ⟨y, H3, I3, ry, a, ex, kvs, q, k, ea, ka, ey, ek, few, q3⟩ => ?_) hs
  subst ex ey
  obtain rfl : u = Value.ref a := rx
  obtain rfl : iv = Value.ref q := ry
  obtain ⟨_, xs, rel, dd⟩ := dn_of I3.hok ea ka
  have lx := Paired.length rel
  have hz : xs.length ≤ sizeLine := by rw [sizeLine_eq]; omega
  have room : (nestedKind X.prog X.w).room X.A.in1 := by show X.A.units + 1 + 8 < cLine; omega
  refine wpAny_setItem_heap (hsz := hz) room (key_is I3.hok ek) dd fun h' dd' hs' => ⟨σ, _, ?_, q3⟩
  obtain ⟨b, es, ep, g1, g2, g3, g4, _, g5⟩ := dd'
  have few2 := putN_len (kvs := kvs) (k := k) (q := q) (v := v)
  exact d_write I3 (by rw [ea]; exact True.intro) hs' ⟨b, g1⟩ (dn_mk ⟨by omega, _, rel.put k rv, b, es, ep, g1, g2, g3, g4, g5⟩)
end
end Fl

-- after: k11a.tpl dn.tpl
namespace Fl
open PySem PySem.Spec PyProof.Rows L2 RZ
/-! ### one choice turned -/
def turn (tks : List (List Bool)) (i j : Nat) : List (List Bool) := tks.set i ((tks.getD i []).set j (!((tks.getD i []).getD j false)))
theorem turn_shp {C n i j : Nat} {tks : List (List Bool)} (h : Shp C n tks) : Shp C n (turn tks i j) := by
  refine ⟨by unfold turn; rw [List.length_set]; exact h.1, fun r hr => ?_⟩
  unfold turn at hr
  obtain ⟨m, hm⟩ := List.mem_iff_getElem?.mp hr
  rcases get_set hm with ⟨e1, e2⟩ | ⟨_, e2⟩
  · have ml := (List.getElem?_eq_some_iff.mp hm).1
    rw [List.length_set] at ml
    rw [← e2, List.length_set, List.getD_eq_getElem?_getD, List.getElem?_eq_getElem (by omega)]
    exact h.2 _ (List.getElem_mem _)
  · exact h.2 r (List.mem_of_getElem? e2)
section
variable {P : Program} {w : World} {K : PySem.W.Frag} {mg : Str → Option Value} {base : Heap}
abbrev s__law_turned : Stmt := topS 75
theorem sc__law_turned : FnScope ["_law_taken", "_law_year", "_law_choice", "_law_row"] ["_law_taken", "_law_year", "_law_choice"] (defScope s__law_turned) := ⟨rfl, rfl, rfl, by decide +kernel, rfl, by decide +kernel, by decide +kernel⟩
def sp_turned : Sp3 := fun a b c H Q _ => ∃ (k : Addr) (kv : List V) (C n i j : Nat) (tks : List (List Bool)), a = .ref k ∧ H k = some (.tup kv) ∧ rowsT H tks kv ∧ Shp C n tks ∧ n ≤ 20 ∧ C ≤ 8 ∧ b = .int i ∧ i < n ∧ c = .int j ∧ j < C ∧ ∀ q H', Same H H' → At H' (keyD (turn tks i j)) (.ref q) → Q (.ref q) H'
theorem ok_turned (M : Mg mg) (D : DefAt K mg "_law_turned" s__law_turned ["_law_taken", "_law_year", "_law_choice"]) : Has P w K mg base "_law_turned" ["_law_taken", "_law_year", "_law_choice"] 1 (sp3 sp_turned) := by
  refine .mk3 D sc__law_turned fun fa cdv A outer s0 H a b c Q E hr h => ⟨_, (pss_cons (ps_set (i := 3) sc__law_turned.nd rfl (by first | exact Or.inl rfl | exact Or.inr rfl) (pe_callTy (k_list K rfl) (by rfl) M.list (by decide +kernel) (pa_cons (pe_ix (k_ix K rfl) (pv 0) (pv 1) (fun _ _ => rfl)) pa_nil)))
    (pss_cons (ps_asg (pe_not (pe_ix (k_ix K rfl) (pv 3) (pv 2) (fun _ _ => rfl))) (pg_sub (pv 3) (pv 2) set_list))
    (pss_one (ps_ret (pe_op (k_add K rfl) (pe_op (k_add K rfl) (pe_slice (k_sl K rfl) (pv 0) po_none (po_some (pv 1))) (pe_tup (pa_cons (pe_callTy (k_tuple K rfl) (by rfl) M.tuple (by decide +kernel) (pa_cons (pv 3) pa_nil)) pa_nil))) (pe_slice (k_sl K rfl) (pv 0) (po_some (pe_op (k_add K rfl) (pv 1) pe_int)) po_none)))))), ?_⟩
  obtain ⟨k, kv, C, n, i, j, tks, rfl, hk, hrow, shp, n20, c8, rfl, il, rfl, jl, q⟩ := h
  have lkv := hrow.1
  have ltk := shp.1
  have hi3 : i < tks.length := by omega
  have et : tks[i]? = some tks[i] := List.getElem?_eq_getElem hi3
  obtain ⟨kk, evk, hkk⟩ := hrow.2 i (kv[i]'(by omega)) tks[i] (List.getElem?_eq_getElem _) et
  have ekl : kv[i]? = some (.ref kk) := by rw [List.getElem?_eq_getElem (by omega), evk]
  have lk := shp.2 tks[i] (List.getElem_mem _)
  have etd : tks.getD i [] = tks[i] := by rw [List.getD_eq_getElem?_getD, et]; rfl
  generalize tks[i] = tk at *
  have hj : j < tk.length := by omega
  have ebj : (tk.map V.bl)[j]? = some (.bl tk[j]) := by rw [List.getElem?_map, List.getElem?_eq_getElem hj]; rfl
  have ebd : tk.getD j false = tk[j] := by rw [List.getD_eq_getElem?_getD, List.getElem?_eq_getElem hj]; rfl
  refine Fl.go_start (σ0 := [some _, some _, some _, none]) rfl ?_
  walk_at "s"
  refine ex_v (atI_nat (j := i) ekl) ?_
  walk_at "s"
  rename_i row hrw
  refine ⟨_, atI_nat (j := j) ebj, _, rfl, ?_⟩
  walk_at "s"
  refine ex_j (ixN_nat (by rw [List.length_map]; exact hj)) ?_
  have smR : Same H (upd (upd H row (.lst (tk.map V.bl))) row (.lst ((tk.map V.bl).set j (.bl (!tk[j]))))) := fun b u h => by
    rw [upd_ne (ne_of_none h hrw), upd_ne (ne_of_none h hrw)]
    exact h
  have hR : (upd (upd H row (.lst (tk.map V.bl))) row (.lst ((tk.map V.bl).set j (.bl (!tk[j]))))) row = some (.lst ((tk.set j (!tk[j])).map V.bl)) := by rw [upd_same, List.map_set]
  generalize (upd (upd H row (.lst (tk.map V.bl))) row (.lst ((tk.map V.bl).set j (.bl (!tk[j]))))) = HR at *
  have hkR := smR _ _ hk
  walk_at "s"
  rename_i ta Ha sma hta tb Hb smb htb p1 hp1
  rw [cut_to] at hta ⊢
  refine ⟨small_of (by rw [List.length_take, List.length_singleton]; omega), ?_⟩
  have smP : Same Hb (upd Hb p1 (.tup [.ref tb])) := Same.new (.refl _) hp1
  have hpP : (upd Hb p1 (.tup [.ref tb])) p1 = some (.tup [.ref tb]) := upd_same
  generalize upd Hb p1 (.tup [.ref tb]) = HP at *
  have smRP := L2.Same.trans sma (L2.Same.trans smb smP)
  refine in_same fun tc Hc smc htc => ?_
  have hkc := smc _ _ (smRP _ _ hkR)
  walk_at "s"
  rename_i td Hd smd htd
  rw [cut_from1] at htd ⊢
  refine ⟨small_of (by rw [List.length_append, List.length_take, List.length_singleton, List.length_drop]; omega), ?_⟩
  refine in_same fun te He sme hte => ?_
  have smAll := L2.Same.trans smR (L2.Same.trans smRP (L2.Same.trans smc (L2.Same.trans smd sme)))
  have htbE := sme _ _ (smd _ _ (smc _ _ (smP _ _ htb)))
  refine q te He smAll ⟨te, _, rfl, hte, ?_⟩
  have ikv : i < kv.length := by omega
  rw [List.append_assoc, show kv.take i ++ ([V.ref tb] ++ kv.drop (i + 1)) = kv.set i (.ref tb) by rw [← List.append_assoc]; exact set_cut ikv]
  unfold turn
  rw [etd, ebd, List.map_set]
  exact (hrow.atAll.le (Same.le smAll)).set (at_blD htbE)
end
end Fl

-- after: k11c.tpl k11d.tpl fo3.tpl pt.tpl
namespace Fl
open PySem PySem.Spec PyProof.Rows L2 RZ
theorem chgP_comm {o n : Nat → List Int} {N : Nat} : ∀ c, chgP o n N c = chgP n o N c
  | 0 => rfl
  | c + 1 => by
    rw [chgP, chgP, chgP_comm c]
    congr 2
    exact List.filter_congr fun k _ => by simp only [decide_eq_decide]; exact ne_comm
theorem turn_set {tks : List (List Bool)} {i j : Nat} {tk : List Bool} (et : tks[i]? = some tk) (hj : j < tk.length) : tks.set i ((tks.getD i []).set j (!tk[j])) = turn tks i j := by
  unfold turn
  rw [List.getD_eq_getElem?_getD, et, Option.getD_some, List.getD_eq_getElem?_getD, List.getElem?_eq_getElem hj, Option.getD_some]
theorem turn_back {tks : List (List Bool)} {i j : Nat} {tk : List Bool} (et : tks[i]? = some tk) (hj : j < tk.length) : (turn tks i j).set i (((turn tks i j).getD i []).set j tk[j]) = tks := by
  rw [← turn_set et hj, List.getD_eq_getElem?_getD (l := tks), et, Option.getD_some, List.getD_eq_getElem?_getD, List.getElem?_set_self (List.getElem?_eq_some_iff.mp et).1, Option.getD_some, List.set_set, List.set_set, set_self (List.getElem?_eq_getElem hj), set_self et]
theorem rowsT.of {H : Hp} {rs : List (List Bool)} {vs : List V} (h : AtAll H (rs.map blD) vs) : rowsT H rs vs := by
  refine ⟨by have := h.length; rwa [List.length_map] at this, fun i v r e1 e2 => ?_⟩
  obtain ⟨d, ed, hd⟩ := h.ix e1
  rw [List.getElem?_map, e2] at ed
  cases ed
  obtain ⟨t, us, rfl, ht, hx⟩ := hd
  exact ⟨t, rfl, by rw [ht, bools_eq hx]⟩
theorem ent_at {H : Hp} {e : Ent} {v : V} (h : At H (entD e) v) : ∃ t q, v = .ref t ∧ H t = some (.tup [.ref q, .int e.2]) ∧ At H (keyD e.1) (.ref q) := by
  obtain ⟨t, us, rfl, ht, u0, r0, rfl, h0, u1, r1, rfl, h1, h2⟩ := h
  cases (show r1 = [] from h2)
  cases (show u1 = .int e.2 from h1)
  obtain ⟨q, xs, rfl, hq⟩ := id h0
  exact ⟨t, q, rfl, ht, h0⟩
section
variable {P : Program} {w : World} {K : PySem.W.Frag} {mg : Str → Option Value} {base : Heap}
abbrev s_law : Stmt := topS 76
theorem sc_law : FnScope ["_law_script", "_law_parts", "_law_form_here", "_law_cell", "_law_state", "_law_count", "_law_years", "_law_found", "_law_listed", "_law_pair", "_law_file", "_law_year", "_law_choice", "_law_changed", "_law_total"] ["_law_script"] (defScope s_law) := ⟨rfl, rfl, rfl, by decide +kernel, rfl, by decide +kernel, by decide +kernel⟩
def sp_law (K : PySem.W.Frag) : Sp1 := fun a H Q _ => ∃ (sc : Addr) (ns : List Int), a = .ref sc ∧ Scr K H sc ns ∧ ∀ H', Q (.bl true) H'
theorem ok_law {C CY CP CC CT : Addr} (M : Mg mg) (CF : ClsF K C) (G__law_cell_at : Has P w K mg base "_law_cell_at" ["_law_script", "_law_k"] 1 (sp2 (sp_cell_at K))) (G__law_mixed : Has P w K mg base "_law_mixed" ["_law_cell", "_law_k"] 1 (sp2 sp_mixed)) (G__law_next : Has P w K mg base "_law_next" ["_law_state", "_law_size"] 1 (sp2 sp_next))
    (G__law_form : Has P w K mg base "_law_form" ["_law_script", "_law_most"] 12 (sp2 (sp_form K))) (G__law_papers : Has P w K mg base "_law_papers" ["_law_state", "_law_words_here"] 3 (sp2 sp_law_papers)) (G_form_of : Has P w K mg base "form_of" ["lines", "tables", "choices", "owed"] 5 (sp4 sp_form_of)) (G_sums : Has P w K mg base "sums" ["form", "years"] 13 (sp2 (sp_sumsX CT CP))) (G_least : Has P w K mg base "least" ["form", "years"] 14 (sp2 (sp_leastX CT CP)))
    (G__law_no_file : Has P w K mg base "_law_no_file" ["_law_form_here", "_law_cell"] 14 (sp2 sp_nofile)) (G__law_filled : Has P w K mg base "_law_filled" ["_law_form_here", "_law_years", "_law_taken"] 14 (sp3 (sp_filled C))) (G__law_turned : Has P w K mg base "_law_turned" ["_law_taken", "_law_year", "_law_choice"] 1 (sp3 sp_turned))
    (M_take : HasM P w K mg base C "take" ["self", "year", "choice", "taken"] 11 (sp4 (sp_takeF C CY CC))) (M_owed : HasM P w K mg base C "owed" ["self"] 2 (sp1 (sp_owedF C)))
    (f : Addr) (cdv : Value) (A : Around) (outer : List Env) (s : Shared) (H : Hp) (a : V) (Q : VK) (E : XK) (hr : RoomOf 14 "law" s_law f cdv A s) (h : sp_law K a H Q E) : Body P w K mg base ["_law_script", "_law_parts", "_law_form_here", "_law_cell", "_law_state", "_law_count", "_law_years", "_law_found", "_law_listed", "_law_pair", "_law_file", "_law_year", "_law_choice", "_law_changed", "_law_total"] "law" s_law f cdv A outer s H [a] Q E := by
  refine ⟨_, (pss_cons (ps_set (i := 1) sc_law.nd rfl (by first | exact Or.inl rfl | exact Or.inr rfl) (pe_own G__law_form (hr.mono (by first | decide | omega)) (by rfl) p_body (pa_cons (pv 0) (pa_cons pe_int pa_nil))))
    (pss_cons (ps_set (i := 2) sc_law.nd rfl (by first | exact Or.inl rfl | exact Or.inr rfl) (pe_own G_form_of (hr.mono (by first | decide | omega)) (by rfl) p_body (pa_cons (pe_ix (k_ix K rfl) (pv 1) pe_int (fun _ _ => rfl)) (pa_cons (pe_ix (k_ix K rfl) (pv 1) pe_int (fun _ _ => rfl)) (pa_cons (pe_ix (k_ix K rfl) (pv 1) pe_int (fun _ _ => rfl)) (pa_cons (pe_ix (k_ix K rfl) (pv 1) pe_int (fun _ _ => rfl)) pa_nil))))))
    (pss_cons (ps_set (i := 3) sc_law.nd rfl (by first | exact Or.inl rfl | exact Or.inr rfl) (pe_own G__law_mixed (hr.mono (by first | decide | omega)) (by rfl) p_body (pa_cons (pe_own G__law_cell_at (hr.mono (by first | decide | omega)) (by rfl) p_body (pa_cons (pv 0) (pa_cons pe_int pa_nil))) (pa_cons pe_int pa_nil))))
    (pss_cons (ps_set (i := 4) sc_law.nd rfl (by first | exact Or.inl rfl | exact Or.inr rfl) (pe_lst (pa_cons (pv 3) pa_nil)))
    (pss_cons (ps_if (pt_not (pt_val (pe_own G__law_no_file (hr.mono (by first | decide | omega)) (by rfl) p_body (pa_cons (pv 2) (pa_cons (pv 3) pa_nil))))) (pss_one (ps_ret pe_bl)) pss_nil)
    (pss_cons (ps_set (i := 5) sc_law.nd rfl (by first | exact Or.inl rfl | exact Or.inr rfl) (pe_op (k_add K rfl) pe_int (pe_own G__law_next (hr.mono (by first | decide | omega)) (by rfl) p_body (pa_cons (pv 4) (pa_cons pe_int pa_nil)))))
    (pss_meet (ps_if (pt_cmpR o_gt (pe_op o_mul (pe_ix (k_ix K rfl) (pv 1) pe_int (fun _ _ => rfl)) (pv 5)) pe_int (nomark _)) (pss_one (ps_set (i := 5) sc_law.nd rfl (by first | exact Or.inl rfl | exact Or.inr rfl) pe_int)) pss_nil)
    (pss_cons (ps_setLc (i := 6) (own := [("_law_year", 11)]) (g := gName 11) (by rfl) sc_law.nd rfl rfl (sw_true rfl rfl rfl (by decide +kernel)) (pi_range1 (by rfl) M.range (pa_cons (pv 5) pa_nil)) (blkOk_by (N := ["_law_script", "_law_parts", "_law_form_here", "_law_cell", "_law_state", "_law_count", "_law_years", "_law_found", "_law_listed", "_law_pair", "_law_file", "_law_year", "_law_choice", "_law_changed", "_law_total"]) (sc := (defScope s_law)) (own := [("_law_year", 11)]) (by decide +kernel)) (fun _ _ _ _ _ => (pg_name (i := 11) sc_law.nd rfl (by first | exact Or.inl rfl | exact Or.inr rfl))) (fun _ _ _ _ _ => pts_nil) (fun _ _ _ _ _ => (pe_own G__law_papers (hr.mono (by first | decide | omega)) (by rfl) passL (pa_cons (pv 4) (pa_cons (pe_ix (k_ix K rfl) (pv 1) pe_int (fun _ _ => rfl)) pa_nil)))))
    (pss_cons (ps_set (i := 7) sc_law.nd rfl (by first | exact Or.inl rfl | exact Or.inr rfl) (pe_own G_least (hr.mono (by first | decide | omega)) (by rfl) p_body (pa_cons (pv 2) (pa_cons (pv 6) pa_nil))))
    (pss_cons (ps_set (i := 8) sc_law.nd rfl (by first | exact Or.inl rfl | exact Or.inr rfl) pe_dnewN)
    (pss_cons (ps_for own_p (by rfl) (k_pi K rfl (pe_own G_sums (hr.mono (by first | decide | omega)) (by rfl) p_body (pa_cons (pv 2) (pa_cons (pv 6) pa_nil)))) (pg_name (i := 9) sc_law.nd rfl (by first | exact Or.inl rfl | exact Or.inr rfl)) (pss_one (ps_nput (Fl.Room.units65 hr) (pv 8) (pe_ix (k_ix K rfl) (pv 9) pe_int (fun _ _ => rfl)) (pe_ix (k_ix K rfl) (pv 9) pe_int (fun _ _ => rfl)) rfl)))
    (pss_cons (ps_set (i := 10) sc_law.nd rfl (by first | exact Or.inl rfl | exact Or.inr rfl) (pe_own G__law_filled (hr.mono (by first | decide | omega)) (by rfl) p_body (pa_cons (pv 2) (pa_cons (pv 6) (pa_cons (pe_ix (k_ix K rfl) (pv 7) pe_int (fun _ _ => rfl)) pa_nil)))))
    (pss_cons (ps_if (PW.pt (pw_or (pt_cmpR (k_ne K rfl hr) (pe_ownM0 (pv 10) CF.cls M_owed (by decide +kernel) (hr.mono (by first | decide | omega)) p_body) (pe_ix (k_ix K rfl) (pv 7) pe_int (fun _ _ => rfl)) (nomark _)) (pw_or1 (pt_cmpR (k_ne K rfl hr) (pe_nget (Fl.Room.units65 hr) (pv 8) (pe_ix (k_ix K rfl) (pv 7) pe_int (fun _ _ => rfl)) (fun _ _ => rfl)) (pe_ix (k_ix K rfl) (pv 7) pe_int (fun _ _ => rfl)) (nomark _))))) (pss_one (ps_ret pe_bl)) pss_nil)
    (pss_cons (ps_for own_p (by rfl) (pi_range1 (by rfl) M.range (pa_cons (pv 5) pa_nil)) (pg_name (i := 11) sc_law.nd rfl (by first | exact Or.inl rfl | exact Or.inr rfl)) (pss_one (ps_for own_p (by rfl) (pi_range1 (by rfl) M.range (pa_cons (pe_ix (k_ix K rfl) (pv 1) pe_int (fun _ _ => rfl)) pa_nil)) (pg_name (i := 12) sc_law.nd rfl (by first | exact Or.inl rfl | exact Or.inr rfl)) (pss_cons (ps_set (i := 13) sc_law.nd rfl (by first | exact Or.inl rfl | exact Or.inr rfl) (pe_ownM (pv 10) CF.cls M_take (by decide +kernel) (hr.mono (by first | decide | omega)) p_body (pa_cons (pv 11) (pa_cons (pv 12) (pa_cons (pe_not (pe_ix (k_ix K rfl) (pe_ix (k_ix K rfl) (pe_ix (k_ix K rfl) (pv 7) pe_int (fun _ _ => rfl)) (pv 11) (fun _ _ => rfl)) (pv 12) (fun _ _ => rfl))) pa_nil)))))
    (pss_cons (ps_set (i := 14) sc_law.nd rfl (by first | exact Or.inl rfl | exact Or.inr rfl) (pe_ownM0 (pv 10) CF.cls M_owed (by decide +kernel) (hr.mono (by first | decide | omega)) p_body))
    (pss_cons (ps_if (PW.pt (pw_or (pt_cmpR o_lt (pv 14) (pe_ix (k_ix K rfl) (pv 7) pe_int (fun _ _ => rfl)) (nomark _)) (pw_or1 (pt_cmpR (k_ne K rfl hr) (pv 14) (pe_nget (Fl.Room.units65 hr) (pv 8) (pe_own G__law_turned (hr.mono (by first | decide | omega)) (by rfl) p_body (pa_cons (pe_ix (k_ix K rfl) (pv 7) pe_int (fun _ _ => rfl)) (pa_cons (pv 11) (pa_cons (pv 12) pa_nil)))) (fun _ _ => rfl)) (nomark _))))) (pss_one (ps_ret pe_bl)) pss_nil)
    (pss_one (ps_if (PW.pt (pw_or (pt_cmpR (k_ne K rfl hr) (pe_ownM (pv 10) CF.cls M_take (by decide +kernel) (hr.mono (by first | decide | omega)) p_body (pa_cons (pv 11) (pa_cons (pv 12) (pa_cons (pe_ix (k_ix K rfl) (pe_ix (k_ix K rfl) (pe_ix (k_ix K rfl) (pv 7) pe_int (fun _ _ => rfl)) (pv 11) (fun _ _ => rfl)) (pv 12) (fun _ _ => rfl)) pa_nil)))) (pv 13) (nomark _)) (pw_or1 (pt_cmpR (k_ne K rfl hr) (pe_ownM0 (pv 10) CF.cls M_owed (by decide +kernel) (hr.mono (by first | decide | omega)) p_body) (pe_ix (k_ix K rfl) (pv 7) pe_int (fun _ _ => rfl)) (nomark _))))) (pss_one (ps_ret pe_bl)) pss_nil))))))))
    (pss_one (ps_ret pe_bl)))))))))))))))), ?_⟩
  obtain ⟨sc, ns, rfl, hS, q⟩ := h
  refine Fl.go_start (σ0 := [some _, none, none, none, none, none, none, none, none, none, none, none, none, none, none]) rfl ?_
  walk_at "s"
  refine ⟨sc, ns, 7, rfl, hS, rfl, ⟨by decide, by decide⟩, fun F p H1 ok7 sm1 hP => ?_⟩
  obtain ⟨L, Tb, W, vs, ts, hp, hL, hvs, hT, hts, hW, ⟨dLT, dLW, dLp⟩, fL, fp⟩ := hP
  have hS1 : Scr K H1 sc ns := by walk_at "scr"
  have ok := ok7.mono (n := 40) (by decide)
  have c8 := ok.c8
  walk_at "s"
  refine ⟨F, L, Tb, vs, ts, ok, rfl, hL, hvs, rfl, hT, hts, rfl, rfl, fun v H2 sm2 hat => ?_⟩
  have hp2 := sm2 _ _ hp
  have hW2 := sm2 _ _ hW
  have hS2 : Scr K H2 sc ns := by walk_at "scr"
  walk_at "s"
  rename_i za cell zb0 zb1 st hst
  have sm3 : Same H2 (upd H2 st (.lst [.int cell])) := Same.new (.refl _) hst
  have hst3 : (upd H2 st (.lst [.int cell])) st = some (.lst [.int cell]) := upd_same
  have n2 : ∀ {b : Addr} {u : HO}, H2 b = some u → b ≠ st := fun {b u} hb e => by rw [e, hst] at hb; cases hb
  generalize upd H2 st (.lst [.int cell]) = H3 at *
  have hat3 := hat.le (Same.le sm3)
  refine ⟨F, cell, ok, hat3, rfl, zb0, fun H4 sm4 => ?_⟩
  have hst4 := sm4 _ _ hst3
  have sm24 := L2.Same.trans sm3 sm4
  have hp4 := sm24 _ _ hp2
  have hW4 := sm24 _ _ hW2
  have hat4 := hat.le (Same.le sm24)
  walk_at "s"
  rename_i y5 r5 r50 r51
  refine meet (fun σ' H' => ∃ (cnt : Nat) (x : Int), σ' = [some (.ref sc), some (.ref p), some v, some (.int cell), some (.ref st), some (.int cnt), none, none, none, none, none, none, none, none, none] ∧ 1 ≤ cnt ∧ cnt ≤ 3 ∧ F.C * cnt ≤ 8 ∧ H' st = some (.lst [.int x]) ∧ (∀ b u, b ≠ st → H4 b = some u → H' b = some u)) ?_ ?_
  · have k5 : ∀ b u, b ≠ st → H4 b = some u → (upd H4 st (.lst [.int y5])) b = some u := fun b u nb h => by rw [upd_ne nb]; exact h
    have hst5 : (upd H4 st (.lst [.int y5])) st = some (.lst [.int y5]) := upd_same
    generalize upd H4 st (.lst [.int y5]) = H5 at *
    have hp5 := k5 _ _ (n2 hp2) hp4
    walk_at "s"
    obtain ⟨m, rfl⟩ : ∃ m : Nat, r5 = m := ⟨r5.toNat, by omega⟩
    have em : (F.C : Int) * (1 + (m : Int)) = ((F.C * (1 + m) : Nat) : Int) := by rw [Int.natCast_mul, Int.natCast_add]; rfl
    rw [em]
    refine if_d (fun c => ?_) (fun c => ?_)
    · walk_at "s"
      exact ⟨1, y5, rfl, by omega, by omega, by omega, hst5, k5⟩
    · walk_at "s"
      exact ⟨1 + m, y5, rfl, by omega, by omega, by omega, hst5, k5⟩
  rintro σ' H5 ⟨cnt, x5, rfl, cnt1, cnt3, l8, hst5, k5⟩
  have lt5 : LeT H4 H5 := leT_keep k5 hst4
  have hp5 := k5 _ _ (n2 hp2) hp4
  have hW5 := k5 _ _ (n2 hW2) hW4
  have hat5 := hat4.leT lt5 F.tupO
  have nst2 : W ≠ st := n2 hW2
  have npst : p ≠ st := n2 hp2
  walk_at "s"
  rw [Int.toNat_natCast]
  refine lc_rng (fun D i H' => ∃ (yv : List V) (pss : List (List (Str × Int))) (x : Int), H' D = some (.lst yv) ∧ yv.length = i ∧ PapsAt H' yv pss ∧ (∀ l, V.ref l ∈ yv → l ≠ D ∧ l ≠ st) ∧ H' st = some (.lst [.int x]) ∧ (∀ b u, b ≠ st → H5 b = some u → H' b = some u))
    (fun D hD => ⟨[], [], x5, upd_same, rfl, ⟨rfl, by simp⟩, by simp, by walk_at "hp", fun b u _ h => by rw [upd_ne (ne_of_none h hD)]; exact h⟩) (fun D i H' hD hi ⟨yv, pss, xs, hyv, lyv, hps, nes, hx, kp⟩ => ?_) (fun DY H8 hDY ⟨yv, pss, x8, hyv, lyv, hps, nes, hx8, k8⟩ => ?_)
  · have nD : D ≠ st := fun e => by rw [e, hst5] at hD; cases hD
    have hW' := kp _ _ nst2 hW5
    have hp' := kp _ _ npst hp5
    refine ⟨rfl, ?_⟩
    refine Step.h (n := if true = true then _ else _) ?_
    rw [if_pos rfl]
    walk_at "s"
    refine ⟨st, W, xs, F.ws, rfl, hx, rfl, nst2, hW', ok.wd, Nat.le_trans ok.w8 (by decide), fun pl H6 vs6 ps gs hpl h6 hat6 pok _ => ?_⟩
    obtain ⟨x6, hx6⟩ := gs.st
    have hD6 := gs.keep _ _ nD hyv
    have nl : pl ≠ D := fun e => by rw [e, hyv] at hpl; cases hpl
    have nls : pl ≠ st := fun e => by rw [e, hx] at hpl; cases hpl
    have kD : ∀ b u, b ≠ D → H6 b = some u → (upd H6 D (.lst (yv ++ [.ref pl]))) b = some u := fun b u nb h => by rw [upd_ne nb]; exact h
    have lt : LeT H6 (upd H6 D (.lst (yv ++ [.ref pl]))) := LeT.put1 hD6 (.refl _)
    refine ⟨yv, hD6, small_of (by omega), yv ++ [.ref pl], pss ++ [ps], x6, upd_same, by rw [List.length_append, lyv]; rfl, ?_, fun l h => ?_, by rw [upd_ne nD.symm]; exact hx6, ?_⟩
    · exact (((hps.kp (fun b u nb h => gs.keep _ _ nb h) (gs.le hx).let (fun l h => (nes l h).2)).kp kD lt (fun l h => (nes l h).1))).snoc (kD _ _ nl h6) (hat6.leT lt (prs_tupO ps)) pok
    · rcases List.mem_append.mp h with h | h
      · exact nes l h
      · cases List.mem_singleton.mp h
        exact ⟨nl, nls⟩
    · exact fun b u nb h => kD _ _ (fun e => by rw [e, hD] at h; cases h) (gs.keep _ _ nb (kp _ _ nb h))
  have lps := hps.len
  have lt8 : LeT H5 H8 := leT_keep k8 hst5
  have hat8 := hat5.leT lt8 F.tupO
  have hp8 := k8 _ _ npst hp5
  walk_at "s"
  refine ⟨F, DY, yv, ok, hat8, rfl, hyv, by omega, .inr ⟨by rw [lyv]; exact l8, .inl ⟨pss, hps, fun fv H9 sm9 hfd => ?_⟩⟩⟩
  obtain ⟨e0, es, ee⟩ : ∃ e0 es, F.ents pss yv.length = e0 :: es := by
    cases e : F.ents pss yv.length with
    | nil =>
      have := congrArg List.length e
      unfold Frm.ents at this
      rw [List.length_map, binR_len] at this
      have h1 : 1 ≤ 2 ^ (F.C * yv.length) := Nat.one_le_two_pow
      simp at this
    | cons a b => exact ⟨a, b, rfl⟩
  have hfv := hfd e0 es ee
  obtain ⟨be, ebe⟩ : ∃ be, bst e0 (e0 :: es) = be := ⟨_, rfl⟩
  rw [ebe] at hfv
  walk_at "s"
  intro dA hdA
  have smD : Same H9 (upd H9 dA (DnO P w dA [])) := fun b u h => by rw [upd_ne (ne_of_none h hdA)]; exact h
  have hdD : (upd H9 dA (DnO P w dA [])) dA = some (DnO P w dA []) := upd_same
  have eqD : (upd H9 dA (DnO (cx P w K mg base ["_law_script", "_law_parts", "_law_form_here", "_law_cell", "_law_state", "_law_count", "_law_years", "_law_found", "_law_listed", "_law_pair", "_law_file", "_law_year", "_law_choice", "_law_changed", "_law_total"] "law" s_law f cdv A outer s H E).prog (cx P w K mg base ["_law_script", "_law_parts", "_law_form_here", "_law_cell", "_law_state", "_law_count", "_law_years", "_law_found", "_law_listed", "_law_pair", "_law_file", "_law_year", "_law_choice", "_law_changed", "_law_total"] "law" s_law f cdv A outer s H E).w dA [])) = upd H9 dA (DnO P w dA []) := rfl
  rw [eqD]
  clear eqD
  generalize upd H9 dA (DnO P w dA []) = HA at *
  have sm8A := L2.Same.trans sm9 smD
  have hatA := hat8.le (Same.le sm8A)
  have hyvA := sm8A _ _ hyv
  have hpsA := hps.same sm8A
  have hfvA := hfv.le (Same.le smD)
  have hpA := sm8A _ _ hp8
  walk_at "s"
  refine ⟨F, DY, yv, ok, hatA, rfl, hyvA, by omega, .inr ⟨by rw [lyv]; exact l8, .inl ⟨pss, hpsA, fun pd HB dv smB npd hpd hdv => ?_⟩⟩⟩
  have ldv := hdv.length
  rw [List.length_map] at ldv
  have les := ents_len (F := F) (pss := pss) (n := yv.length) (by rw [lyv]; exact l8)
  have npA : pd ≠ dA := fun e => by rw [e, hdD] at npd; cases npd
  have hdB := smB _ _ hdD
  walk_at "s"
  refine for_lst (fun i σ' H' => ∃ (kvs : List EntN) (y9 : Option V), σ' = [some (.ref sc), some (.ref p), some v, some (.int cell), some (.ref st), some (.int cnt), some (.ref DY), some fv, some (.ref dA), y9, none, none, none, none, none] ∧ H' dA = some (DnO P w dA kvs) ∧ KeysAt H' kvs ∧ kvs.length ≤ i ∧
      (∀ m e, m < i → (F.ents pss yv.length)[m]? = some e → findN kvs e.1 = some (.int e.2)) ∧ (∀ b u, b ≠ dA → HB b = some u → H' b = some u))
    hpd ⟨[], _, rfl, hdB, fun e he => (by cases he), by simp, fun m e hm => (by omega), fun b u _ h => h⟩ (fun i σ' H' _ ⟨_, _, _, _, _, _, _, k⟩ => k _ _ npA hpd) (fun i x σ' HC ex ⟨kvs, y9, e, hdC, ksC, lkC, fnC, kC⟩ => ?_) (fun σ' HC ⟨kvs, y9, e, hdC, ksC, lkC, fnC, kC⟩ => ?_)
  · subst e
    have ltC : LeT HB HC := fun b ys h => kC _ _ (fun e => by rw [e, hdB] at h; cases h) h
    obtain ⟨d, ed, hx⟩ := hdv.ix ex
    rw [List.getElem?_map] at ed
    obtain ⟨en, een, rfl⟩ := Option.map_eq_some_iff.mp ed
    obtain ⟨t, q1, rfl, ht, hq1⟩ := ent_at hx
    have ht2 := ltC _ _ ht
    have hq2 := hq1.leT ltC (keyD_tupO _)
    have il := (List.getElem?_eq_some_iff.mp ex).1
    walk_at "s"
    refine ⟨kvs, q1, en.1, hdC, ksC, rfl, hq2, by omega, ?_⟩
    have kU : ∀ b u, b ≠ dA → HC b = some u → (upd HC dA (DnO P w dA (putN kvs en.1 q1 (.int en.2)))) b = some u := fun b u nb h => by rw [upd_ne nb]; exact h
    have ltU : LeT HC (upd HC dA (DnO P w dA (putN kvs en.1 q1 (.int en.2)))) := fun b ys h => kU _ _ (fun e => by rw [e, hdC] at h; cases h) h
    refine ⟨putN kvs en.1 q1 (.int en.2), _, rfl, upd_same, (ksC.put hq2).leT ltU, Nat.le_trans putN_len (by omega), fun m e hm em => ?_, fun b u nb h => kU _ _ nb (kC _ _ nb h)⟩
    rw [findN_put]
    split
    · rename_i ek
      have h1 := (ents_of (List.mem_of_getElem? em)).2
      have h2 := (ents_of (List.mem_of_getElem? een)).2
      rw [h1, h2, ek]
    · rename_i ek
      rcases Nat.lt_or_ge m i with c | c
      · exact fnC m e c em
      · obtain rfl : m = i := by omega
        rw [em] at een
        cases een
        exact (ek rfl).elim
  subst e
  have find : ∀ tks, Shp F.C yv.length tks → findN kvs tks = some (.int (F.tot pss tks yv.length)) := fun tks hs => by
    obtain ⟨m, hm⟩ := List.mem_iff_getElem?.mp (ents_in (pss := pss) hs)
    have ml := (List.getElem?_eq_some_iff.mp hm).1
    exact fnC m _ (by omega) hm
  have bem : be ∈ F.ents pss yv.length := by
    rw [ee, ← ebe]
    rcases bst_mem e0 (e0 :: es) with h | h
    · rw [h]; exact List.mem_cons_self
    · exact h
  obtain ⟨shp, be2⟩ := ents_of bem
  have best : ∀ tks, Shp F.C yv.length tks → be.2 ≤ F.tot pss tks yv.length := fun tks hs => by
    have := ents_in (pss := pss) hs
    rw [ee] at this
    rw [← ebe]
    exact (bst_le (e0 :: es) e0).2 _ this
  have ltBC : LeT HB HC := fun b ys h => kC _ _ (fun e => by rw [e, hdB] at h; cases h) h
  have ltAC := (Same.le smB).let.trans ltBC
  obtain ⟨tf, q0, rfl, htf, hq0⟩ := ent_at (hfvA.leT ltAC (entD_tup be))
  obtain ⟨q0', kv0, eq0, hk0, hr0⟩ := id hq0
  cases eq0
  have hrow0 := rowsT.of hr0
  have hatC := hatA.leT ltAC F.tupO
  have lst_ne : ∀ {b : Addr} {xs : List V}, HB b = some (.lst xs) → b ≠ dA := fun {b xs} h e => by rw [e, hdB] at h; cases h
  have hyvC := kC _ _ (lst_ne (smB _ _ hyvA)) (smB _ _ hyvA)
  have hpC := kC _ _ (lst_ne (smB _ _ hpA)) (smB _ _ hpA)
  have hpsC := (hpsA.same smB).kp kC ltBC fun l hl => by
    obtain ⟨m, hm⟩ := List.mem_iff_getElem?.mp hl
    have ml := (List.getElem?_eq_some_iff.mp hm).1
    obtain ⟨l', us, e1, h1, _⟩ := (hpsA.same smB).at_ m (.ref l) (pss[m]'(by omega)) hm (List.getElem?_eq_getElem _)
    cases e1
    exact lst_ne h1
  have n1 : 1 ≤ pss.length := by omega
  have n8 : pss.length ≤ 8 := by omega
  have lyp : yv.length = pss.length := lps
  rw [lyp] at find shp be2 best
  walk_at "s"
  refine ⟨F, DY, q0, yv, kv0, pss, be.1, ok, hatC, rfl, hyvC, hpsC, rfl, hk0, hrow0, shp, n1, n8, fun HD fl ft hV smCD hft => ?_⟩
  obtain ⟨aF, dxF, fvF, paF, taF, laF, rfl, hoF⟩ := hV.obj
  have htf2 := smCD _ _ htf
  have hdD2 := smCD _ _ hdC
  have ksD := ksC.leT (Same.le smCD).let
  have hq02 := hq0.le (Same.le smCD)
  walk_at "s"
  refine ⟨F, pss, be.1, ft, ok, hV, fun HE smE => ?_⟩
  have htfE := smE _ _ htf2
  walk_at "s"
  rw [show (List.map (fun i => (F.hy pss be.1 (i + 1)).getD F.owed 0) (List.range pss.length)).sum = be.2 from be2.symm, decide_eq_true rfl]
  walk_at "s"
  refine ⟨kvs, q0, be.1, .int be.2, smE _ _ hdD2, ksD.leT (Same.le smE).let, rfl, hq02.le (Same.le smE), by rw [find _ shp, be2], ?_⟩
  walk_at "s"
  rw [decide_eq_true rfl]
  have smCE := L2.Same.trans smCD smE
  have hVE := hV.kp (fun b u _ h => smE _ _ h) (Same.le smE).let
  have nft : ∀ {b : Addr} {u : HO}, HC b = some u → b ∉ ft := fun {b u} hb mm => by rw [hft b mm] at hb; cases hb
  walk_at "s"
  rw [Int.toNat_natCast]
  refine for_rng (fun i σ' H' => ∃ (y9 y11 y12 y13 y14 : Option V), σ' = [some (.ref sc), some (.ref p), some v, some (.int cell), some (.ref st), some (.int cnt), some (.ref DY), some (.ref tf), some (.ref dA), y9, some (.ref aF), y11, y12, y13, y14] ∧ FilV C H' (.ref aF) F pss be.1 ft ∧ Same HC H')
    ⟨_, _, _, _, _, rfl, hVE, smCE⟩ (fun i σ' H1 hi ⟨y9, y11, y12, y13, y14, e, hV1, sm1⟩ => ?_) (fun σ' H1 ⟨y9, y11, y12, y13, y14, e, hV1, sm1⟩ => ?_)
  · subst e
    rw [Int.zero_add]
    have hp1 := sm1 _ _ hpC
    walk_at "s"
    rw [Int.toNat_natCast]
    refine for_rng (fun j σ' H' => ∃ (y12 y13 y14 : Option V), σ' = [some (.ref sc), some (.ref p), some v, some (.int cell), some (.ref st), some (.int cnt), some (.ref DY), some (.ref tf), some (.ref dA), y9, some (.ref aF), some (.int i), y12, y13, y14] ∧ FilV C H' (.ref aF) F pss be.1 ft ∧ Same HC H')
      ⟨_, _, _, rfl, hV1, sm1⟩ (fun j σ' H2 hj ⟨y12, y13, y14, e, hV2, sm2⟩ => ?_) (fun σ' H2 ⟨y12, y13, y14, e, hV2, sm2⟩ => ?_)
    · subst e
      rw [Int.zero_add]
      have htf3 := sm2 _ _ htf
      have hk3 := sm2 _ _ hk0
      have lb := shp.1
      have hi3 : i < be.1.length := by omega
      have et : be.1[i]? = some be.1[i] := List.getElem?_eq_getElem hi3
      obtain ⟨kk, evk, hkk⟩ := hrow0.2 i (kv0[i]'(by rw [hrow0.1]; exact hi3)) be.1[i] (List.getElem?_eq_getElem _) et
      have ekl : kv0[i]? = some (.ref kk) := by rw [List.getElem?_eq_getElem (by rw [hrow0.1]; exact hi3), evk]
      have lk := shp.2 be.1[i] (List.getElem_mem _)
      generalize be.1[i] = tk at *
      have hj' : j < tk.length := by omega
      have ebj : (tk.map V.bl)[j]? = some (.bl tk[j]) := by rw [List.getElem?_map, List.getElem?_eq_getElem hj']; rfl
      have hkk3 := sm2 _ _ hkk
      obtain ⟨a2, dx2, fv2, pa2, ta2, la2, ea2, ho2⟩ := hV2.obj
      cases ea2
      walk_at "s"
      refine ex_v (atI_nat (j := i) ekl) ?_
      walk_at "s"
      refine ⟨_, atI_nat (j := j) ebj, ?_⟩
      walk_at "s"
      have ic : i < pss.length := by omega
      have jC : j < F.C := by omega
      have ny : ∀ {Z : Prop}, isWhole (.int (i : Int)) 0 ((pss.length : Int) - 1) = false → Z := fun {Z} h => by rw [nat_whole ic] at h; cases h
      have nj : ∀ {Z : Prop}, isWhole (.int (j : Int)) 0 ((F.C : Int) - 1) = false → Z := fun {Z} h => by rw [nat_whole jC] at h; cases h
      refine ⟨F, pss, be.1, ft, .int i, .int j, _, ok, hV2, rfl, rfl, rfl, fun i' j' e1 _ e2 _ => ?_, fun h => ny h, fun _ h => nj h⟩
      obtain rfl : i = i' := by have := PyData.int.inj e1; omega
      obtain rfl : j = j' := by have := PyData.int.inj e2; omega
      rw [turn_set et hj']
      intro H3 p3 ys3 k3 lt3 np3 hp3 hy3 hV3
      have shT := turn_shp (i := i) (j := j) shp
      have sm3 : Same HC H3 := fun b u h => k3 _ _ (nft h) (sm2 _ _ h)
      obtain ⟨a3, dx3, fv3, pa3, ta3, la3, ea3, ho3⟩ := hV3.obj
      cases ea3
      walk_at "s"
      refine ⟨F, pss, turn be.1 i j, ft, ok, hV3, fun H4 sm4 => ?_⟩
      have sm24 := L2.Same.trans sm3 sm4
      have htf4 := sm24 _ _ htf
      have hk4 := sm24 _ _ hk0
      have hkk4 := sm24 _ _ hkk
      rw [show (List.map (fun y => (F.hy pss (turn be.1 i j) (y + 1)).getD F.owed 0) (List.range pss.length)).sum = F.tot pss (turn be.1 i j) pss.length from rfl]
      have bb := best _ shT
      walk_at "s"
      refine if_df (p := F.tot pss (turn be.1 i j) pss.length < be.2) (by omega) ?_
      walk_at "s"
      refine ⟨q0, kv0, F.C, pss.length, i, j, be.1, rfl, hk4, hrow0.le (fun b ys h => sm24 _ _ h), shp, by omega, c8, rfl, ic, rfl, jC, fun qt H5 sm5 hqt => ?_⟩
      have sm25 := L2.Same.trans sm24 sm5
      have htf5 := sm25 _ _ htf
      have hk5' := sm25 _ _ hk0
      have hkk5 := sm25 _ _ hkk
      refine ⟨dA, rfl, kvs, qt, turn be.1 i j, _, sm25 _ _ hdC, ksC.leT (Same.le sm25).let, rfl, hqt, find _ shT, ?_⟩
      walk_at "s"
      rw [decide_eq_true rfl]
      have hV5 := hV3.kp (fun b u _ h => sm5 _ _ (sm4 _ _ h)) (Same.le (L2.Same.trans sm4 sm5)).let
      obtain ⟨a5, dx5, fv5, pa5, ta5, la5, ea5, ho5⟩ := hV5.obj
      cases ea5
      walk_at "s"
      refine ex_v (atI_nat (j := i) ekl) ?_
      walk_at "s"
      refine ex_v (atI_nat (j := j) ebj) ?_
      walk_at "s"
      have pf3 : p3 ∉ ft := fun mm => by
        obtain ⟨u, hu, _⟩ := hV2.used p3 mm
        rw [hu] at np3
        cases np3
      refine ⟨F, pss, turn be.1 i j, ft, .int i, .int j, tk[j], ok, hV5, rfl, rfl, rfl, fun i' j' e1 _ e2 _ => ?_, fun h => ny h, fun _ h => nj h⟩
      obtain rfl : i = i' := by have := PyData.int.inj e1; omega
      obtain rfl : j = j' := by have := PyData.int.inj e2; omega
      rw [turn_back et hj']
      intro H6 p6 ys6 k6 lt6 np6 hp6 hy6 hV6
      have sm6 : Same HC H6 := fun b u h => k6 _ _ (nft h) (sm25 _ _ h)
      have hp36 := k6 _ _ pf3 (sm5 _ _ (sm4 _ _ hp3))
      have hy36 := ((hy3.le (Same.le (L2.Same.trans sm4 sm5))).leT lt6 (prI_tupO _))
      rw [chgP_comm] at hy6
      have htf6 := sm6 _ _ htf
      obtain ⟨a6, dx6, fv6, pa6, ta6, la6, ea6, ho6⟩ := hV6.obj
      cases ea6
      walk_at "s"
      refine ne_same (.lst (.of hp6) hy6.dp) (.lst (.of hp36) hy36.dp) (shaped_prs _) ?_
      walk_at "s"
      refine ⟨F, pss, be.1, ft, ok, hV6, fun H7 sm7 => ?_⟩
      have htf7 := sm7 _ _ htf6
      walk_at "s"
      rw [show (List.map (fun y => (F.hy pss be.1 (y + 1)).getD F.owed 0) (List.range pss.length)).sum = be.2 from be2.symm, decide_eq_true rfl]
      walk_at "s"
      exact ⟨_, _, _, rfl, hV6.kp (fun b u _ h => sm7 _ _ h) (Same.le sm7).let, L2.Same.trans sm6 sm7⟩
    · subst e
      exact ⟨_, _, _, _, _, rfl, hV2, sm2⟩
  · subst e
    walk_at "s"
    exact q _
end
end Fl

-- after: r7.tpl
namespace Fl
open PySem PySem.Spec PyProof.Rows L2 RZ
theorem AtAll.last {H : Hp} : ∀ {ds : List PyData} {vs : List V}, AtAll H ds vs → vs ≠ [] → ∃ es d ws v, ds = es ++ [d] ∧ vs = ws ++ [v] ∧ AtAll H es ws ∧ At H d v
  | [], _, h, n => absurd h n
  | [x], _, ⟨v, t, q, h, r⟩, _ => ⟨[], x, [], v, rfl, by rw [q, show t = [] from r]; rfl, rfl, h⟩
  | x :: y :: l, _, ⟨v, t, q, h, r⟩, _ => by
    obtain ⟨qs, z, ws, w, e1, e2, r1, r2⟩ := AtAll.last r (by obtain ⟨_, _, z, _⟩ := r; rw [z]; simp)
    exact ⟨x :: qs, z, v :: ws, w, by rw [e1]; rfl, by rw [q, e2]; rfl, ⟨v, ws, rfl, h, r1⟩, r2⟩
section
variable {P : Program} {w : World} {K : PySem.W.Frag} {mg : Str → Option Value} {base : Heap}
abbrev s_named : Stmt := topS 29
theorem sc_named : FnScope ["rule", "word", "found", "rest", "one"] ["rule", "word"] (defScope s_named) := ⟨rfl, rfl, rfl, by decide +kernel, rfl, by decide +kernel, by decide +kernel⟩
theorem ok_named (M : Mg mg) (G_inner_rules : Has P w K mg base "inner_rules" ["rule"] 1 (sp1 sp_inner_rules)) (D : DefAt K mg "named" s_named ["rule", "word"]) : Has P w K mg base "named" ["rule", "word"] 2 (sp2 (sp_law_named 8)) := by
  refine .mk2 D sc_named fun f cdv A outer s H a c Q E hr h => ⟨_, (pss_cons (ps_set (i := 2) sc_named.nd rfl (by first | exact Or.inl rfl | exact Or.inr rfl) (pe_lst pa_nil))
    (pss_cons (ps_set (i := 3) sc_named.nd rfl (by first | exact Or.inl rfl | exact Or.inr rfl) (pe_lst (pa_cons (pv 0) pa_nil)))
    (pss_cons (ps_while own_p (pt_cmpR (k_neE K rfl hr) (pv 3) (pe_lst pa_nil) (nomark _)) (pss_cons (ps_set (i := 4) sc_named.nd rfl (by first | exact Or.inl rfl | exact Or.inr rfl) (k_bm0 K rfl PySem.F.plainAttrs_list PySem.F.slot_list_pop PySem.F.type_list_pop mt_pop (pv 3)))
    (pss_meet (ps_if (PW.pt (pw_and (pt_cmpR (k_eq K rfl hr) (pe_ix (k_ix K rfl) (pv 4) pe_int (fun _ _ => rfl)) (pv 1) (nomark _)) (pw_and1 (pt_cmpR (k_notin K rfl hr) (pe_ix (k_ix K rfl) (pv 4) pe_int (fun _ _ => rfl)) (pv 2) (by rfl))))) (pss_one (ps_expr (k_bm K rfl PySem.F.plainAttrs_list PySem.F.slot_list_append PySem.F.type_list_append mt_append (pv 2) (pa_cons (pe_ix (k_ix K rfl) (pv 4) pe_int (fun _ _ => rfl)) pa_nil)))) pss_nil)
    (pss_one (ps_set (i := 3) sc_named.nd rfl (by first | exact Or.inl rfl | exact Or.inr rfl) (pe_op (k_add K rfl) (pv 3) (pe_own G_inner_rules (hr.mono (by first | decide | omega)) (by rfl) p_body (pa_cons (pv 4) pa_nil))))))))
    (pss_one (ps_ret (pe_callB (k_sortU K rfl) (by rfl) M.sorted (by decide +kernel) (pa_cons (pv 2) pa_nil))))))), ?_⟩
  obtain ⟨d, L, T, C, x, b, hd, ok, hsz, hg, rfl, hf, hpool, q⟩ := h
  have vok := vals_ok hf hg
  have vlen := vals_len (w := x) 8 d
  refine Fl.go_start (σ0 := [some _, some _, none, none, none]) rfl ?_
  walk_at "s"
  rename_i fa hfa r0 hr0
  have hne0 : fa ≠ r0 := fun z => by rw [z, upd_same] at hr0; cases hr0
  have hr0' : H r0 = none := L2.Same.free (Same.new (.refl _) hfa) hr0
  refine while_go (fun m σ' H' => ∃ (r : Addr) (ps : List (PyData × Nat)) (vs gs : List V) (x4 : Option V), σ' = [some a, some (.str x), some (.ref fa), some (.ref r), x4] ∧
    m = szAll (ps.map (·.1)) ∧ H' r = some (.lst vs) ∧ H' fa = some (.lst gs) ∧ fa ≠ r ∧ H r = none ∧ Same H H' ∧ AtAll H (ps.map (·.1)) vs ∧ (∀ e ∈ ps, okD e.1 = true ∧ isR L T C e.2 e.1 = true) ∧ szAll (ps.map (·.1)) ≤ 50000 ∧ gs.Nodup ∧
      ∀ v, v ∈ vals x 8 d ↔ v ∈ gs ∨ ∃ e ∈ ps, v ∈ vals x e.2 e.1) (sz d)
    ⟨r0, [(d, 8)], [a], [], none, rfl, by simp [szAll], by walk_at "hp", ?_, hne0, hr0', by walk_at "sm", AtAll.one hd, by simp [ok, hg], by simp [szAll]; omega, List.nodup_nil, by simp⟩ ?_
  · rw [upd_ne hne0]
    exact upd_same
  rintro m σ' H' ⟨r, ps, vs, gs, x4, rfl, rfl, hrv, hfg, hne, hrf, sm, hps, hok, hle, gnd, gmem⟩
  have gok : ∀ v ∈ gs, okK b v := fun v hv => vok v ((gmem v).mpr (.inl hv))
  walk_at "s"
  rename_i pe hpe
  refine ne_e (by walk_at "hp") (by walk_at "hp") ((hps.le (Same.le (Same.new sm hpe))).dp) (okAll_lay _ (okAll_of fun e m => by
    obtain ⟨z, hz, rfl⟩ := List.mem_map.mp m
    exact (hok z hz).1)) ?_
  walk_at "s"
  by_cases hv : vs = []
  · subst hv
    have e : ps = [] := List.eq_nil_of_length_eq_zero (by have := hps.length; simpa using this.symm)
    subst e
    have gmem' : ∀ v, v ∈ gs ↔ v ∈ vals x 8 d := fun v => by rw [gmem v]; simp
    have hpf : pe ≠ fa := fun z => by rw [z, hfg] at hpe; cases hpe
    walk_at "s"
    refine sort_k (by rw [upd_ne hpf.symm]; exact hfg) gok gnd (fun hb => ?_) gmem' (fun ys p cn hp => ?_)
    · obtain ⟨pool, pl, pm⟩ := hpool hb
      have := nodup_le gnd fun v hv => pm v ((gmem' v).mp hv)
      omega
    · exact q p _ ys (Same.new (Same.new sm hpe) hp) (L2.Same.free (Same.new sm hpe) hp) upd_same cn
  have hv' : vs.isEmpty = false := by simpa using hv
  rw [hv']
  walk_at "s"
  refine while_turn ?_
  obtain ⟨es, d1, ws, v, e1, rfl, hq, hu⟩ := hps.last hv
  have hpn : ps ≠ [] := fun z => by rw [z] at e1; simp at e1
  obtain ⟨qs, x0, rfl⟩ : ∃ qs x0, ps = qs ++ [x0] := ⟨ps.dropLast, ps.getLast hpn, (List.dropLast_concat_getLast hpn).symm⟩
  obtain ⟨d0, k⟩ := x0
  rw [List.map_append] at e1
  obtain ⟨rfl, e3⟩ := List.append_inj' e1 rfl
  obtain rfl : d0 = d1 := by simpa using e3
  obtain ⟨okd, hgd⟩ := hok (d0, k) (by simp)
  dsimp only at okd hgd
  obtain ⟨m1, w', ds, rfl, rfl, hl, _⟩ := good_shape hgd
  obtain ⟨t, us0, rfl, ht, u0, us, rfl, h0, hus⟩ := id hu
  cases (show _ = _ from h0)
  have lu := hus.length
  have glen : gs.length ≤ 50000 := Nat.le_trans (nodup_le gnd fun v hv => (gmem v).mpr (.inl hv)) (Nat.le_trans vlen hsz)
  walk_at "s"
  refine ex_v (v := .ref t) (by simp) ?_
  rw [List.dropLast_concat]
  have hpf : pe ≠ fa := fun z => by rw [z, hfg] at hpe; cases hpe
  have h2r : (upd (upd H' pe (.lst [])) r (.lst ws)) r = some (.lst ws) := upd_same
  have h2f : (upd (upd H' pe (.lst [])) r (.lst ws)) fa = some (.lst gs) := by rw [upd_ne hne, upd_ne hpf.symm]; exact hfg
  have sm2 : Same H (upd (upd H' pe (.lst [])) r (.lst ws)) := by walk_at "sm"
  generalize upd (upd H' pe (.lst [])) r (.lst ws) = H2 at *
  have hfaH : H fa = none := by assumption
  have ht2 := sm2 _ _ ht
  refine meet (fun σ' H3 => ∃ gs', σ' = [some a, some (.str x), some (.ref fa), some (.ref r), some (.ref t)] ∧ H3 r = some (.lst ws) ∧ H3 fa = some (.lst gs') ∧ Same H H3 ∧ gs'.Nodup ∧ ∀ v, v ∈ gs' ↔ v ∈ gs ∨ v ∈ (if w' = x then [vOf (ds.getD 0 .none)] else [])) ?_ ?_
  · walk_at "s"
    refine if_d (fun c1 => ?_) (fun c1 => ?_)
    · walk_at "s"
      have ov := good_val hgd (by rw [c1]; exact hf)
      cases ds with
      | nil => simp at hl
      | cons e0 er =>
      obtain ⟨u1, ur, rfl, h1, hur⟩ := hus
      rw [List.getD_cons_zero] at ov
      obtain rfl : u1 = vOf e0 := at_vOf ov h1
      walk_at "s"
      refine notin_k ov gok h2f ?_
      by_cases cg : vOf e0 ∈ gs
      · rw [decide_eq_true cg]
        walk_at "s"
        refine ⟨gs, rfl, h2r, h2f, sm2, gnd, fun v => ?_⟩
        rw [if_pos c1, List.getD_cons_zero, List.mem_singleton]
        exact ⟨.inl, fun z => z.elim id fun z => z ▸ cg⟩
      · rw [decide_eq_false cg]
        walk_at "s"
        refine ⟨gs ++ [vOf e0], rfl, by rw [upd_ne hne.symm]; exact h2r, upd_same, Same.mut sm2 hfaH, List.nodup_append.mpr ⟨gnd, by simp, fun a ha b hb e => ?_⟩, fun v => ?_⟩
        · rw [List.mem_singleton.mp hb] at e
          exact cg (e ▸ ha)
        · rw [if_pos c1, List.getD_cons_zero, List.mem_append]
    · walk_at "s"
      exact ⟨gs, rfl, h2r, h2f, sm2, gnd, fun v => by rw [if_neg c1]; simp⟩
  rintro σ' H3 ⟨gs', rfl, h3r, h3f, sm3, gnd', gmem'⟩
  have ht3 := sm3 _ _ ht
  walk_at "s"
  have lds := szAll_len (a := ds)
  have szq : szAll (qs.map (·.1)) + sz (.tuple (.str w' :: ds)) = szAll ((qs ++ [(PyData.tuple (PyData.str w' :: ds), m1 + 1)]).map (·.1)) := by
    rw [List.map_append, szAll_append]
    simp [szAll]
  have szd : sz (.tuple (.str w' :: ds)) = 1 + (1 + szAll ds) := by simp only [sz, szAll]
  refine ⟨H, t, _, us, ds, sm3, rfl, ht3, hus, by omega, fun p5 H4 ws5 sm4 e5 at5 => ?_⟩
  have h4r := sm4 _ _ h3r
  have h4f := sm4 _ _ h3f
  have l5 := at5.length
  have lf := szAll_filter (ds := ds) (p := isTupD)
  have lf2 := szAll_len (a := ds.filter isTupD)
  have lq := hq.length
  have lq2 := szAll_len (a := qs.map (·.1))
  have ltot : ws.length + ws5.length ≤ 50000 := by omega
  walk_at "s"
  rename_i rn hrn
  have em : (qs ++ (ds.filter isTupD).map fun e => (e, m1)).map (·.1) = qs.map (·.1) ++ ds.filter isTupD := by
    rw [List.map_append, List.map_map]
    simp [Function.comp_def]
  have es : szAll ((qs ++ (ds.filter isTupD).map fun e => (e, m1)).map (·.1)) = szAll (qs.map (·.1)) + szAll (ds.filter isTupD) := by
    rw [em, szAll_append]
  have hfr : fa ≠ rn := fun z => by rw [← z, h4f] at hrn; cases hrn
  refine ⟨_, ?_, rn, qs ++ (ds.filter isTupD).map fun e => (e, m1), ws ++ ws5, gs', _, rfl, rfl, upd_same, by rw [upd_ne hfr]; exact h4f, hfr, L2.Same.free (L2.Same.trans sm3 sm4) hrn, Same.new (L2.Same.trans sm3 sm4) hrn, by rw [em]; exact hq.append at5, ?_, ?_, gnd', fun v => ?_⟩
  · rw [es]
    omega
  · intro e he
    rcases List.mem_append.mp he with z | z
    · exact hok e (List.mem_append_left _ z)
    · obtain ⟨y, hy, rfl⟩ := List.mem_map.mp z
      obtain ⟨hy1, hy2⟩ := List.mem_filter.mp hy
      simp only [okD, okAll, Bool.and_eq_true] at okd
      exact ⟨okAll_mem okd.2 hy1, good_tups hgd hy1 hy2⟩
  · rw [es]
    omega
  · rw [gmem v, gmem' v]
    have key : v ∈ vals x (m1 + 1) (.tuple (.str w' :: ds)) ↔ v ∈ (if w' = x then [vOf (ds.getD 0 .none)] else []) ∨ ∃ e ∈ ds.filter isTupD, v ∈ vals x m1 e := by
      show v ∈ _ ++ _ ↔ _
      rw [List.mem_append, List.mem_flatMap]
    constructor
    · rintro (z | ⟨e, he, z⟩)
      · exact .inl (.inl z)
      · rcases List.mem_append.mp he with he | he
        · exact .inr ⟨e, List.mem_append_left _ he, z⟩
        · rw [List.mem_singleton.mp he] at z
          rcases key.mp z with z | ⟨y, hy, z⟩
          · exact .inl (.inr z)
          · exact .inr ⟨(y, m1), List.mem_append_right _ (List.mem_map.mpr ⟨y, hy, rfl⟩), z⟩
    · rintro ((z | z) | ⟨e, he, z⟩)
      · exact .inl z
      · exact .inr ⟨_, List.mem_append_right _ (List.mem_singleton.mpr rfl), key.mpr (.inl z)⟩
      · rcases List.mem_append.mp he with he | he
        · exact .inr ⟨e, List.mem_append_left _ he, z⟩
        · obtain ⟨y, hy, rfl⟩ := List.mem_map.mp he
          exact .inr ⟨_, List.mem_append_right _ (List.mem_singleton.mpr rfl), key.mpr (.inr ⟨y, hy, z⟩)⟩
end
end Fl

-- after: k11e.tpl r8.tpl
namespace Fl
open PySem PySem.Spec PyProof.Rows L2 RZ
/-! ### the end -/
theorem defAt_mk {K : PySem.W.Frag} {h : Heap} {mg : Str → Option Value} {x : Str} {st : Stmt} {ps : List Str} {f : Addr} {oc : Value} {od an : Option Addr} {osl : Array (Option Value)} {kV doc pm cdv ct : Value} (X : K.In h) (G : h.Ns mainGlobals mg)
    (a : PySem.W.nsIn K mainGlobals x = some (some (.ref f))) (l : K.lookup f = some ⟨oc, od, .func (PySem.W.fnOf x x (defArgs st) (defBody st) (defScope st) .none kV doc pm an cdv ct), osl⟩) (c : PySem.W.codeIn K cdv x = true) (k : PySem.W.keepIn K (.ref f) = true)
    (b : ∀ (kV doc pm : Value) (an : Option Addr) (cdv ct : Value) (us : List Value), us.length = ps.length → bindArgs (PySem.W.fnOf x x (defArgs st) (defBody st) (defScope st) .none kV doc pm an cdv ct) ⟨us, []⟩ = pure (ps.zip us)) : DefAt K mg x st ps :=
  ⟨f, _, fun_mk l c k, PySem.W.mg_of X G a, (fun_mk l c k).binds b⟩
theorem law_fn {P : Program} {w : World} {K : PySem.W.Frag} {mg : Str → Option Value} {base : Heap} {x p1 : Str} {st : Stmt} {N : List Str} {fa : Addr} {fd : FuncData} {k : Nat} {g : Sp1} (F : Fun K x x st fa fd) (S : FnScope N [p1] (defScope st))
    (hb : ∀ f cdv A outer s H a Q E, RoomOf k x st f cdv A s → g a H Q E → Body P w K mg base N x st f cdv A outer s H [a] Q E) : FnOk P w K mg base (L2.CX P w) (k + 1) fa fd [p1] (sp1 g) :=
  F.okX S (fun vs H Q E ⟨a, e, _⟩ => by rw [e]; rfl) fun cdv A outer s H vs Q E hr ⟨a, e, h⟩ => by subst e; exact hb _ cdv A outer s H a Q E hr h
theorem methAt_mk {K : PySem.W.Frag} {C : Addr} {m qual : Str} {st : Stmt} {ps : List Str} {f : Addr} {oc : Value} {od an : Option Addr} {osl : Array (Option Value)} {kV doc pm cdv ct : Value}
    (a : PySem.W.findIn K (.ref C) m = some (some (.ref f))) (i : PySem.W.isFn K (.ref f) = true) (l : K.lookup f = some ⟨oc, od, .func (PySem.W.fnOf m qual (defArgs st) (defBody st) (defScope st) .none kV doc pm an cdv ct), osl⟩) (c : PySem.W.codeIn K cdv qual = true) (k : PySem.W.keepIn K (.ref f) = true)
    (b : ∀ (kV doc pm : Value) (an : Option Addr) (cdv ct : Value) (us : List Value), us.length = ps.length → bindArgs (PySem.W.fnOf m qual (defArgs st) (defBody st) (defScope st) .none kV doc pm an cdv ct) ⟨us, []⟩ = pure (ps.zip us)) : MethAt K C m qual st ps :=
  ⟨f, _, fun_mk l c k, ⟨a, i, k⟩, (fun_mk l c k).binds b⟩
theorem mkF_of {P : Program} {w : World} {K : PySem.W.Frag} {mg : Str → Option Value} {base : Heap} {x : Str} {C : Addr} {ps : List Str} {k : Nat} {sp : Sp} (h : HasM P w K mg base C "__init__" ps k sp) (mk : PySem.W.makesIn K C = true) (kc : PySem.W.keepIn K (.ref C) = true) (hm : mg x = some (.ref C)) : MkF P w K mg base x C ps k sp := by
  obtain ⟨f, fd, F, ⟨a, i, _⟩, hb⟩ := h.ex
  exact ⟨f, fd, F, ⟨mk, a, i, kc⟩, hb, hm⟩
theorem all_mk {P : Program} {w : World} {K : PySem.W.Frag} {h : Heap} {mg : Str → Option Value} {fa : Addr} (X : K.In h) (G : h.Ns mainGlobals mg) (hfa : mg "law" = some (.ref fa))
    {t_MOST_ROWS : Tok} (k_MOST_ROWS : PySem.W.nsIn K mainGlobals "MOST_ROWS" = some (some (.int 20 t_MOST_ROWS)))
    {t_GREATEST : Tok} (k_GREATEST : PySem.W.nsIn K mainGlobals "GREATEST" = some (some (.int 1000000000 t_GREATEST)))
    {t_DEEPEST : Tok} (k_DEEPEST : PySem.W.nsIn K mainGlobals "DEEPEST" = some (some (.int 8 t_DEEPEST)))
    {t_LONGEST : Tok} (k_LONGEST : PySem.W.nsIn K mainGlobals "LONGEST" = some (some (.int 8 t_LONGEST)))
    {t_LETTERS : Tok} (k_LETTERS : PySem.W.nsIn K mainGlobals "LETTERS" = some (some (.str "abcdefghijklmnopqrstuvwxyz" t_LETTERS)))
    {t_MOST_LINES : Tok} (k_MOST_LINES : PySem.W.nsIn K mainGlobals "MOST_LINES" = some (some (.int 40 t_MOST_LINES)))
    {t_MOST_TABLES : Tok} (k_MOST_TABLES : PySem.W.nsIn K mainGlobals "MOST_TABLES" = some (some (.int 5 t_MOST_TABLES)))
    {t_MOST_CHOICES : Tok} (k_MOST_CHOICES : PySem.W.nsIn K mainGlobals "MOST_CHOICES" = some (some (.int 8 t_MOST_CHOICES)))
    {t_MOST : Tok} (k_MOST : PySem.W.nsIn K mainGlobals "MOST" = some (some (.int 8 t_MOST)))
    {t_MOST_YEARS : Tok} (k_MOST_YEARS : PySem.W.nsIn K mainGlobals "MOST_YEARS" = some (some (.int 8 t_MOST_YEARS)))
    (z_all : PySem.W.nsIn K mainGlobals "all" = some none)
    (z_any : PySem.W.nsIn K mainGlobals "any" = some none)
    (z_bool : PySem.W.nsIn K mainGlobals "bool" = some none)
    (z_dict : PySem.W.nsIn K mainGlobals "dict" = some none)
    (z_int : PySem.W.nsIn K mainGlobals "int" = some none)
    (z_isinstance : PySem.W.nsIn K mainGlobals "isinstance" = some none)
    (z_len : PySem.W.nsIn K mainGlobals "len" = some none)
    (z_list : PySem.W.nsIn K mainGlobals "list" = some none)
    (z_max : PySem.W.nsIn K mainGlobals "max" = some none)
    (z_min : PySem.W.nsIn K mainGlobals "min" = some none)
    (z_range : PySem.W.nsIn K mainGlobals "range" = some none)
    (z_reversed : PySem.W.nsIn K mainGlobals "reversed" = some none)
    (z_sorted : PySem.W.nsIn K mainGlobals "sorted" = some none)
    (z_str : PySem.W.nsIn K mainGlobals "str" = some none)
    (z_sum : PySem.W.nsIn K mainGlobals "sum" = some none)
    (z_tuple : PySem.W.nsIn K mainGlobals "tuple" = some none)
    (z_zip : PySem.W.nsIn K mainGlobals "zip" = some none)
    (z_ValueError : PySem.W.nsIn K mainGlobals "ValueError" = some none)
    {C_NoTable : Addr} (n_NoTable : PySem.W.nsIn K mainGlobals "NoTable" = some (some (.ref C_NoTable))) (x_NoTable : PySem.W.excIn K C_NoTable [.type "ValueError", .type "Exception", .type "BaseException", .type "object"] "ValueError.__new__" = true) (q_NoTable : PySem.W.keepIn K (.ref C_NoTable) = true) (b_NoTable : PySem.W.subIn K (.ref C_NoTable) (.type "BaseException") = some true) (t_NoTable : PySem.W.typeIn K (.ref C_NoTable) = some (.type "type")) (d_NoTable : PySem.W.hasDictIn K C_NoTable = true)
    {C_NoForm : Addr} (n_NoForm : PySem.W.nsIn K mainGlobals "NoForm" = some (some (.ref C_NoForm))) (x_NoForm : PySem.W.excIn K C_NoForm [.type "ValueError", .type "Exception", .type "BaseException", .type "object"] "ValueError.__new__" = true) (q_NoForm : PySem.W.keepIn K (.ref C_NoForm) = true) (b_NoForm : PySem.W.subIn K (.ref C_NoForm) (.type "BaseException") = some true) (t_NoForm : PySem.W.typeIn K (.ref C_NoForm) = some (.type "type")) (d_NoForm : PySem.W.hasDictIn K C_NoForm = true)
    {C_NoRule : Addr} (n_NoRule : PySem.W.nsIn K mainGlobals "NoRule" = some (some (.ref C_NoRule))) (x_NoRule : PySem.W.excIn K C_NoRule [.type "ValueError", .type "Exception", .type "BaseException", .type "object"] "ValueError.__new__" = true) (q_NoRule : PySem.W.keepIn K (.ref C_NoRule) = true) (b_NoRule : PySem.W.subIn K (.ref C_NoRule) (.type "BaseException") = some true) (t_NoRule : PySem.W.typeIn K (.ref C_NoRule) = some (.type "type")) (d_NoRule : PySem.W.hasDictIn K C_NoRule = true)
    {C_Ring : Addr} (n_Ring : PySem.W.nsIn K mainGlobals "Ring" = some (some (.ref C_Ring))) (x_Ring : PySem.W.excIn K C_Ring [.type "ValueError", .type "Exception", .type "BaseException", .type "object"] "ValueError.__new__" = true) (q_Ring : PySem.W.keepIn K (.ref C_Ring) = true) (b_Ring : PySem.W.subIn K (.ref C_Ring) (.type "BaseException") = some true) (t_Ring : PySem.W.typeIn K (.ref C_Ring) = some (.type "type")) (d_Ring : PySem.W.hasDictIn K C_Ring = true)
    {C_NoPaper : Addr} (n_NoPaper : PySem.W.nsIn K mainGlobals "NoPaper" = some (some (.ref C_NoPaper))) (x_NoPaper : PySem.W.excIn K C_NoPaper [.type "ValueError", .type "Exception", .type "BaseException", .type "object"] "ValueError.__new__" = true) (q_NoPaper : PySem.W.keepIn K (.ref C_NoPaper) = true) (b_NoPaper : PySem.W.subIn K (.ref C_NoPaper) (.type "BaseException") = some true) (t_NoPaper : PySem.W.typeIn K (.ref C_NoPaper) = some (.type "type")) (d_NoPaper : PySem.W.hasDictIn K C_NoPaper = true)
    {C_NoYear : Addr} (n_NoYear : PySem.W.nsIn K mainGlobals "NoYear" = some (some (.ref C_NoYear))) (x_NoYear : PySem.W.excIn K C_NoYear [.type "ValueError", .type "Exception", .type "BaseException", .type "object"] "ValueError.__new__" = true) (q_NoYear : PySem.W.keepIn K (.ref C_NoYear) = true) (b_NoYear : PySem.W.subIn K (.ref C_NoYear) (.type "BaseException") = some true) (t_NoYear : PySem.W.typeIn K (.ref C_NoYear) = some (.type "type")) (d_NoYear : PySem.W.hasDictIn K C_NoYear = true)
    {C_NoLine : Addr} (n_NoLine : PySem.W.nsIn K mainGlobals "NoLine" = some (some (.ref C_NoLine))) (x_NoLine : PySem.W.excIn K C_NoLine [.type "ValueError", .type "Exception", .type "BaseException", .type "object"] "ValueError.__new__" = true) (q_NoLine : PySem.W.keepIn K (.ref C_NoLine) = true) (b_NoLine : PySem.W.subIn K (.ref C_NoLine) (.type "BaseException") = some true) (t_NoLine : PySem.W.typeIn K (.ref C_NoLine) = some (.type "type")) (d_NoLine : PySem.W.hasDictIn K C_NoLine = true)
    {C_NoChoice : Addr} (n_NoChoice : PySem.W.nsIn K mainGlobals "NoChoice" = some (some (.ref C_NoChoice))) (x_NoChoice : PySem.W.excIn K C_NoChoice [.type "ValueError", .type "Exception", .type "BaseException", .type "object"] "ValueError.__new__" = true) (q_NoChoice : PySem.W.keepIn K (.ref C_NoChoice) = true) (b_NoChoice : PySem.W.subIn K (.ref C_NoChoice) (.type "BaseException") = some true) (t_NoChoice : PySem.W.typeIn K (.ref C_NoChoice) = some (.type "type")) (d_NoChoice : PySem.W.hasDictIn K C_NoChoice = true)
    {C_TooMany : Addr} (n_TooMany : PySem.W.nsIn K mainGlobals "TooMany" = some (some (.ref C_TooMany))) (x_TooMany : PySem.W.excIn K C_TooMany [.type "ValueError", .type "Exception", .type "BaseException", .type "object"] "ValueError.__new__" = true) (q_TooMany : PySem.W.keepIn K (.ref C_TooMany) = true) (b_TooMany : PySem.W.subIn K (.ref C_TooMany) (.type "BaseException") = some true) (t_TooMany : PySem.W.typeIn K (.ref C_TooMany) = some (.type "type")) (d_TooMany : PySem.W.hasDictIn K C_TooMany = true)
    {C_FormError : Addr} (n_FormError : PySem.W.nsIn K mainGlobals "FormError" = some (some (.ref C_FormError))) (x_FormError : PySem.W.excIn K C_FormError [.type "ValueError", .type "Exception", .type "BaseException", .type "object"] "ValueError.__new__" = true) (q_FormError : PySem.W.keepIn K (.ref C_FormError) = true) (b_FormError : PySem.W.subIn K (.ref C_FormError) (.type "BaseException") = some true) (t_FormError : PySem.W.typeIn K (.ref C_FormError) = some (.type "type")) (d_FormError : PySem.W.hasDictIn K C_FormError = true)
    (SB_NoForm_NoForm : PySem.W.subIn K (.ref C_NoForm) (.ref C_NoForm) = some true)
    (SB_NoForm_FormError : PySem.W.subIn K (.ref C_NoForm) (.ref C_FormError) = some true)
    (hn_ : PySem.W.specialIn K (.builtin "object.__class__") "__get__" = some (some (.builtin "getset_descriptor.__get__"))) (ht_ : PySem.W.takesIn K (.builtin "object.__class__") = some true)
    (hg_NoForm : PySem.W.findIn K (.ref C_NoForm) "__getattribute__" = some (some (.builtin "BaseException.__getattribute__"))) (hk_NoForm : PySem.W.findIn K (.ref C_NoForm) "__getattr__" = some none) (ha_NoForm : PySem.W.findIn K (.ref C_NoForm) "__class__" = some (some (.builtin "object.__class__"))) (hm_NoForm : PySem.W.mroIn K C_NoForm (.type "object") = some true) (KV_NoForm : PySem.W.kitOne K (.ref C_NoForm) (.type "ValueError") = some true)
    (KI_NoForm_NoTable : PySem.W.kitOne K (.ref C_NoForm) (.ref C_NoTable) = some false)
    (KI_NoForm_NoForm : PySem.W.kitOne K (.ref C_NoForm) (.ref C_NoForm) = some true)
    (KI_NoForm_NoRule : PySem.W.kitOne K (.ref C_NoForm) (.ref C_NoRule) = some false)
    (KI_NoForm_Ring : PySem.W.kitOne K (.ref C_NoForm) (.ref C_Ring) = some false)
    (KI_NoForm_NoPaper : PySem.W.kitOne K (.ref C_NoForm) (.ref C_NoPaper) = some false)
    (KI_NoForm_NoYear : PySem.W.kitOne K (.ref C_NoForm) (.ref C_NoYear) = some false)
    (KI_NoForm_NoLine : PySem.W.kitOne K (.ref C_NoForm) (.ref C_NoLine) = some false)
    (KI_NoForm_NoChoice : PySem.W.kitOne K (.ref C_NoForm) (.ref C_NoChoice) = some false)
    (KI_NoForm_TooMany : PySem.W.kitOne K (.ref C_NoForm) (.ref C_TooMany) = some false)
    {C_File : Addr} (n_File : PySem.W.nsIn K mainGlobals "File" = some (some (.ref C_File))) (pg_ : PySem.W.plainGet K C_File Str.empty = true) (hd_ : PySem.W.hasDictIn K C_File = true) (po_ : PySem.W.plainOver K C_File = true) (sa_ : PySem.W.findIn K (.ref C_File) "__setattr__" = some (some (.builtin "object.__setattr__"))) (mk_ : PySem.W.makesIn K C_File = true) (kc_ : PySem.W.keepIn K (.ref C_File) = true)
    (nf_form : PySem.W.findIn K (.ref C_File) "form" = some none)
    (nf_papers : PySem.W.findIn K (.ref C_File) "papers" = some none)
    (nf_taken : PySem.W.findIn K (.ref C_File) "taken" = some none)
    (nf_lines : PySem.W.findIn K (.ref C_File) "lines" = some none)
    (D_File___init__ : MethAt K C_File "__init__" "File.__init__" s_File___init__ ["self", "form", "count"])
    (D_File_need_year : MethAt K C_File "need_year" "File.need_year" s_File_need_year ["self", "year"])
    (D_File_anew : MethAt K C_File "anew" "File.anew" s_File_anew ["self", "hang"])
    (D_File_put : MethAt K C_File "put" "File.put" s_File_put ["self", "year", "word", "number"])
    (D_File_take : MethAt K C_File "take" "File.take" s_File_take ["self", "year", "choice", "taken"])
    (D_File_owed : MethAt K C_File "owed" "File.owed" s_File_owed ["self"])
    (D_is_whole : DefAt K mg "is_whole" s_is_whole ["thing", "least", "most"])
    (D_is_number : DefAt K mg "is_number" s_is_number ["thing"])
    (D_is_row : DefAt K mg "is_row" s_is_row ["thing"])
    (D_is_table : DefAt K mg "is_table" s_is_table ["thing"])
    (D_at_number : DefAt K mg "at_number" s_at_number ["table", "number"])
    (D_is_word : DefAt K mg "is_word" s_is_word ["thing"])
    (D_is_plain : DefAt K mg "is_plain" s_is_plain ["rule", "lines"])
    (D_places_of : DefAt K mg "places_of" s_places_of ["rule", "tables", "choices"])
    (D_is_rule : DefAt K mg "is_rule" s_is_rule ["thing", "lines", "tables", "choices"])
    (D_inner_rules : DefAt K mg "inner_rules" s_inner_rules ["rule"])
    (D_named : DefAt K mg "named" s_named ["rule", "word"])
    (D_ring_from : DefAt K mg "ring_from" s_ring_from ["lines", "first"])
    (D_ring_of : DefAt K mg "ring_of" s_ring_of ["lines"])
    (D_form_of : DefAt K mg "form_of" s_form_of ["lines", "tables", "choices", "owed"])
    (D_order_of : DefAt K mg "order_of" s_order_of ["form"])
    (D_joined : DefAt K mg "joined" s_joined ["kind", "one", "other"])
    (D_comes_to : DefAt K mg "comes_to" s_comes_to ["rule", "sight"])
    (D_papers_of : DefAt K mg "papers_of" s_papers_of ["pairs"])
    (D_need_choices : DefAt K mg "need_choices" s_need_choices ["form", "taken"])
    (D_reckoned : DefAt K mg "reckoned" s_reckoned ["form", "pairs", "earlier", "taken"])
    (D_history : DefAt K mg "history" s_history ["form", "years", "taken"])
    (D_hangs_behind : DefAt K mg "hangs_behind" s_hangs_behind ["form", "first", "ahead"])
    (D_hanging_on : DefAt K mg "hanging_on" s_hanging_on ["form", "count", "year", "word", "thing"])
    (D_hanging : DefAt K mg "hanging" s_hanging ["form", "count", "year", "word"])
    (D_hanging_choice : DefAt K mg "hanging_choice" s_hanging_choice ["form", "count", "year", "choice"])
    (D_all_taken : DefAt K mg "all_taken" s_all_taken ["many"])
    (D_by_years : DefAt K mg "by_years" s_by_years ["row", "choices", "count"])
    (D_owed : DefAt K mg "owed" s_owed ["form", "years", "taken"])
    (D_sums : DefAt K mg "sums" s_sums ["form", "years"])
    (D_least : DefAt K mg "least" s_least ["form", "years"])
    (D__law_cell_at : DefAt K mg "_law_cell_at" s__law_cell_at ["_law_script", "_law_k"])
    (D__law_mixed : DefAt K mg "_law_mixed" s__law_mixed ["_law_cell", "_law_k"])
    (D__law_next : DefAt K mg "_law_next" s__law_next ["_law_state", "_law_size"])
    (D__law_number : DefAt K mg "_law_number" s__law_number ["_law_state"])
    (D__law_table : DefAt K mg "_law_table" s__law_table ["_law_state"])
    (D__law_words : DefAt K mg "_law_words" s__law_words ["_law_state"])
    (D__law_plain : DefAt K mg "_law_plain" s__law_plain ["_law_state", "_law_seen", "_law_sizes_here", "_law_words_here"])
    (D__law_rule : DefAt K mg "_law_rule" s__law_rule ["_law_state", "_law_deep", "_law_seen", "_law_sizes_here", "_law_words_here"])
    (D__law_sizes : DefAt K mg "_law_sizes" s__law_sizes ["_law_cell", "_law_most"])
    (D__law_order : DefAt K mg "_law_order" s__law_order ["_law_state", "_law_many"])
    (D__law_form : DefAt K mg "_law_form" s__law_form ["_law_script", "_law_most"])
    (D__law_papers : DefAt K mg "_law_papers" s__law_papers ["_law_state", "_law_words_here"])
    (D__law_alone : DefAt K mg "_law_alone" s__law_alone ["_law_e"])
    (D__law_no_file : DefAt K mg "_law_no_file" s__law_no_file ["_law_form_here", "_law_cell"])
    (D__law_filled : DefAt K mg "_law_filled" s__law_filled ["_law_form_here", "_law_years", "_law_taken"])
    (D__law_turned : DefAt K mg "_law_turned" s__law_turned ["_law_taken", "_law_year", "_law_choice"])
    {f0 : Addr} {oc : Value} {od an : Option Addr} {osl : Array (Option Value)} {kV doc pm cdv ct : Value} (a0 : PySem.W.nsIn K mainGlobals "law" = some (some (.ref f0))) (l0 : K.lookup f0 = some ⟨oc, od, .func (PySem.W.fnOf "law" "law" (defArgs s_law) (defBody s_law) (defScope s_law) .none kV doc pm an cdv ct), osl⟩) (c0 : PySem.W.codeIn K cdv "law" = true) (k0 : PySem.W.keepIn K (.ref f0) = true) :
    ∃ fd : FuncData, (∀ (s : Shared) (u : Value), BindsTo s fd ⟨[u], []⟩ [("_law_script", u)]) ∧ ∀ base : Heap, K.In base → base.Ns mainGlobals mg → FnOk P w K mg base (L2.CX P w) 15 fa fd ["_law_script"] (sp1 (sp_law K)) := by
  cases hfa.symm.trans (PySem.W.mg_of X G a0)
  have F := fun_mk (st := s_law) l0 c0 k0
  have M : Mg mg := ⟨PySem.W.mg_none_of X G z_all, PySem.W.mg_none_of X G z_any, PySem.W.mg_none_of X G z_bool, PySem.W.mg_none_of X G z_dict, PySem.W.mg_none_of X G z_int, PySem.W.mg_none_of X G z_isinstance, PySem.W.mg_none_of X G z_len, PySem.W.mg_none_of X G z_list, PySem.W.mg_none_of X G z_max, PySem.W.mg_none_of X G z_min, PySem.W.mg_none_of X G z_range, PySem.W.mg_none_of X G z_reversed, PySem.W.mg_none_of X G z_sorted, PySem.W.mg_none_of X G z_str, PySem.W.mg_none_of X G z_sum, PySem.W.mg_none_of X G z_tuple, PySem.W.mg_none_of X G z_zip, PySem.W.mg_none_of X G z_ValueError⟩
  have c_MOST_ROWS : ∃ t, mg "MOST_ROWS" = some (.int 20 t) := ⟨_, PySem.W.mg_of X G k_MOST_ROWS⟩
  have c_GREATEST : ∃ t, mg "GREATEST" = some (.int 1000000000 t) := ⟨_, PySem.W.mg_of X G k_GREATEST⟩
  have c_DEEPEST : ∃ t, mg "DEEPEST" = some (.int 8 t) := ⟨_, PySem.W.mg_of X G k_DEEPEST⟩
  have c_LONGEST : ∃ t, mg "LONGEST" = some (.int 8 t) := ⟨_, PySem.W.mg_of X G k_LONGEST⟩
  have c_LETTERS : ∃ t, mg "LETTERS" = some (.str "abcdefghijklmnopqrstuvwxyz" t) := ⟨_, PySem.W.mg_of X G k_LETTERS⟩
  have c_MOST_LINES : ∃ t, mg "MOST_LINES" = some (.int 40 t) := ⟨_, PySem.W.mg_of X G k_MOST_LINES⟩
  have c_MOST_TABLES : ∃ t, mg "MOST_TABLES" = some (.int 5 t) := ⟨_, PySem.W.mg_of X G k_MOST_TABLES⟩
  have c_MOST_CHOICES : ∃ t, mg "MOST_CHOICES" = some (.int 8 t) := ⟨_, PySem.W.mg_of X G k_MOST_CHOICES⟩
  have c_MOST : ∃ t, mg "MOST" = some (.int 8 t) := ⟨_, PySem.W.mg_of X G k_MOST⟩
  have c_MOST_YEARS : ∃ t, mg "MOST_YEARS" = some (.int 8 t) := ⟨_, PySem.W.mg_of X G k_MOST_YEARS⟩
  have T_NoTable : ExcT K mg "NoTable" C_NoTable := ⟨x_NoTable, PySem.W.mg_of X G n_NoTable, q_NoTable, b_NoTable, t_NoTable, d_NoTable⟩
  have T_NoForm : ExcT K mg "NoForm" C_NoForm := ⟨x_NoForm, PySem.W.mg_of X G n_NoForm, q_NoForm, b_NoForm, t_NoForm, d_NoForm⟩
  have T_NoRule : ExcT K mg "NoRule" C_NoRule := ⟨x_NoRule, PySem.W.mg_of X G n_NoRule, q_NoRule, b_NoRule, t_NoRule, d_NoRule⟩
  have T_Ring : ExcT K mg "Ring" C_Ring := ⟨x_Ring, PySem.W.mg_of X G n_Ring, q_Ring, b_Ring, t_Ring, d_Ring⟩
  have T_NoPaper : ExcT K mg "NoPaper" C_NoPaper := ⟨x_NoPaper, PySem.W.mg_of X G n_NoPaper, q_NoPaper, b_NoPaper, t_NoPaper, d_NoPaper⟩
  have T_NoYear : ExcT K mg "NoYear" C_NoYear := ⟨x_NoYear, PySem.W.mg_of X G n_NoYear, q_NoYear, b_NoYear, t_NoYear, d_NoYear⟩
  have T_NoLine : ExcT K mg "NoLine" C_NoLine := ⟨x_NoLine, PySem.W.mg_of X G n_NoLine, q_NoLine, b_NoLine, t_NoLine, d_NoLine⟩
  have T_NoChoice : ExcT K mg "NoChoice" C_NoChoice := ⟨x_NoChoice, PySem.W.mg_of X G n_NoChoice, q_NoChoice, b_NoChoice, t_NoChoice, d_NoChoice⟩
  have T_TooMany : ExcT K mg "TooMany" C_TooMany := ⟨x_TooMany, PySem.W.mg_of X G n_TooMany, q_TooMany, b_TooMany, t_TooMany, d_TooMany⟩
  have T_FormError : ExcT K mg "FormError" C_FormError := ⟨x_FormError, PySem.W.mg_of X G n_FormError, q_FormError, b_FormError, t_FormError, d_FormError⟩
  have e_NoForm_NoForm := PySem.W.exm_ref b_NoForm d_NoForm t_NoForm SB_NoForm_NoForm
  have e_NoForm_FormError := PySem.W.exm_ref b_FormError d_FormError t_FormError SB_NoForm_FormError
  have A_NoForm : AlC K C_NoForm _ _ := AlC.of ⟨hg_NoForm, hk_NoForm, b_NoForm, d_NoForm, ha_NoForm, hn_, ht_, hm_NoForm⟩ KV_NoForm KI_NoForm_NoTable KI_NoForm_NoForm KI_NoForm_NoRule KI_NoForm_Ring KI_NoForm_NoPaper KI_NoForm_NoYear KI_NoForm_NoLine KI_NoForm_NoChoice KI_NoForm_TooMany rfl
  have CF : ClsF K C_File := ⟨⟨pg_, hd_, po_, sa_⟩, nf_form, nf_papers, nf_taken, nf_lines⟩
  refine ⟨PySem.W.fnOf "law" "law" (defArgs s_law) (defBody s_law) (defScope s_law) .none kV doc pm an cdv ct, fun s v => .of_eq rfl, fun base _ _ => ?_⟩
  have g_is_whole := ok_is_whole (P := P) (w := w) (base := base) M D_is_whole
  have g_is_number := ok_is_number (P := P) (w := w) (base := base) M c_GREATEST g_is_whole D_is_number
  have g_is_row := ok_is_row (P := P) (w := w) (base := base) M g_is_whole g_is_number D_is_row
  have g_is_table := ok_is_table (P := P) (w := w) (base := base) M c_MOST_ROWS g_is_row D_is_table
  have g_at_number := ok_at_number (P := P) (w := w) (base := base) M D_at_number
  have g_is_word := ok_is_word (P := P) (w := w) (base := base) M c_LONGEST c_LETTERS D_is_word
  have g_is_plain := ok_is_plain (P := P) (w := w) (base := base) M g_is_whole g_is_number g_is_word D_is_plain
  have g_places_of := ok_places_of (P := P) (w := w) (base := base) M g_is_whole D_places_of
  have g_is_rule := ok_is_rule (P := P) (w := w) (base := base) M c_DEEPEST g_places_of g_is_plain D_is_rule
  have g_inner_rules := ok_inner_rules (P := P) (w := w) (base := base) M D_inner_rules
  have g_named := ok_named (P := P) (w := w) (base := base) M g_inner_rules D_named
  have g_ring_from := ok_ring_from (P := P) (w := w) (base := base) M g_named D_ring_from
  have g_ring_of := ok_ring_of (P := P) (w := w) (base := base) M g_ring_from D_ring_of
  have g_form_of := ok_form_of (P := P) (w := w) (base := base) M c_MOST_LINES c_MOST_TABLES c_MOST_CHOICES g_is_table g_is_whole g_is_rule g_ring_of D_form_of
  have g_order_of := ok_order_of (P := P) (w := w) (base := base) M g_named D_order_of
  have g_joined := ok_joined (P := P) (w := w) (base := base) M D_joined
  have g_comes_to := ok_comes_to (P := P) (w := w) (base := base) M g_at_number g_joined D_comes_to 8
  have g_papers_of := ok_papers_of (P := P) (w := w) (base := base) M T_NoPaper g_is_word g_is_number D_papers_of
  have g_need_choices := ok_need_choices (P := P) (w := w) (base := base) M T_NoChoice D_need_choices
  have g_reckoned := ok_reckoned (P := P) (w := w) (base := base) M g_papers_of g_need_choices g_order_of g_comes_to D_reckoned
  have g_history := ok_history (P := P) (w := w) (base := base) M g_reckoned D_history
  have g_hangs_behind := ok_hangs_behind (P := P) (w := w) (base := base) M g_order_of g_named D_hangs_behind
  have g_hanging_on := ok_hanging_on (P := P) (w := w) (base := base) M g_hangs_behind g_named D_hanging_on
  have g_hanging := ok_hanging (P := P) (w := w) (base := base) M g_hanging_on D_hanging
  have g_hanging_choice := ok_hanging_choice (P := P) (w := w) (base := base) M g_hanging_on D_hanging_choice
  have g_all_taken := ok_all_taken (P := P) (w := w) (base := base) M D_all_taken
  have g_by_years := ok_by_years (P := P) (w := w) (base := base) M D_by_years
  have g_owed := ok_owed (P := P) (w := w) (base := base) M g_history D_owed
  have g_sums := ok_sums (P := P) (w := w) (base := base) M T_TooMany c_MOST g_all_taken g_by_years g_owed D_sums
  have g_least := ok_least (P := P) (w := w) (base := base) M g_sums D_least
  have g___init__ := ok_initF (P := P) (w := w) (base := base) M CF T_NoForm c_MOST_YEARS g_is_whole g_history D_File___init__
  have MK_File := mkF_of g___init__ mk_ kc_ (PySem.W.mg_of X G n_File)
  have g_need_year := ok_need_year (P := P) (w := w) (base := base) M CF T_NoYear g_is_whole D_File_need_year
  have g_anew := ok_anew (P := P) (w := w) (base := base) M CF g_order_of g_comes_to D_File_anew
  have g_put := ok_putF (P := P) (w := w) (base := base) M CF T_NoPaper g_is_word g_is_number g_hanging g_need_year g_anew D_File_put
  have g_take := ok_takeF (P := P) (w := w) (base := base) M CF T_NoChoice g_is_whole g_hanging_choice g_need_year g_anew D_File_take
  have g_owed := ok_owedF (P := P) (w := w) (base := base) M CF D_File_owed
  have g__law_cell_at := ok_cell_at (P := P) (w := w) (base := base) M D__law_cell_at
  have g__law_mixed := ok_mixed (P := P) (w := w) (base := base) M D__law_mixed
  have g__law_next := ok_next (P := P) (w := w) (base := base) M D__law_next
  have g__law_number := ok_number (P := P) (w := w) (base := base) M g__law_next D__law_number
  have g__law_table := ok_law_table (P := P) (w := w) (base := base) M g__law_next g__law_number D__law_table
  have g__law_words := ok_words (P := P) (w := w) (base := base) M g__law_next D__law_words
  have g__law_plain := ok_plain (P := P) (w := w) (base := base) M g__law_next g__law_number D__law_plain
  have g__law_rule := ok_rule (P := P) (w := w) (base := base) M g__law_next g__law_plain D__law_rule 8
  have g__law_sizes := ok_sizes (P := P) (w := w) (base := base) M D__law_sizes
  have g__law_order := ok_order (P := P) (w := w) (base := base) M g__law_next D__law_order
  have g__law_form := ok_form (P := P) (w := w) (base := base) M g__law_cell_at g__law_mixed g__law_next g__law_sizes g__law_words g__law_order g__law_rule g__law_table D__law_form
  have g__law_papers := ok_law_papers (P := P) (w := w) (base := base) M g__law_next g__law_number D__law_papers
  have g__law_alone := ok_law_alone (P := P) (w := w) (base := base) M T_NoTable T_NoForm T_NoRule T_Ring T_NoPaper T_NoYear T_NoLine T_NoChoice T_TooMany D__law_alone
  have g__law_no_file := ok_nofile (P := P) (w := w) (base := base) M T_NoForm T_FormError e_NoForm_NoForm e_NoForm_FormError A_NoForm MK_File g__law_alone D__law_no_file
  have g__law_filled := ok_filled (P := P) (w := w) (base := base) M CF MK_File g_put g_take D__law_filled
  have g__law_turned := ok_turned (P := P) (w := w) (base := base) M D__law_turned
  exact law_fn F sc_law (ok_law M CF g__law_cell_at g__law_mixed g__law_next g__law_form g__law_papers g_form_of g_sums g_least g__law_no_file g__law_filled g__law_turned g_take g_owed)
end Fl
open PySem PySem.W PyProof.Rows
set_option maxRecDepth 100000 in
set_option maxHeartbeats 0 in
theorem PySem.Challenge.cw_formlines_k11_whole_least_holds : PySem.Challenge.rw_formlines_k11_whole_least.Holds := by
  w_on; o_law; k_head; (case hw => w_witness2)
  k_fill
  refine L2.walk_of (l := PySem.Challenge.rw_formlines_k11_whole_least) (n := 63) (k := 15) (x := "_law_script") (CX := fun w => L2.CX PySem.Challenge.rw_formlines_k11_whole_least.prog w) (sp := fun w => Fl.sp1 (Fl.sp_law _)) rfl (by decide) rfl ⟨rfl, by decide, by decide⟩ (fun w h Y => PySem.W.kIn_of Y) ?F (fun w H a ns hl ho hS => ⟨_, rfl, a, ns, rfl, Fl.Scr.of ho hS, fun _ => rfl⟩) (fun _ _ _ _ _ ⟨_, _, _, _, _, _, _, _, _, _, _, _, z⟩ => z)
  case F =>
    intro w mg fa h KX G hmg
    refine' Fl.all_mk KX G hmg ?k_MOST_ROWS
      ?k_GREATEST
      ?k_DEEPEST
      ?k_LONGEST
      ?k_LETTERS
      ?k_MOST_LINES
      ?k_MOST_TABLES
      ?k_MOST_CHOICES
      ?k_MOST
      ?k_MOST_YEARS
      ?z_all
      ?z_any
      ?z_bool
      ?z_dict
      ?z_int
      ?z_isinstance
      ?z_len
      ?z_list
      ?z_max
      ?z_min
      ?z_range
      ?z_reversed
      ?z_sorted
      ?z_str
      ?z_sum
      ?z_tuple
      ?z_zip
      ?z_ValueError
      ?n_NoTable
      ?x_NoTable
      ?q_NoTable
      ?b_NoTable
      ?t_NoTable
      ?d_NoTable
      ?n_NoForm
      ?x_NoForm
      ?q_NoForm
      ?b_NoForm
      ?t_NoForm
      ?d_NoForm
      ?n_NoRule
      ?x_NoRule
      ?q_NoRule
      ?b_NoRule
      ?t_NoRule
      ?d_NoRule
      ?n_Ring
      ?x_Ring
      ?q_Ring
      ?b_Ring
      ?t_Ring
      ?d_Ring
      ?n_NoPaper
      ?x_NoPaper
      ?q_NoPaper
      ?b_NoPaper
      ?t_NoPaper
      ?d_NoPaper
      ?n_NoYear
      ?x_NoYear
      ?q_NoYear
      ?b_NoYear
      ?t_NoYear
      ?d_NoYear
      ?n_NoLine
      ?x_NoLine
      ?q_NoLine
      ?b_NoLine
      ?t_NoLine
      ?d_NoLine
      ?n_NoChoice
      ?x_NoChoice
      ?q_NoChoice
      ?b_NoChoice
      ?t_NoChoice
      ?d_NoChoice
      ?n_TooMany
      ?x_TooMany
      ?q_TooMany
      ?b_TooMany
      ?t_TooMany
      ?d_TooMany
      ?n_FormError
      ?x_FormError
      ?q_FormError
      ?b_FormError
      ?t_FormError
      ?d_FormError
      ?SB_NoForm_NoForm
      ?SB_NoForm_FormError
      ?hn_
      ?ht_
      ?hg_NoForm
      ?hk_NoForm
      ?ha_NoForm
      ?hm_NoForm
      ?KV_NoForm
      ?KI_NoForm_NoTable
      ?KI_NoForm_NoForm
      ?KI_NoForm_NoRule
      ?KI_NoForm_Ring
      ?KI_NoForm_NoPaper
      ?KI_NoForm_NoYear
      ?KI_NoForm_NoLine
      ?KI_NoForm_NoChoice
      ?KI_NoForm_TooMany
      ?n_File
      ?pg_
      ?hd_
      ?po_
      ?sa_
      ?mk_
      ?kc_
      ?nf_form
      ?nf_papers
      ?nf_taken
      ?nf_lines
      (Fl.methAt_mk ?ma___init__ ?mi___init__ ?ml___init__ ?mc___init__ ?mk___init__ (fun _ _ _ _ _ _ us hl => match us, hl with | [_, _, _], _ => rfl))
      (Fl.methAt_mk ?ma_need_year ?mi_need_year ?ml_need_year ?mc_need_year ?mk_need_year (fun _ _ _ _ _ _ us hl => match us, hl with | [_, _], _ => rfl))
      (Fl.methAt_mk ?ma_anew ?mi_anew ?ml_anew ?mc_anew ?mk_anew (fun _ _ _ _ _ _ us hl => match us, hl with | [_, _], _ => rfl))
      (Fl.methAt_mk ?ma_put ?mi_put ?ml_put ?mc_put ?mk_put (fun _ _ _ _ _ _ us hl => match us, hl with | [_, _, _, _], _ => rfl))
      (Fl.methAt_mk ?ma_take ?mi_take ?ml_take ?mc_take ?mk_take (fun _ _ _ _ _ _ us hl => match us, hl with | [_, _, _, _], _ => rfl))
      (Fl.methAt_mk ?ma_owed ?mi_owed ?ml_owed ?mc_owed ?mk_owed (fun _ _ _ _ _ _ us hl => match us, hl with | [_], _ => rfl))
      (Fl.defAt_mk KX G ?a_is_whole ?l_is_whole ?c_is_whole ?k_is_whole (fun _ _ _ _ _ _ us hl => match us, hl with | [_, _, _], _ => rfl))
      (Fl.defAt_mk KX G ?a_is_number ?l_is_number ?c_is_number ?k_is_number (fun _ _ _ _ _ _ us hl => match us, hl with | [_], _ => rfl))
      (Fl.defAt_mk KX G ?a_is_row ?l_is_row ?c_is_row ?k_is_row (fun _ _ _ _ _ _ us hl => match us, hl with | [_], _ => rfl))
      (Fl.defAt_mk KX G ?a_is_table ?l_is_table ?c_is_table ?k_is_table (fun _ _ _ _ _ _ us hl => match us, hl with | [_], _ => rfl))
      (Fl.defAt_mk KX G ?a_at_number ?l_at_number ?c_at_number ?k_at_number (fun _ _ _ _ _ _ us hl => match us, hl with | [_, _], _ => rfl))
      (Fl.defAt_mk KX G ?a_is_word ?l_is_word ?c_is_word ?k_is_word (fun _ _ _ _ _ _ us hl => match us, hl with | [_], _ => rfl))
      (Fl.defAt_mk KX G ?a_is_plain ?l_is_plain ?c_is_plain ?k_is_plain (fun _ _ _ _ _ _ us hl => match us, hl with | [_, _], _ => rfl))
      (Fl.defAt_mk KX G ?a_places_of ?l_places_of ?c_places_of ?k_places_of (fun _ _ _ _ _ _ us hl => match us, hl with | [_, _, _], _ => rfl))
      (Fl.defAt_mk KX G ?a_is_rule ?l_is_rule ?c_is_rule ?k_is_rule (fun _ _ _ _ _ _ us hl => match us, hl with | [_, _, _, _], _ => rfl))
      (Fl.defAt_mk KX G ?a_inner_rules ?l_inner_rules ?c_inner_rules ?k_inner_rules (fun _ _ _ _ _ _ us hl => match us, hl with | [_], _ => rfl))
      (Fl.defAt_mk KX G ?a_named ?l_named ?c_named ?k_named (fun _ _ _ _ _ _ us hl => match us, hl with | [_, _], _ => rfl))
      (Fl.defAt_mk KX G ?a_ring_from ?l_ring_from ?c_ring_from ?k_ring_from (fun _ _ _ _ _ _ us hl => match us, hl with | [_, _], _ => rfl))
      (Fl.defAt_mk KX G ?a_ring_of ?l_ring_of ?c_ring_of ?k_ring_of (fun _ _ _ _ _ _ us hl => match us, hl with | [_], _ => rfl))
      (Fl.defAt_mk KX G ?a_form_of ?l_form_of ?c_form_of ?k_form_of (fun _ _ _ _ _ _ us hl => match us, hl with | [_, _, _, _], _ => rfl))
      (Fl.defAt_mk KX G ?a_order_of ?l_order_of ?c_order_of ?k_order_of (fun _ _ _ _ _ _ us hl => match us, hl with | [_], _ => rfl))
      (Fl.defAt_mk KX G ?a_joined ?l_joined ?c_joined ?k_joined (fun _ _ _ _ _ _ us hl => match us, hl with | [_, _, _], _ => rfl))
      (Fl.defAt_mk KX G ?a_comes_to ?l_comes_to ?c_comes_to ?k_comes_to (fun _ _ _ _ _ _ us hl => match us, hl with | [_, _], _ => rfl))
      (Fl.defAt_mk KX G ?a_papers_of ?l_papers_of ?c_papers_of ?k_papers_of (fun _ _ _ _ _ _ us hl => match us, hl with | [_], _ => rfl))
      (Fl.defAt_mk KX G ?a_need_choices ?l_need_choices ?c_need_choices ?k_need_choices (fun _ _ _ _ _ _ us hl => match us, hl with | [_, _], _ => rfl))
      (Fl.defAt_mk KX G ?a_reckoned ?l_reckoned ?c_reckoned ?k_reckoned (fun _ _ _ _ _ _ us hl => match us, hl with | [_, _, _, _], _ => rfl))
      (Fl.defAt_mk KX G ?a_history ?l_history ?c_history ?k_history (fun _ _ _ _ _ _ us hl => match us, hl with | [_, _, _], _ => rfl))
      (Fl.defAt_mk KX G ?a_hangs_behind ?l_hangs_behind ?c_hangs_behind ?k_hangs_behind (fun _ _ _ _ _ _ us hl => match us, hl with | [_, _, _], _ => rfl))
      (Fl.defAt_mk KX G ?a_hanging_on ?l_hanging_on ?c_hanging_on ?k_hanging_on (fun _ _ _ _ _ _ us hl => match us, hl with | [_, _, _, _, _], _ => rfl))
      (Fl.defAt_mk KX G ?a_hanging ?l_hanging ?c_hanging ?k_hanging (fun _ _ _ _ _ _ us hl => match us, hl with | [_, _, _, _], _ => rfl))
      (Fl.defAt_mk KX G ?a_hanging_choice ?l_hanging_choice ?c_hanging_choice ?k_hanging_choice (fun _ _ _ _ _ _ us hl => match us, hl with | [_, _, _, _], _ => rfl))
      (Fl.defAt_mk KX G ?a_all_taken ?l_all_taken ?c_all_taken ?k_all_taken (fun _ _ _ _ _ _ us hl => match us, hl with | [_], _ => rfl))
      (Fl.defAt_mk KX G ?a_by_years ?l_by_years ?c_by_years ?k_by_years (fun _ _ _ _ _ _ us hl => match us, hl with | [_, _, _], _ => rfl))
      (Fl.defAt_mk KX G ?a_owed ?l_owed ?c_owed ?k_owed (fun _ _ _ _ _ _ us hl => match us, hl with | [_, _, _], _ => rfl))
      (Fl.defAt_mk KX G ?a_sums ?l_sums ?c_sums ?k_sums (fun _ _ _ _ _ _ us hl => match us, hl with | [_, _], _ => rfl))
      (Fl.defAt_mk KX G ?a_least ?l_least ?c_least ?k_least (fun _ _ _ _ _ _ us hl => match us, hl with | [_, _], _ => rfl))
      (Fl.defAt_mk KX G ?a__law_cell_at ?l__law_cell_at ?c__law_cell_at ?k__law_cell_at (fun _ _ _ _ _ _ us hl => match us, hl with | [_, _], _ => rfl))
      (Fl.defAt_mk KX G ?a__law_mixed ?l__law_mixed ?c__law_mixed ?k__law_mixed (fun _ _ _ _ _ _ us hl => match us, hl with | [_, _], _ => rfl))
      (Fl.defAt_mk KX G ?a__law_next ?l__law_next ?c__law_next ?k__law_next (fun _ _ _ _ _ _ us hl => match us, hl with | [_, _], _ => rfl))
      (Fl.defAt_mk KX G ?a__law_number ?l__law_number ?c__law_number ?k__law_number (fun _ _ _ _ _ _ us hl => match us, hl with | [_], _ => rfl))
      (Fl.defAt_mk KX G ?a__law_table ?l__law_table ?c__law_table ?k__law_table (fun _ _ _ _ _ _ us hl => match us, hl with | [_], _ => rfl))
      (Fl.defAt_mk KX G ?a__law_words ?l__law_words ?c__law_words ?k__law_words (fun _ _ _ _ _ _ us hl => match us, hl with | [_], _ => rfl))
      (Fl.defAt_mk KX G ?a__law_plain ?l__law_plain ?c__law_plain ?k__law_plain (fun _ _ _ _ _ _ us hl => match us, hl with | [_, _, _, _], _ => rfl))
      (Fl.defAt_mk KX G ?a__law_rule ?l__law_rule ?c__law_rule ?k__law_rule (fun _ _ _ _ _ _ us hl => match us, hl with | [_, _, _, _, _], _ => rfl))
      (Fl.defAt_mk KX G ?a__law_sizes ?l__law_sizes ?c__law_sizes ?k__law_sizes (fun _ _ _ _ _ _ us hl => match us, hl with | [_, _], _ => rfl))
      (Fl.defAt_mk KX G ?a__law_order ?l__law_order ?c__law_order ?k__law_order (fun _ _ _ _ _ _ us hl => match us, hl with | [_, _], _ => rfl))
      (Fl.defAt_mk KX G ?a__law_form ?l__law_form ?c__law_form ?k__law_form (fun _ _ _ _ _ _ us hl => match us, hl with | [_, _], _ => rfl))
      (Fl.defAt_mk KX G ?a__law_papers ?l__law_papers ?c__law_papers ?k__law_papers (fun _ _ _ _ _ _ us hl => match us, hl with | [_, _], _ => rfl))
      (Fl.defAt_mk KX G ?a__law_alone ?l__law_alone ?c__law_alone ?k__law_alone (fun _ _ _ _ _ _ us hl => match us, hl with | [_], _ => rfl))
      (Fl.defAt_mk KX G ?a__law_no_file ?l__law_no_file ?c__law_no_file ?k__law_no_file (fun _ _ _ _ _ _ us hl => match us, hl with | [_, _], _ => rfl))
      (Fl.defAt_mk KX G ?a__law_filled ?l__law_filled ?c__law_filled ?k__law_filled (fun _ _ _ _ _ _ us hl => match us, hl with | [_, _, _], _ => rfl))
      (Fl.defAt_mk KX G ?a__law_turned ?l__law_turned ?c__law_turned ?k__law_turned (fun _ _ _ _ _ _ us hl => match us, hl with | [_, _, _], _ => rfl))
      ?a0
      ?l0
      ?c0
      ?k0
    (case k_MOST_ROWS => k_is)
    (case k_GREATEST => k_is)
    (case k_DEEPEST => k_is)
    (case k_LONGEST => k_is)
    (case k_LETTERS => k_is)
    (case k_MOST_LINES => k_is)
    (case k_MOST_TABLES => k_is)
    (case k_MOST_CHOICES => k_is)
    (case k_MOST => k_is)
    (case k_MOST_YEARS => k_is)
    (case z_all => k_is)
    (case z_any => k_is)
    (case z_bool => k_is)
    (case z_dict => k_is)
    (case z_int => k_is)
    (case z_isinstance => k_is)
    (case z_len => k_is)
    (case z_list => k_is)
    (case z_max => k_is)
    (case z_min => k_is)
    (case z_range => k_is)
    (case z_reversed => k_is)
    (case z_sorted => k_is)
    (case z_str => k_is)
    (case z_sum => k_is)
    (case z_tuple => k_is)
    (case z_zip => k_is)
    (case z_ValueError => k_is)
    (case n_NoTable => k_is)
    (case x_NoTable => k_exc)
    (case q_NoTable => k_is)
    (case b_NoTable => k_is)
    (case t_NoTable => k_is)
    (case d_NoTable => k_is)
    (case n_NoForm => k_is)
    (case x_NoForm => k_exc)
    (case q_NoForm => k_is)
    (case b_NoForm => k_is)
    (case t_NoForm => k_is)
    (case d_NoForm => k_is)
    (case n_NoRule => k_is)
    (case x_NoRule => k_exc)
    (case q_NoRule => k_is)
    (case b_NoRule => k_is)
    (case t_NoRule => k_is)
    (case d_NoRule => k_is)
    (case n_Ring => k_is)
    (case x_Ring => k_exc)
    (case q_Ring => k_is)
    (case b_Ring => k_is)
    (case t_Ring => k_is)
    (case d_Ring => k_is)
    (case n_NoPaper => k_is)
    (case x_NoPaper => k_exc)
    (case q_NoPaper => k_is)
    (case b_NoPaper => k_is)
    (case t_NoPaper => k_is)
    (case d_NoPaper => k_is)
    (case n_NoYear => k_is)
    (case x_NoYear => k_exc)
    (case q_NoYear => k_is)
    (case b_NoYear => k_is)
    (case t_NoYear => k_is)
    (case d_NoYear => k_is)
    (case n_NoLine => k_is)
    (case x_NoLine => k_exc)
    (case q_NoLine => k_is)
    (case b_NoLine => k_is)
    (case t_NoLine => k_is)
    (case d_NoLine => k_is)
    (case n_NoChoice => k_is)
    (case x_NoChoice => k_exc)
    (case q_NoChoice => k_is)
    (case b_NoChoice => k_is)
    (case t_NoChoice => k_is)
    (case d_NoChoice => k_is)
    (case n_TooMany => k_is)
    (case x_TooMany => k_exc)
    (case q_TooMany => k_is)
    (case b_TooMany => k_is)
    (case t_TooMany => k_is)
    (case d_TooMany => k_is)
    (case n_FormError => k_is)
    (case x_FormError => k_exc)
    (case q_FormError => k_is)
    (case b_FormError => k_is)
    (case t_FormError => k_is)
    (case d_FormError => k_is)
    (case SB_NoForm_NoForm => first | k_is | rfl)
    (case SB_NoForm_FormError => first | k_is | rfl)
    (case hn_ => k_is)
    (case ht_ => k_is)
    (case hg_NoForm => k_is)
    (case hk_NoForm => k_is)
    (case ha_NoForm => k_is)
    (case hm_NoForm => first | k_is | rfl)
    (case KV_NoForm => first | k_is | rfl)
    (case KI_NoForm_NoTable => first | k_is | rfl)
    (case KI_NoForm_NoForm => first | k_is | rfl)
    (case KI_NoForm_NoRule => first | k_is | rfl)
    (case KI_NoForm_Ring => first | k_is | rfl)
    (case KI_NoForm_NoPaper => first | k_is | rfl)
    (case KI_NoForm_NoYear => first | k_is | rfl)
    (case KI_NoForm_NoLine => first | k_is | rfl)
    (case KI_NoForm_NoChoice => first | k_is | rfl)
    (case KI_NoForm_TooMany => first | k_is | rfl)
    (case n_File => k_is)
    (case pg_ => k_is)
    (case hd_ => k_is)
    (case po_ => k_is)
    (case sa_ => k_is)
    (case mk_ => k_is)
    (case kc_ => k_is)
    (case nf_form => k_is)
    (case nf_papers => k_is)
    (case nf_taken => k_is)
    (case nf_lines => k_is)
    (case ma___init__ => k_is)
    (case mi___init__ => k_is)
    (case ml___init__ => k_is)
    (case mc___init__ => k_is)
    (case mk___init__ => k_is)
    (case ma_need_year => k_is)
    (case mi_need_year => k_is)
    (case ml_need_year => k_is)
    (case mc_need_year => k_is)
    (case mk_need_year => k_is)
    (case ma_anew => k_is)
    (case mi_anew => k_is)
    (case ml_anew => k_is)
    (case mc_anew => k_is)
    (case mk_anew => k_is)
    (case ma_put => k_is)
    (case mi_put => k_is)
    (case ml_put => k_is)
    (case mc_put => k_is)
    (case mk_put => k_is)
    (case ma_take => k_is)
    (case mi_take => k_is)
    (case ml_take => k_is)
    (case mc_take => k_is)
    (case mk_take => k_is)
    (case ma_owed => k_is)
    (case mi_owed => k_is)
    (case ml_owed => k_is)
    (case mc_owed => k_is)
    (case mk_owed => k_is)
    (case a_is_whole => k_is)
    (case l_is_whole => k_is)
    (case c_is_whole => k_is)
    (case k_is_whole => k_is)
    (case a_is_number => k_is)
    (case l_is_number => k_is)
    (case c_is_number => k_is)
    (case k_is_number => k_is)
    (case a_is_row => k_is)
    (case l_is_row => k_is)
    (case c_is_row => k_is)
    (case k_is_row => k_is)
    (case a_is_table => k_is)
    (case l_is_table => k_is)
    (case c_is_table => k_is)
    (case k_is_table => k_is)
    (case a_at_number => k_is)
    (case l_at_number => k_is)
    (case c_at_number => k_is)
    (case k_at_number => k_is)
    (case a_is_word => k_is)
    (case l_is_word => k_is)
    (case c_is_word => k_is)
    (case k_is_word => k_is)
    (case a_is_plain => k_is)
    (case l_is_plain => k_is)
    (case c_is_plain => k_is)
    (case k_is_plain => k_is)
    (case a_places_of => k_is)
    (case l_places_of => k_is)
    (case c_places_of => k_is)
    (case k_places_of => k_is)
    (case a_is_rule => k_is)
    (case l_is_rule => k_is)
    (case c_is_rule => k_is)
    (case k_is_rule => k_is)
    (case a_inner_rules => k_is)
    (case l_inner_rules => k_is)
    (case c_inner_rules => k_is)
    (case k_inner_rules => k_is)
    (case a_named => k_is)
    (case l_named => k_is)
    (case c_named => k_is)
    (case k_named => k_is)
    (case a_ring_from => k_is)
    (case l_ring_from => k_is)
    (case c_ring_from => k_is)
    (case k_ring_from => k_is)
    (case a_ring_of => k_is)
    (case l_ring_of => k_is)
    (case c_ring_of => k_is)
    (case k_ring_of => k_is)
    (case a_form_of => k_is)
    (case l_form_of => k_is)
    (case c_form_of => k_is)
    (case k_form_of => k_is)
    (case a_order_of => k_is)
    (case l_order_of => k_is)
    (case c_order_of => k_is)
    (case k_order_of => k_is)
    (case a_joined => k_is)
    (case l_joined => k_is)
    (case c_joined => k_is)
    (case k_joined => k_is)
    (case a_comes_to => k_is)
    (case l_comes_to => k_is)
    (case c_comes_to => k_is)
    (case k_comes_to => k_is)
    (case a_papers_of => k_is)
    (case l_papers_of => k_is)
    (case c_papers_of => k_is)
    (case k_papers_of => k_is)
    (case a_need_choices => k_is)
    (case l_need_choices => k_is)
    (case c_need_choices => k_is)
    (case k_need_choices => k_is)
    (case a_reckoned => k_is)
    (case l_reckoned => k_is)
    (case c_reckoned => k_is)
    (case k_reckoned => k_is)
    (case a_history => k_is)
    (case l_history => k_is)
    (case c_history => k_is)
    (case k_history => k_is)
    (case a_hangs_behind => k_is)
    (case l_hangs_behind => k_is)
    (case c_hangs_behind => k_is)
    (case k_hangs_behind => k_is)
    (case a_hanging_on => k_is)
    (case l_hanging_on => k_is)
    (case c_hanging_on => k_is)
    (case k_hanging_on => k_is)
    (case a_hanging => k_is)
    (case l_hanging => k_is)
    (case c_hanging => k_is)
    (case k_hanging => k_is)
    (case a_hanging_choice => k_is)
    (case l_hanging_choice => k_is)
    (case c_hanging_choice => k_is)
    (case k_hanging_choice => k_is)
    (case a_all_taken => k_is)
    (case l_all_taken => k_is)
    (case c_all_taken => k_is)
    (case k_all_taken => k_is)
    (case a_by_years => k_is)
    (case l_by_years => k_is)
    (case c_by_years => k_is)
    (case k_by_years => k_is)
    (case a_owed => k_is)
    (case l_owed => k_is)
    (case c_owed => k_is)
    (case k_owed => k_is)
    (case a_sums => k_is)
    (case l_sums => k_is)
    (case c_sums => k_is)
    (case k_sums => k_is)
    (case a_least => k_is)
    (case l_least => k_is)
    (case c_least => k_is)
    (case k_least => k_is)
    (case a__law_cell_at => k_is)
    (case l__law_cell_at => k_is)
    (case c__law_cell_at => k_is)
    (case k__law_cell_at => k_is)
    (case a__law_mixed => k_is)
    (case l__law_mixed => k_is)
    (case c__law_mixed => k_is)
    (case k__law_mixed => k_is)
    (case a__law_next => k_is)
    (case l__law_next => k_is)
    (case c__law_next => k_is)
    (case k__law_next => k_is)
    (case a__law_number => k_is)
    (case l__law_number => k_is)
    (case c__law_number => k_is)
    (case k__law_number => k_is)
    (case a__law_table => k_is)
    (case l__law_table => k_is)
    (case c__law_table => k_is)
    (case k__law_table => k_is)
    (case a__law_words => k_is)
    (case l__law_words => k_is)
    (case c__law_words => k_is)
    (case k__law_words => k_is)
    (case a__law_plain => k_is)
    (case l__law_plain => k_is)
    (case c__law_plain => k_is)
    (case k__law_plain => k_is)
    (case a__law_rule => k_is)
    (case l__law_rule => k_is)
    (case c__law_rule => k_is)
    (case k__law_rule => k_is)
    (case a__law_sizes => k_is)
    (case l__law_sizes => k_is)
    (case c__law_sizes => k_is)
    (case k__law_sizes => k_is)
    (case a__law_order => k_is)
    (case l__law_order => k_is)
    (case c__law_order => k_is)
    (case k__law_order => k_is)
    (case a__law_form => k_is)
    (case l__law_form => k_is)
    (case c__law_form => k_is)
    (case k__law_form => k_is)
    (case a__law_papers => k_is)
    (case l__law_papers => k_is)
    (case c__law_papers => k_is)
    (case k__law_papers => k_is)
    (case a__law_alone => k_is)
    (case l__law_alone => k_is)
    (case c__law_alone => k_is)
    (case k__law_alone => k_is)
    (case a__law_no_file => k_is)
    (case l__law_no_file => k_is)
    (case c__law_no_file => k_is)
    (case k__law_no_file => k_is)
    (case a__law_filled => k_is)
    (case l__law_filled => k_is)
    (case c__law_filled => k_is)
    (case k__law_filled => k_is)
    (case a__law_turned => k_is)
    (case l__law_turned => k_is)
    (case c__law_turned => k_is)
    (case k__law_turned => k_is)
    (case a0 => k_is)
    (case l0 => k_is)
    (case c0 => k_is)
    (case k0 => k_is)

