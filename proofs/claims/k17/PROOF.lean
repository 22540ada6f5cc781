import PyProof.Rows.All
import Wide.All
import OpenK.AllK
import Wide.FinOn
import HandS.ForMost
import HandS.StrMore
import HandS.Wide
import HandS.IsInst
import HandS.Flow
import HandS.Codes
import HandS.Deep
import HandS.EndBits
import HandS.Walk
import KE.DataEq
import HandS.OwnEq
import HandS.Comp
import HandS.Property
import KE.KIsAll
import KE.KExcIs
import HandS.Exc
import HandS.ExcOwn
import HandS.ExcInit
import HandS.ExcField
import HandS.ExcIs
import HandS.TryOnly
import HandS.TryMany
import HandS.CallSlots
import HandS.WordsExc
import HandS.Small
import HandS.FStr
import HandS.More
import PySem.Challenge.RW_livequill_k17_operators_of_integers
set_option Elab.async false
set_option linter.all false
set_option maxRecDepth 100000
/-! Fx: readings that compute: every operation is one function of its values, whatever their kinds. -/
namespace Fx
open PySem PySem.Spec PyProof.Rows L2

/-! ### weakening -/
section
variable {X : Cx}
theorem pe_wk {e : Expr} {t t' : TE} (h : PE X e t) (w : ∀ σ H Q, t' σ H Q → t σ H Q) : PE X e t' := ⟨fun pins s σ H Q I q => h.run pins s σ H Q I (w σ H Q q)⟩
theorem pt_wk {e : Expr} {t t' : TT} (h : PT X e t) (w : ∀ σ H Q, t' σ H Q → t σ H Q) : PT X e t' := ⟨fun pins s σ H Q I q => h.run pins s σ H Q I (w σ H Q q)⟩
theorem ps_wk {e : Stmt} {t t' : TS} (h : PS X e t) (w : ∀ D σ H, t' D σ H → t D σ H) : PS X e t' := ⟨fun pins s σ H D I q => h.run pins s σ H D I (w D σ H q)⟩
theorem op_wk {f : Value → Value → Sem Value} {r r' : R2} (h : OpR X f r) (w : ∀ x y H Q, r' x y H Q → r x y H Q) : OpR X f r' := fun pins s σ H x y v u Q I rx ry q => h pins s σ H x y v u Q I rx ry (w x y H Q q)
theorem call_wk {f : Value} {r r' : List V → Hp → VK → Prop} (h : CallR X f r) (w : ∀ xs H Q, r' xs H Q → r xs H Q) : CallR X f r' := fun pins s σ H xs us Q I rx q => h pins s σ H xs us Q I rx (w xs H Q q)

/-! ### names -/
def fVar (i : Nat) : TE := fun σ H Q => match σ[i]? with
  | some (some v) => Q v H
  | _ => False
theorem fe_var (i : Nat) {x : Str} {pos : Pos} (hN : X.N[i]? = some x := by rfl) (hv : Vis X.env.scope x := by first | exact Or.inl rfl | exact Or.inr (Or.inl rfl) | exact Or.inr (Or.inr rfl)) (hd : (x == ("__debug__" : Str)) = false := by decide)
    (hcd : (x == ("__classdict__" : Str)) = false := by decide) : PE X (.Name x pos) (fVar i) := pe_wk (pe_var hN hv hd hcd) fun σ H Q q => by
  unfold fVar at q
  split at q
  · exact ⟨_, by assumption, q⟩
  · exact q.elim

theorem same_new {H : Hp} {p : Addr} {o : HO} (h : H p = none) : Same H (upd H p o) := fun b x e => by
  rw [upd_ne (ne_of_none e h)]
  exact e
/-- a new tuple, a new list: behind it a heap that has it and keeps the rest -/
def fTup (t : TA) : TE := fun σ H Q => t σ H fun xs H1 => xs.length ≤ 100000 ∧ ∀ p H2, H1 p = none → Same H1 H2 → H2 p = some (.tup xs) → Q (.ref p) H2
def fLst (t : TA) : TE := fun σ H Q => t σ H fun xs H1 => xs.length ≤ 100000 ∧ ∀ p H2, H1 p = none → Same H1 H2 → H2 p = some (.lst xs) → Q (.ref p) H2
theorem line5 {n : Nat} (h : n ≤ 100000) : n ≤ sizeLine := Nat.le_trans h (by decide)
section
variable {es : List Expr} {t : TA} {pos : Pos}
theorem fe_tup {x1} (h : PA X es t) : PE X (.Tuple es x1 pos) (fTup t) := by
  refine ⟨fun pins s σ H Q I hq => ?_⟩
  refine wpAny_Tuple_spliced (thn (h.run pos pins s σ H _ I hq) fun us s1 ⟨xs, H1, I1, r, z, q⟩ => ⟨by rw [← r.length]; exact line5 z, ?_⟩)
  have hf : H1 s1.heap.objs.size = none := I1.hok.fresh (Nat.le_refl _)
  refine ⟨.ref s1.heap.objs.size, upd H1 s1.heap.objs.size (.tup xs), I1.laid (t' := s1.toks) (fun b u e => Heap.get?_push_of_some _ e) (Nat.le_refl _) ?_, rfl, q _ _ hf (same_new hf) upd_same⟩
  exact ⟨line5 z, us, r, ⟨_, Heap.get?_push_size _ rfl, rfl, _, rfl⟩⟩
theorem fe_lst (h : PA X es t) : PE X (.List es pos) (fLst t) := by
  refine ⟨fun pins s σ H Q I hq => ?_⟩
  refine wpAny_List_spliced (thn (h.run pos pins s σ H _ I hq) fun us s1 ⟨xs, H1, I1, r, z, q⟩ => ⟨by rw [← r.length]; exact line5 z, ?_⟩)
  have hf : H1 s1.heap.objs.size = none := I1.hok.fresh (Nat.le_refl _)
  refine ⟨.ref s1.heap.objs.size, upd H1 s1.heap.objs.size (.lst xs), I1.laid (t' := s1.toks) (fun b u e => Heap.get?_push_of_some _ e) (Nat.le_refl _) ?_, rfl, q _ _ hf (same_new hf) upd_same⟩
  exact ⟨line5 z, us, 0, r, Heap.get?_push_size _ rfl⟩
end
/-! ### a list or a tuple that is read -/
def Rl (K : PySem.W.Frag) (H : Hp) (a : Addr) (xs : List V) : Prop := SqL K H a xs ∨ SqT K H a xs
theorem rl_l {K : PySem.W.Frag} {H : Hp} {a : Addr} {xs : List V} (h : H a = some (.lst xs)) : Rl K H a xs := .inl (SqL.of h)
theorem rl_t {K : PySem.W.Frag} {H : Hp} {a : Addr} {xs : List V} (h : H a = some (.tup xs)) : Rl K H a xs := .inr (SqT.of h)

/-! ### operators by values -/
def fAdd (K : PySem.W.Frag) : R2 := fun x y H Q => match x, y with
  | .int i, .int j => Q (.int (i + j)) H
  | .str a, .str b => a.length + b.length ≤ sizeLine ∧ Q (.str (a ++ b)) H
  | .ref l, .ref b => match H l, H b with
    | some (.lst xs), some (.lst zs) => xs.length + zs.length ≤ sizeLine ∧ ∀ p H1, H p = none → Same H H1 → H1 p = some (.lst (xs ++ zs)) → Q (.ref p) H1
    | _, _ => False
  | _, _ => False
theorem op_fAdd : OpR X (binaryOp .Add) (fAdd X.K) := by
  intro pins s σ H x y v u Q I rx ry h
  cases x <;> cases y <;> first
    | exact False.elim h
    | exact op_add pins s σ H _ _ v u Q I rx ry ⟨_, _, rfl, rfl, h⟩
    | exact op_add_str pins s σ H _ _ v u Q I rx ry ⟨_, _, rfl, rfl, h⟩
    | (dsimp only [fAdd] at h
       split at h
       · exact op_cat pins s σ H _ _ v u Q I rx ry ⟨_, _, _, _, rfl, rfl, by assumption, by assumption, h.1, fun p np => h.2 p _ np (same_new np) upd_same⟩
       · exact h.elim)
def fSub : R2 := fun x y H Q => match x, y with
  | .int i, .int j => Q (.int (i - j)) H
  | _, _ => False
theorem op_fSub : OpR X (binaryOp .Sub) fSub := by
  intro pins s σ H x y v u Q I rx ry h
  cases x <;> cases y <;> first
    | exact False.elim h
    | exact op_sub pins s σ H _ _ v u Q I rx ry ⟨_, _, rfl, rfl, h⟩
def fMul : R2 := fun x y H Q => match x, y with
  | .int i, .int j => IntMulOk i j ∧ Q (.int (i * j)) H
  | .str a, .int j => MulOk a j ∧ Q (.str (Txt.mul a j)) H
  | .ref l, .int k => rRep (.ref l) (.int k) H Q
  | _, _ => False
theorem op_fMul : OpR X (binaryOp .Mult) fMul := by
  intro pins s σ H x y v u Q I rx ry h
  match x, y, rx, ry, h with
  | .int i, .int j, ⟨t, e⟩, ⟨t', e'⟩, ⟨hm, q⟩ =>
    subst e e'
    exact mul_int ⟨.int _, H, I.tok _, ⟨_, rfl⟩, q⟩ hm
  | .str a, .int j, ⟨t, e⟩, ⟨t', e'⟩, ⟨hm, q⟩ =>
    subst e e'
    exact SB.mul hm fun t' k => ⟨.str _, H, I.tok _, ⟨_, rfl⟩, q⟩
  | .ref l, .int k, rx, ry, h => exact op_rep pins s σ H _ _ v u Q I rx ry h
def fDiv : R2 := fun x y H Q => match x, y with
  | .int i, .int j => CDivW i j ∧ Q (.int (i / j)) H
  | _, _ => False
theorem op_fDiv : OpR X (binaryOp .FloorDiv) fDiv := by
  intro pins s σ H x y v u Q I rx ry h
  cases x <;> cases y <;> first
    | exact False.elim h
    | exact op_fdivW pins s σ H _ _ v u Q I rx ry ⟨_, _, rfl, rfl, h⟩
def fMod : R2 := fun x y H Q => match x, y with
  | .int i, .int j => 0 < j ∧ Q (.int (i % j)) H
  | _, _ => False
theorem op_fMod : OpR X (binaryOp .Mod) fMod := by
  intro pins s σ H x y v u Q I rx ry h
  cases x <;> cases y <;> first
    | exact False.elim h
    | exact op_mod pins s σ H _ _ v u Q I rx ry ⟨_, _, rfl, rfl, h⟩
def fNeg : V → Hp → VK → Prop := fun x H Q => match x with
  | .int i => Q (.int (-i)) H
  | _ => False
theorem un_fNeg : UnR X (unaryOp .USub) fNeg := by
  intro pins s σ H x v Q I rx h
  cases x <;> first
    | exact False.elim h
    | exact un_neg pins s σ H _ v Q I rx ⟨_, rfl, h⟩
/-- data that == may look at -/
def okd (d : PyData) : Bool := d.plain && decide (d.depth ≤ 64)
/-- == of scalars as such, of lists and tuples as data -/
def fEq (K : PySem.W.Frag) (neg : Bool) : R2 := fun x y H Q =>
  if scal x y = true then Q (.bl (if neg = true then !decide (x = y) else decide (x = y))) H
  else ∃ d e, Dp K H x d ∧ Dp K H y e ∧ okd d = true ∧ okd e = true ∧ Q (.bl (if neg = true then !PyData.eqv d e else PyData.eqv d e)) H
theorem op_fEq (hu : X.A.units + 64 < cLine) : OpR X (compareOp .Eq) (fEq X.K false) := by
  intro pins s σ H x y v u Q I rx ry h
  unfold fEq at h
  split at h
  · exact op_eq pins s σ H x y v u Q I rx ry ⟨by assumption, h⟩
  · obtain ⟨d, e, hd, he, sd, se, q⟩ := h
    obtain ⟨as, r1⟩ := Dp.reads I d x v hd rx
    obtain ⟨bs, r2⟩ := Dp.reads I e y u he ry
    have sd := Bool.and_eq_true_iff.mp sd
    have se := Bool.and_eq_true_iff.mp se
    have d1 := of_decide_eq_true sd.2
    exact SeqAt.eq_plain r1 r2 sd.1 se.1 (by omega) ⟨.bl _, H, I, rfl, q⟩
theorem op_fNe (hu : X.A.units + 64 < cLine) : OpR X (compareOp .NotEq) (fEq X.K true) := by
  intro pins s σ H x y v u Q I rx ry h
  unfold fEq at h
  split at h
  · exact op_ne pins s σ H x y v u Q I rx ry ⟨by assumption, h⟩
  · obtain ⟨d, e, hd, he, sd, se, q⟩ := h
    obtain ⟨as, r1⟩ := Dp.reads I d x v hd rx
    obtain ⟨bs, r2⟩ := Dp.reads I e y u he ry
    have sd := Bool.and_eq_true_iff.mp sd
    have se := Bool.and_eq_true_iff.mp se
    have d1 := of_decide_eq_true sd.2
    exact SeqAt.ne_plain r1 r2 sd.1 se.1 (by omega) ⟨.bl _, H, I, rfl, q⟩
def fLt : R2 := fun x y H Q => match x, y with
  | .int i, .int j => Q (.bl (decide (i < j))) H
  | .str i, .str j => Q (.bl (decide (i.cps.toList < j.cps.toList))) H
  | _, _ => False
theorem op_fLt : OpR X (compareOp .Lt) fLt := by
  intro pins s σ H x y v u Q I rx ry h
  cases x <;> cases y <;> first
    | exact False.elim h
    | exact op_lt pins s σ H _ _ v u Q I rx ry ⟨_, _, rfl, rfl, h⟩
    | exact op_lt_str pins s σ H _ _ v u Q I rx ry ⟨_, _, rfl, rfl, h⟩
def fLe : R2 := fun x y H Q => match x, y with
  | .int i, .int j => Q (.bl (decide (i ≤ j))) H
  | .str i, .str j => Q (.bl (!decide (j.cps.toList < i.cps.toList))) H
  | _, _ => False
theorem op_fLe : OpR X (compareOp .LtE) fLe := by
  intro pins s σ H x y v u Q I rx ry h
  cases x <;> cases y <;> first
    | exact False.elim h
    | exact op_le pins s σ H _ _ v u Q I rx ry ⟨_, _, rfl, rfl, h⟩
    | exact op_le_str pins s σ H _ _ v u Q I rx ry ⟨_, _, rfl, rfl, h⟩
def fGt : R2 := fun x y H Q => match x, y with
  | .int i, .int j => Q (.bl (decide (j < i))) H
  | .str i, .str j => Q (.bl (decide (j.cps.toList < i.cps.toList))) H
  | _, _ => False
theorem op_fGt : OpR X (compareOp .Gt) fGt := by
  intro pins s σ H x y v u Q I rx ry h
  cases x <;> cases y <;> first
    | exact False.elim h
    | exact op_gt pins s σ H _ _ v u Q I rx ry ⟨_, _, rfl, rfl, h⟩
    | exact op_gt_str pins s σ H _ _ v u Q I rx ry ⟨_, _, rfl, rfl, h⟩
def fGe : R2 := fun x y H Q => match x, y with
  | .int i, .int j => Q (.bl (decide (j ≤ i))) H
  | .str i, .str j => Q (.bl (!decide (i.cps.toList < j.cps.toList))) H
  | _, _ => False
theorem op_fGe : OpR X (compareOp .GtE) fGe := by
  intro pins s σ H x y v u Q I rx ry h
  cases x <;> cases y <;> first
    | exact False.elim h
    | exact op_ge pins s σ H _ _ v u Q I rx ry ⟨_, _, rfl, rfl, h⟩
    | exact op_ge_str pins s σ H _ _ v u Q I rx ry ⟨_, _, rfl, rfl, h⟩
/-- x in y: one sign in a text; a text in a text; a flat value in a list or tuple of flat values -/
def fIn (K : PySem.W.Frag) (neg : Bool) : R2 := fun x y H Q => match x, y with
  | .str a, .str b => match a.cps.toList with
    | [c] => Q (.bl (if neg = true then !decide (c ∈ b.cps.toList) else decide (c ∈ b.cps.toList))) H
    | _ => Q (.bl (if neg = true then !(!(Builtin.Str.occurrences b a 0 b.length 1).isEmpty) else !(Builtin.Str.occurrences b a 0 b.length 1).isEmpty)) H
  | x, .ref p => ∃ xs, Rl K H p xs ∧ flatV x = true ∧ xs.all flatV = true ∧ Q (.bl (if neg = true then !inV x xs else inV x xs)) H
  | _, _ => False
theorem str_one {a : Str} {c : Nat} (h : a.cps.toList = [c]) : a = ⟨#[c]⟩ := by
  obtain ⟨⟨l⟩⟩ := a
  have h' : l = [c] := h
  subst h'
  rfl
theorem op_fIn : OpR X (compareOp .In) (fIn X.K false) := by
  intro pins s σ H x y v u Q I rx ry h
  cases y with
  | str b =>
    cases x with
    | str a =>
      dsimp only [fIn] at h
      split at h
      · rename_i c e
        cases str_one e
        exact op_in_sign pins s σ H _ _ v u Q I rx ry ⟨_, _, rfl, rfl, h⟩
      · exact op_in_str pins s σ H _ _ v u Q I rx ry ⟨_, _, rfl, rfl, h⟩
    | _ => exact False.elim h
  | ref p =>
    have h' : ∃ xs, Rl X.K H p xs ∧ flatV x = true ∧ xs.all flatV = true ∧ Q (.bl (if false = true then !inV x xs else inV x xs)) H := by
      cases x <;> exact h
    obtain ⟨xs, h1, h2, h3, h4⟩ := h'
    exact op_in_seq pins s σ H _ _ v u Q I rx ry ⟨p, xs, rfl, h1, h2, h3, h4⟩
  | _ => cases x <;> exact False.elim h
theorem op_fNotIn : OpR X (compareOp .NotIn) (fIn X.K true) := by
  intro pins s σ H x y v u Q I rx ry h
  cases y with
  | str b =>
    cases x with
    | str a =>
      dsimp only [fIn] at h
      split at h
      · rename_i c e
        cases str_one e
        exact op_notIn_sign pins s σ H _ _ v u Q I rx ry ⟨_, _, rfl, rfl, h⟩
      · exact op_notin_str pins s σ H _ _ v u Q I rx ry ⟨_, _, rfl, rfl, h⟩
    | _ => exact False.elim h
  | ref p =>
    have h' : ∃ xs, Rl X.K H p xs ∧ flatV x = true ∧ xs.all flatV = true ∧ Q (.bl (if true = true then !inV x xs else inV x xs)) H := by
      cases x <;> exact h
    obtain ⟨xs, h1, h2, h3, h4⟩ := h'
    exact op_notIn_seq pins s σ H _ _ v u Q I rx ry ⟨p, xs, rfl, h1, h2, h3, h4⟩
  | _ => cases x <;> exact False.elim h
/-- is, with None on the right -/
def fIsN : R2 := fun x y H Q => y = .non ∧ Q (.bl (decide (x = .non))) H
def fNotN : R2 := fun x y H Q => y = .non ∧ Q (.bl (!decide (x = .non))) H
theorem op_fIsN : OpR X (compareOp .Is) fIsN := op_isN
theorem op_fNotN : OpR X (compareOp .IsNot) fNotN := op_notN
/-- x[i] -/
def fIx (K : PySem.W.Frag) : R2 := fun x y H Q => match x, y with
  | .str z, .int i => z.length ≤ sizeLine ∧ ∃ c, atI z.cps.toList i = some c ∧ Q (.str ⟨#[c]⟩) H
  | .ref p, .int i => ∃ xs, Rl K H p xs ∧ ∃ v, atI xs i = some v ∧ Q v H
  | _, _ => False
theorem ix_fx : IxR X (fIx X.K) := by
  intro e1 e2 pins s σ H x y v u Q I rx ry h hs
  cases x <;> cases y <;> first
    | exact False.elim h
    | (obtain ⟨h1, c, h2, h3⟩ := h
       exact ix_str e1 e2 pins s σ H _ _ v u Q I rx ry ⟨_, _, c, rfl, rfl, h1, h2, h3⟩ hs)
    | (obtain ⟨xs, h1, w, h2, h3⟩ := h
       rcases h1 with h1 | h1
       · exact ix_list e1 e2 pins s σ H _ _ v u Q I rx ry ⟨_, xs, _, w, rfl, rfl, h1, h2, h3⟩ hs
       · exact ix_tup e1 e2 pins s σ H _ _ v u Q I rx ry ⟨_, xs, _, w, rfl, rfl, h1, h2, h3⟩ hs)
/-- x[lo:hi] of a text, of a list -/
def fSl (K : PySem.W.Frag) : V → Option Int → Option Int → Hp → VK → Prop := fun x lo hi H Q => match x with
  | .str z => z.length ≤ sizeLine ∧ Q (.str (cutS z lo hi)) H
  | .ref a => ∃ xs, SqL K H a xs ∧ ∀ p H1, H p = none → Same H H1 → H1 p = some (.lst (cutV xs lo hi)) → Q (.ref p) H1
  | _ => False
theorem sl_fx : SlR X (fSl X.K) := by
  intro pins s σ H x v vl vu lo hi sl Q I rx hs pl pu h
  cases x <;> first
    | exact False.elim h
    | exact sl_str pins s σ H _ v vl vu lo hi sl Q I rx hs pl pu ⟨_, rfl, h⟩
    | (obtain ⟨xs, h1, h2⟩ := h
       exact sl_list pins s σ H _ v vl vu lo hi sl Q I rx hs pl pu ⟨_, xs, rfl, h1, fun p np => h2 p _ np (same_new np) upd_same⟩)
/-- o[i] = v of a list -/
def fSet : TSet := fun o i v H Q => match o, i with
  | .ref p, .int k => match H p with
    | some (.lst xs) => ∃ j, ixN xs.length k = some j ∧ Q (upd H p (.lst (xs.set j v)))
    | _ => False
  | _, _ => False
theorem set_fx : PSet X fSet := by
  intro pins s σ H o i v ov iv u Q I ro ri rv h
  cases o <;> cases i <;> first
    | exact False.elim h
    | (dsimp only [fSet] at h
       split at h
       · obtain ⟨j, h2, h3⟩ := h
         exact set_list pins s σ H _ _ v ov iv u Q I ro ri rv ⟨_, _, _, j, rfl, rfl, by assumption, h2, h3⟩
       · exact h.elim)
/-- name += e -/
def fIAdd : TIp := fun x y H Q => match x, y with
  | .int i, .int j => Q (.int (i + j)) H
  | .str a, .str b => a.length + b.length ≤ sizeLine ∧ Q (.str (a ++ b)) H
  | _, _ => False
theorem ip_fAdd : PIp X .Add fIAdd := by
  intro pins s σ H x y v u Q I rx ry h
  cases x <;> cases y <;> first
    | exact False.elim h
    | exact ip_add pins s σ H _ _ v u Q I rx ry ⟨_, _, rfl, rfl, h⟩
    | exact iop_add_str pins s σ H _ _ v u Q I rx ry ⟨_, _, rfl, rfl, h⟩
def fISub : TIp := fun x y H Q => match x, y with
  | .int i, .int j => Q (.int (i - j)) H
  | _, _ => False
theorem ip_fSub : PIp X .Sub fISub := by
  intro pins s σ H x y v u Q I rx ry h
  cases x <;> cases y <;> first
    | exact False.elim h
    | exact ip_sub pins s σ H _ _ v u Q I rx ry ⟨_, _, rfl, rfl, h⟩
/-! ### built-in calls -/
def fLen (K : PySem.W.Frag) : List V → Hp → VK → Prop := fun xs H Q => match xs with
  | [.str z] => z.length ≤ sizeLine ∧ Q (.int z.length) H
  | [.ref p] => ∃ ys, Rl K H p ys ∧ Q (.int ys.length) H
  | _ => False
theorem call_fLen : CallR X (.builtin "len") (fLen X.K) := by
  intro pins s σ H xs us Q I r h
  match xs, r, h with
  | [.str z], r, h => exact call_len_str pins s σ H _ us Q I r ⟨z, rfl, h⟩
  | [.ref p], r, h =>
    obtain ⟨ys, h1, h2⟩ := h
    exact call_len_seq pins s σ H _ us Q I r ⟨p, ys, rfl, h1, h2⟩
/-- len of a dict -/
def fLenD : List V → Hp → VK → Prop := fun xs H Q => match xs with
  | [.ref p] => ∃ kvs, H p = some (.dK kvs) ∧ Q (.int kvs.length) H
  | _ => False
theorem call_fLenD : CallR X (.builtin "len") fLenD := by
  intro pins s σ H xs us Q I r h
  match xs, r, h with
  | [.ref p], r, h =>
    obtain ⟨kvs, h1, h2⟩ := h
    exact call_lenD pins s σ H _ us Q I r ⟨p, kvs, rfl, h1, h2⟩
def fInt : List V → Hp → VK → Prop := fun xs H Q => match xs with
  | [.int i] => Q (.int i) H
  | [.bl k] => Q (.int (if k then 1 else 0)) H
  | [.str a] => ∃ n, PySem.intText? a = some n ∧ a.length ≤ 640 ∧ Q (.int n) H
  | _ => False
theorem call_fInt : CallR X (.type "int") fInt := by
  intro pins s σ H xs us Q I r h
  match xs, r, h with
  | [.int i], r, h => exact call_int1 pins s σ H _ us Q I r (.inl ⟨i, rfl, h⟩)
  | [.bl k], r, h => exact call_int1 pins s σ H _ us Q I r (.inr ⟨k, rfl, h⟩)
  | [.str a], r, h =>
    obtain ⟨n, h1, h2, h3⟩ := h
    exact call_int_str pins s σ H _ us Q I r ⟨a, n, rfl, h1, h2, h3⟩
def fStr : List V → Hp → VK → Prop := fun xs H Q => match xs with
  | [.int i] => i.natAbs.log2 < 1920 ∧ Q (.str (toString i)) H
  | _ => False
theorem call_fStr : CallR X (.type "str") fStr := by
  intro pins s σ H xs us Q I r h
  match xs, r, h with
  | [.int i], r, h => exact call_str_int pins s σ H _ us Q I r ⟨i, rfl, h⟩
def fAbs : List V → Hp → VK → Prop := fun xs H Q => match xs with
  | [.int i] => Q (.int (if i < 0 then -i else i)) H
  | _ => False
theorem call_fAbs : CallR X (.builtin "abs") fAbs := by
  intro pins s σ H xs us Q I r h
  match xs, r, h with
  | [.int i], r, h => exact call_abs pins s σ H _ us Q I r ⟨i, rfl, h⟩
def fMax : List V → Hp → VK → Prop := fun xs H Q => match xs with
  | [.int i, .int j] => Q (.int (if j > i then j else i)) H
  | _ => False
theorem call_fMax (hc : X.calm = true) : CallR X (.builtin "max") fMax := by
  intro pins s σ H xs us Q I r h
  match xs, r, h with
  | [.int i, .int j], r, h => exact call_max2 hc pins s σ H _ us Q I r ⟨i, j, rfl, h⟩
def fMin : List V → Hp → VK → Prop := fun xs H Q => match xs with
  | [.int i, .int j] => Q (.int (if j < i then j else i)) H
  | _ => False
theorem call_fMin (hc : X.calm = true) : CallR X (.builtin "min") fMin := by
  intro pins s σ H xs us Q I r h
  match xs, r, h with
  | [.int i, .int j], r, h => exact call_min2 hc pins s σ H _ us Q I r ⟨i, j, rfl, h⟩
def fOrd : List V → Hp → VK → Prop := fun xs H Q => match xs with
  | [.str x] => ∃ c, x.cps.toList = [c] ∧ Q (.int (c : Nat)) H
  | _ => False
theorem call_fOrd : CallR X (.builtin "ord") fOrd := by
  intro pins s σ H xs us Q I r h
  match xs, r, h with
  | [.str x], r, h =>
    obtain ⟨c, h1, h2⟩ := h
    cases str_one h1
    exact call_ord pins s σ H _ us Q I r ⟨_, rfl, rfl, h2⟩
def fChr : List V → Hp → VK → Prop := fun xs H Q => match xs with
  | [.int i] => (0 ≤ i ∧ i ≤ 1114111) ∧ Q (.str ⟨#[i.toNat]⟩) H
  | _ => False
theorem call_fChr : CallR X (.builtin "chr") fChr := by
  intro pins s σ H xs us Q I r h
  match xs, r, h with
  | [.int i], r, h => exact call_chr pins s σ H _ us Q I r ⟨i, rfl, h.1.1, h.1.2, h.2⟩
/-- list(x): a new list -/
def fListOf (K : PySem.W.Frag) : List V → Hp → VK → Prop := fun xs H Q => match xs with
  | [.ref p] => ∃ ys, Rl K H p ys ∧ ∀ l H1, H l = none → Same H H1 → H1 l = some (.lst ys) → Q (.ref l) H1
  | _ => False
theorem call_fListOf : CallR X (.type "list") (fListOf X.K) := by
  intro pins s σ H xs us Q I r h
  match xs, r, h with
  | [.ref p], r, h =>
    obtain ⟨ys, h1, h2⟩ := h
    exact call_list_of pins s σ H _ us Q I r ⟨p, ys, rfl, h1, fun l nl => h2 l _ nl (same_new nl) upd_same⟩
/-! ### isinstance of a built-in class -/
/-- a value's built-in class (by the abstract heap), where it is plain -/
def tyOf (H : Hp) : V → Option String
  | .non => some "NoneType"
  | .bl _ => some "bool"
  | .int _ => some "int"
  | .str _ => some "str"
  | .ref a => match H a with
    | some (.lst _) => some "list"
    | some (.tup _) => some "tuple"
    | some (.dK _) => some "dict"
    | some (.dT _) => some "dict"
    | _ => none
  | _ => none
theorem tyX_of {K : PySem.W.Frag} {H : Hp} {x : V} {t : String} (h : tyOf H x = some t) : TyX K H x (.type t) := by
  cases x with
  | non => cases h; exact .base .non
  | bl b => cases h; exact .base (.bl b)
  | int b => cases h; exact .base (.int b)
  | str b => cases h; exact .base (.str b)
  | ref a =>
    dsimp only [tyOf] at h
    split at h <;> first
      | (cases h; exact .base (.lst (by assumption)))
      | (cases h; exact .base (.tup (by assumption)))
      | (cases h; exact .base (.dK (by assumption)))
      | (cases h; exact .base (.dT (by assumption)))
      | cases h
  | _ => cases h
/-- one of some built-in classes -/
def kitBs (t : String) : List V → Option Bool
  | [] => some false
  | .ty n :: cs => match kitB t n, kitBs t cs with
    | some b, some r => some (b || r)
    | _, _ => none
  | _ => none
theorem kitBs_any {K : PySem.W.Frag} {t : String} : ∀ {cs : List V} {r : Bool}, kitBs t cs = some r → ∃ us, Paired ClsV cs us ∧ PySem.W.kitAny K (.type t) us = some r
  | [], r, h => by cases h; exact ⟨[], .nil, kitAny_nil⟩
  | c :: cs, r, h => by
    cases c <;> first
      | cases h
      | (rename_i n
         unfold kitBs at h
         split at h
         · rename_i b r' e e2
           cases h
           obtain ⟨us, p, q⟩ := kitBs_any e2
           refine ⟨_, .cons (.ty n) p, kitAny_cons (kit_ty e) (fun hb => ?_) fun hb => ?_⟩
           · rw [hb]; exact q
           · rw [hb]; rfl
         · cases h)
theorem kitBv : kitB "NoneType" "bool" = some false ∧ kitB "NoneType" "int" = some false ∧ kitB "NoneType" "str" = some false ∧ kitB "NoneType" "list" = some false ∧ kitB "NoneType" "tuple" = some false ∧ kitB "NoneType" "dict" = some false ∧ kitB "bool" "bool" = some true ∧ kitB "bool" "int" = some true ∧ kitB "bool" "str" = some false ∧ kitB "bool" "list" = some false ∧ kitB "bool" "tuple" = some false ∧ kitB "bool" "dict" = some false ∧ kitB "int" "bool" = some false ∧ kitB "int" "int" = some true ∧ kitB "int" "str" = some false ∧ kitB "int" "list" = some false ∧ kitB "int" "tuple" = some false ∧ kitB "int" "dict" = some false ∧ kitB "str" "bool" = some false ∧ kitB "str" "int" = some false ∧ kitB "str" "str" = some true ∧ kitB "str" "list" = some false ∧ kitB "str" "tuple" = some false ∧ kitB "str" "dict" = some false ∧ kitB "list" "bool" = some false ∧ kitB "list" "int" = some false ∧ kitB "list" "str" = some false ∧ kitB "list" "list" = some true ∧ kitB "list" "tuple" = some false ∧ kitB "list" "dict" = some false ∧ kitB "tuple" "bool" = some false ∧ kitB "tuple" "int" = some false ∧ kitB "tuple" "str" = some false ∧ kitB "tuple" "list" = some false ∧ kitB "tuple" "tuple" = some true ∧ kitB "tuple" "dict" = some false ∧ kitB "dict" "bool" = some false ∧ kitB "dict" "int" = some false ∧ kitB "dict" "str" = some false ∧ kitB "dict" "list" = some false ∧ kitB "dict" "tuple" = some false ∧ kitB "dict" "dict" = some true := by decide +kernel
/-- isinstance(x, T), T a built-in class, or a new tuple of such -/
def fIsi : List V → Hp → VK → Prop := fun xs H Q => match xs with
  | [x, .ty n] => ∃ t, tyOf H x = some t ∧ ∃ b, kitB t n = some b ∧ Q (.bl b) H
  | [x, .ref p] => match H p with
    | some (.tup cs) => ∃ t, tyOf H x = some t ∧ ∃ b, kitBs t cs = some b ∧ Q (.bl b) H
    | _ => False
  | _ => False
theorem call_fIsi : CallR X (.builtin "isinstance") fIsi := by
  intro pins s σ H xs us Q I r h
  match xs, r, h with
  | [x, .ty n], r, h =>
    obtain ⟨t, h1, b, h2, h3⟩ := h
    exact call_isi pins s σ H _ us Q I r ⟨x, .ty n, _, _, b, rfl, .ty n, tyX_of h1, kit_ty h2, h3⟩
  | [x, .ref p], r, h =>
    dsimp only [fIsi] at h
    split at h
    · obtain ⟨t, h1, b, h2, h3⟩ := h
      obtain ⟨ws, h4, h5⟩ := kitBs_any h2
      exact call_isiT pins s σ H _ us Q I r ⟨x, p, _, _, ws, b, rfl, by assumption, h4, tyX_of h1, h5, h3⟩
    · exact h.elim
/-! ### methods of built-in types -/
def isLst : V → Hp → Prop := fun x H => match x with
  | .ref p => match H p with
    | some (.lst _) => True
    | _ => False
  | _ => False
theorem isLst_ty {K : PySem.W.Frag} {x : V} {H : Hp} (h : isLst x H) : tyV K "list" x H := by
  unfold isLst at h
  split at h
  · split at h
    · exact .inl ⟨rfl, _, SqL.of (by assumption)⟩
    · exact h.elim
  · exact h.elim
def isDct : V → Hp → Prop := fun x H => match x with
  | .ref p => match H p with
    | some (.dK _) => True
    | _ => False
  | _ => False
theorem isDct_ty {K : PySem.W.Frag} {x : V} {H : Hp} (h : isDct x H) : tyV K "dict" x H := by
  unfold isDct at h
  split at h
  · split at h
    · exact .inr (.inr (.inl ⟨rfl, .inl ⟨_, by assumption⟩⟩))
    · exact h.elim
  · exact h.elim
def isStr : V → Hp → Prop := fun x _ => match x with
  | .str _ => True
  | _ => False
theorem isStr_ty {K : PySem.W.Frag} {x : V} {H : Hp} (h : isStr x H) : tyV K "str" x H := by
  cases x <;> first | exact rfl | exact False.elim h
section
variable {o e : Expr} {es : List Expr} {to te : TE} {t : TA} {apos cpos : Pos} {T id : String} {name : Str} {r : V → List V → Hp → VK → Prop} {ty : V → Hp → Prop}
def fBM0 (ty : V → Hp → Prop) (r : V → List V → Hp → VK → Prop) (to : TE) : TE := fun σ H Q => to σ H fun x H1 => ty x H1 ∧ r x [] H1 Q
def fBM (ty : V → Hp → Prop) (r : V → List V → Hp → VK → Prop) (to : TE) (t : TA) : TE := fun σ H Q => to σ H fun x H1 => ty x H1 ∧ t σ H1 fun xs H2 => r x xs H2 Q
theorem fe_bm0 (pa : PlainAttrs T) (slot : Slot T name id) (hty : typeOf (.builtin id) = pure (.type "method_descriptor")) (hT : ∀ {K : PySem.W.Frag} {x : V} {H : Hp}, ty x H → tyV K T x H) (hm : MtR X id r) (ho : PE X o to)
    (hbase : attributeBase o name X.env (eval o X.env) = eval o X.env := by rfl) (hline : (apos.endLine == cpos.line) = true := by rfl) : PE X (.Call (.Attribute o name apos) [] [] cpos) (fBM0 ty r to) := by
  refine ⟨fun pins s σ H Q I h => ?_⟩
  refine wpAny_Call_method0_late hbase hline (thn (ho.run pins s σ H _ I h) fun v s1 ⟨x, H1, I1, r1, tyx, q1⟩ => ?_)
  obtain ⟨h1, h2⟩ := tyV_is I1 r1 (hT tyx)
  exact ⟨T, id, pa, slot, hty, h1, h2, Calls.callWith_builtin rfl (PySem.evalArgs_none (hm pins s1 σ H1 x [] v [] Q I1 r1 .nil q1))⟩
theorem fe_bm (pa : PlainAttrs T) (slot : Slot T name id) (hty : typeOf (.builtin id) = pure (.type "method_descriptor")) (hT : ∀ {K : PySem.W.Frag} {x : V} {H : Hp}, ty x H → tyV K T x H) (hm : MtR X id r) (ho : PE X o to) (ha : PA X (e :: es) t)
    (hbase : attributeBase o name X.env (eval o X.env) = eval o X.env := by rfl)
    (hfew : ((backTo cpos (starEach (e :: es) X.env)).all (fun x => !x.1) && (backToKw cpos (keywordEach [] X.env)).all (fun x => x.1.isSome)
      && decide ((e :: es).length + ([] : List Keyword).length + (if ([] : List Keyword).isEmpty then 0 else 1) < 30)) = true := by rfl)
    (hline : (apos.endLine == cpos.line) = true := by rfl) (hs : starEach (e :: es) X.env = (false, eval e X.env) :: starEach es X.env := by rfl) (hplain : (backTo cpos (starEach es X.env)).any (·.1) = false := by rfl) :
    PE X (.Call (.Attribute o name apos) (e :: es) [] cpos) (fBM ty r to t) := by
  refine ⟨fun pins s σ H Q I h => ?_⟩
  refine wpAny_Call_method_late hbase hfew hline rfl (thn (ho.run pins s σ H _ I h) fun v s1 ⟨x, H1, I1, r1, tyx, q1⟩ => ?_)
  obtain ⟨h1, h2⟩ := tyV_is I1 r1 (hT tyx)
  refine ⟨T, id, pa, slot, hty, h1, h2, ?_⟩
  have hA := ha.run cpos pins s1 σ H1 _ I1 q1
  rw [hs] at hA ⊢
  refine Calls.callWith_builtin (by show (false || (backTo cpos (starEach es X.env)).any (·.1)) = false; rw [hplain] <;> rfl) (Calls.evalArgs_plain ?_)
  exact thn hA fun us s2 ⟨vs, H2, I2, r2, q2⟩ => hm pins s2 σ H2 x vs v us Q I2 r1 r2 q2
end
def fAppend : V → List V → Hp → VK → Prop := fun x vs H Q => match x, vs with
  | .ref l, [y] => match H l with
    | some (.lst xs) => xs.length < sizeLine ∧ Q .non (upd H l (.lst (xs ++ [y])))
    | _ => False
  | _, _ => False
theorem mt_fAppend : MtR X "list.append" fAppend := by
  intro pins s σ H x xs v us Q I rx rs h
  unfold fAppend at h
  split at h
  · split at h
    · exact mt_append pins s σ H _ _ v us Q I rx rs ⟨_, _, _, rfl, rfl, by assumption, h⟩
    · exact h.elim
  · exact h.elim
/-- a text's method with one text, by its function -/
def fS1 (g : Str → Str → V) : V → List V → Hp → VK → Prop := fun x vs H Q => match x, vs with
  | .str a, [.str b] => Q (g a b) H
  | _, _ => False
theorem mt_fS1 {id : String} {g : Str → Str → V} (h : MtR X id (fun x xs H Q => ∃ a b, x = .str a ∧ xs = [.str b] ∧ Q (g a b) H)) : MtR X id (fS1 g) := by
  intro pins s σ H x xs v us Q I rx rs q
  unfold fS1 at q
  split at q
  · exact h pins s σ H _ _ v us Q I rx rs ⟨_, _, rfl, rfl, q⟩
  · exact q.elim
theorem mt_fCount : MtR X "str.count" (fS1 fun a b => .int (Txt.count a b)) := mt_fS1 mt_count
theorem mt_fFind : MtR X "str.find" (fS1 fun a b => .int (Txt.find a b)) := mt_fS1 mt_find
theorem mt_fRfind : MtR X "str.rfind" (fS1 fun a b => .int (Txt.rfind a b)) := mt_fS1 mt_rfind
theorem mt_fStarts : MtR X "str.startswith" (fS1 fun a b => .bl (Txt.startswith a b)) := mt_fS1 mt_startswith
theorem mt_fEnds : MtR X "str.endswith" (fS1 fun a b => .bl (Txt.endswith a b)) := mt_fS1 mt_endswith

/-! ### statements, loops -/
theorem seq_ {t1 t2 : TS} {D : Ends} {σ : L2.St} {H : Hp} (h : ∀ N : L2.St → Hp → Prop, (∀ σ H, t2 D σ H → N σ H) → t1 { D with nx := N } σ H) : tSeq t1 t2 D σ H := h _ fun _ _ x => x
/-- what follows is a word of its own -/
theorem cut_ {t : TS} {D : Ends} {σ : L2.St} {H : Hp} (h : ∀ N : L2.St → Hp → Prop, (∀ σ H, D.nx σ H → N σ H) → t { D with nx := N } σ H) : t D σ H := h _ fun _ _ x => x
theorem ifs_ {c : TT} {t u : TS} {D : Ends} {σ : L2.St} {H : Hp} (h : c σ H fun b H1 => if b = true then t D σ H1 else u D σ H1) : tIfS c t u D σ H := h
/-- a loop that is at hand -/
def Loop (J : It) (g : TG) (tb : TS) (D : Ends) (σ : L2.St) (H : Hp) : Prop := ∃ W : Nat → Nat → L2.St → Hp → Prop, (∃ m, W 0 m σ H) ∧ ∀ i m σ H, W i m σ H →
  (J.stop i H ∧ D.nx σ H) ∨ (J.go i H ∧ ∃ N : L2.St → Hp → Prop, (∀ σ' H', N σ' H' → ∃ m', m' < m ∧ W (i + 1) m' σ' H') ∧ ∀ x H', J.yld i H x H' → g x σ H' fun σ2 H2 => tb { D with nx := N, ct := N, bk := D.nx } σ2 H2)
theorem for_eq (wi : TI) (g : TG) (tb : TS) (D : Ends) (σ : L2.St) (H : Hp) : tFor wi g tb D σ H = wi σ H fun J H1 => Loop J g tb D σ H1 := rfl
theorem for_ {wi : TI} {g : TG} {tb : TS} {D : Ends} {σ : L2.St} {H : Hp} (h : wi σ H fun J H1 => Loop J g tb D σ H1) : tFor wi g tb D σ H := h
theorem loop_range {lo : Int} {n : Nat} {g : TG} {tb : TS} {D : Ends} {σ : L2.St} {H : Hp} (Pv : Nat → L2.St → Hp → Prop) (h0 : Pv 0 σ H)
    (hs : ∀ i σ H, i < n → Pv i σ H → g (.int (lo + i)) σ H fun σ2 H2 => tb { D with nx := Pv (i + 1), ct := Pv (i + 1), bk := D.nx } σ2 H2) (hd : ∀ σ H, Pv n σ H → D.nx σ H) : Loop (Itr lo n) g tb D σ H := for_range Pv h0 hs hd
theorem loop_list {K : PySem.W.Frag} {a : Addr} {g : TG} {tb : TS} {D : Ends} {σ : L2.St} {H : Hp} (xs : List V) (Pv : Nat → L2.St → Hp → Prop) (h0 : Pv 0 σ H) (hl : ∀ i σ H, i ≤ xs.length → Pv i σ H → SqL K H a xs)
    (hs : ∀ i x σ H, xs[i]? = some x → Pv i σ H → g x σ H fun σ2 H2 => tb { D with nx := Pv (i + 1), ct := Pv (i + 1), bk := D.nx } σ2 H2) (hd : ∀ σ H, Pv xs.length σ H → D.nx σ H) : Loop (Itl K a) g tb D σ H := for_list Pv h0 hl hs hd
theorem loop_tup {K : PySem.W.Frag} {a : Addr} {g : TG} {tb : TS} {D : Ends} {σ : L2.St} {H : Hp} (xs : List V) (Pv : Nat → L2.St → Hp → Prop) (h0 : Pv 0 σ H) (hl : ∀ i σ H, i ≤ xs.length → Pv i σ H → SqT K H a xs)
    (hs : ∀ i x σ H, xs[i]? = some x → Pv i σ H → g x σ H fun σ2 H2 => tb { D with nx := Pv (i + 1), ct := Pv (i + 1), bk := D.nx } σ2 H2) (hd : ∀ σ H, Pv xs.length σ H → D.nx σ H) : Loop (Itt K a) g tb D σ H := for_tup Pv h0 hl hs hd
theorem loop_str {z : Str} {g : TG} {tb : TS} {D : Ends} {σ : L2.St} {H : Hp} (Pv : Nat → L2.St → Hp → Prop) (h0 : Pv 0 σ H)
    (hs : ∀ i c σ H, z.cps.toList[i]? = some c → Pv i σ H → g (.str ⟨#[c]⟩) σ H fun σ2 H2 => tb { D with nx := Pv (i + 1), ct := Pv (i + 1), bk := D.nx } σ2 H2) (hd : ∀ σ H, Pv z.length σ H → D.nx σ H) : Loop (Its z) g tb D σ H :=
  for_it walk_str Pv h0 (fun _ _ _ _ _ => trivial) (fun i x σ H H' hi p y => by
    obtain ⟨rfl, c, hc, rfl⟩ := y
    exact hs i c σ _ (by rw [Array.getElem?_toList]; exact hc) p) hd
end
end Fx

/-! ### defs by name -/
namespace Fx
open PySem PySem.Spec PyProof.Rows L2
/-- the def that stands at the module's name x keeps the promise sp -/
structure Has (P : Program) (w : World) (K : PySem.W.Frag) (mg : Str → Option Value) (base : Heap) (CX : CXT) (x : Str) (k : Nat) (ps : List Str) (sp : Sp) : Prop where
  ex : ∃ (f : Addr) (fd : FuncData), FnOk P w K mg base CX k f fd ps sp ∧ Binds K fd ps [] ∧ mg x = some (.ref f) ∧ PySem.W.keepIn K (.ref f) = true
/-- what the top has written of a def -/
structure FnFact (K : PySem.W.Frag) (x qual : Str) (st : Stmt) : Prop where
  ex : ∃ (f : Addr) (oc : Value) (od an : Option Addr) (sl : Array (Option Value)) (kV dc pm cd ct : Value),
    PySem.W.nsIn K mainGlobals x = some (some (.ref f)) ∧ K.lookup f = some ⟨oc, od, .func (PySem.W.fnOf x qual (defArgs st) (defBody st) (defScope st) .none kV dc pm an cd ct), sl⟩ ∧
    PySem.W.codeIn K cd qual = true ∧ PySem.W.keepIn K (.ref f) = true
theorem FnFact.of {K : PySem.W.Frag} {x qual : Str} {st : Stmt} {f : Addr} {oc : Value} {od an : Option Addr} {sl : Array (Option Value)} {kV dc pm cd ct : Value}
    (a : PySem.W.nsIn K mainGlobals x = some (some (.ref f))) (l : K.lookup f = some ⟨oc, od, .func (PySem.W.fnOf x qual (defArgs st) (defBody st) (defScope st) .none kV dc pm an cd ct), sl⟩)
    (c : PySem.W.codeIn K cd qual = true) (k : PySem.W.keepIn K (.ref f) = true) : FnFact K x qual st := ⟨f, oc, od, an, sl, kV, dc, pm, cd, ct, a, l, c, k⟩
/-- a def as it stands -/
structure At (K : PySem.W.Frag) (mg : Str → Option Value) (x qual : Str) (st : Stmt) (ps : List Str) : Prop where
  ex : ∃ (f : Addr) (fd : FuncData), Fun K x qual st f fd ∧ Binds K fd ps [] ∧ mg x = some (.ref f)
theorem At.of {K : PySem.W.Frag} {mg : Str → Option Value} {x qual : Str} {st : Stmt} {ps : List Str} {h : Heap} (X : K.In h) (G : h.Ns mainGlobals mg) (F : FnFact K x qual st)
    (hb : ∀ (kV doc pm : Value) (an : Option Addr) (cdv ct : Value) (us : List Value), us.length = ps.length → bindArgs (PySem.W.fnOf x qual (defArgs st) (defBody st) (defScope st) .none kV doc pm an cdv ct) ⟨us, []⟩ = pure (ps.zip us)) : At K mg x qual st ps := by
  obtain ⟨f, oc, od, an, sl, kV, dc, pm, cd, ct, a, l, c, k⟩ := F.ex
  have F1 := fun_mk (st := st) l c k
  exact ⟨_, _, F1, F1.binds hb, PySem.W.mg_of X G a⟩
section
variable {P : Program} {w : World} {K : PySem.W.Frag} {mg : Str → Option Value} {base : Heap}
theorem has_of {x qual : Str} {st : Stmt} {N ps : List Str} {k : Nat} {sp : Sp} (A : At K mg x qual st ps) (S : FnScope N ps (defScope st)) (len : ∀ vs H Q E, sp vs H Q E → vs.length = ps.length)
    (hbody : ∀ (cdv : Value) (f : Addr) (A : Around) (outer : List Env) (s : Shared) (H : Hp) (vs : List V) (Q : VK) (E : XK), Room k (A.deeper (envOfC qual (defScope st) s.heap.objs.size f cdv)) → sp vs H Q E →
      ∃ t, PSs (cxOf CX0 P w K mg base N qual (defScope st) f cdv A outer s H E).nox (defBody st) t ∧ t { nx := fun _ H' => Q .non H', rt := Q } (start N vs) H) : Has P w K mg base CX0 x (k + 1) ps sp := by
  obtain ⟨f, fd, F, B, G⟩ := A.ex
  exact ⟨f, fd, F.ok S len fun cdv A outer s H vs Q E hr h => hbody cdv f A outer s H vs Q E hr h, B, G, F.kp⟩
def spNone : Sp := fun _ _ _ _ => False
/-- a def of which nothing is promised -/
theorem At.never {x qual : Str} {st : Stmt} {ps : List Str} (A : At K mg x qual st ps) : Has P w K mg base CX0 x 0 ps spNone := by
  obtain ⟨f, fd, F, B, G⟩ := A.ex
  exact ⟨f, fd, ⟨fun _ _ _ _ h => h.elim, fun _ _ _ _ _ _ _ _ _ _ _ _ _ h => h.elim⟩, B, G, F.kp⟩
theorem Has.mono {CX : CXT} {x : Str} {j k : Nat} {ps : List Str} {sp : Sp} (h : Has P w K mg base CX x j ps sp) (hk : j ≤ k) : Has P w K mg base CX x k ps sp := by
  obtain ⟨f, fd, F, B, G, kp⟩ := h.ex
  exact ⟨f, fd, F.mono hk, B, G, kp⟩
end
section
variable {X : Cx} {CX : CXT} {k : Nat} {x : Str} {p pos : Pos} {e : Expr} {es : List Expr} {t : TA} {ps : List Str} {sp : Sp} {E : XK}
theorem fe_call (h : Has X.prog X.w X.K X.mg X.base CX x k ps sp) (hr : Room k X.A) (hg : Gl X x) (hx : Passes CX X E) (ha : PA X (e :: es) t) (hd : (x == ("__debug__" : Str)) = false := by decide)
    (hs : starEach (e :: es) X.env = (false, eval e X.env) :: starEach es X.env := by rfl) (hplain : (backTo pos (starEach es X.env)).any (·.1) = false := by rfl) : PE X (.Call (.Name x p) (e :: es) [] pos) (tCall sp [] E t) := by
  obtain ⟨f, fd, F, B, G, kp⟩ := h.ex
  exact pe_call F hr hg G kp B .nil hx ha hd hs hplain
theorem fe_call0 (h : Has X.prog X.w X.K X.mg X.base CX x k ps sp) (hr : Room k X.A) (hg : Gl X x) (hx : Passes CX X E) (hd : (x == ("__debug__" : Str)) = false := by decide) : PE X (.Call (.Name x p) [] [] pos) (tCall sp [] E tNil) := by
  obtain ⟨f, fd, F, B, G, kp⟩ := h.ex
  exact pe_call0 F hr hg G kp B .nil hx hd
end
end Fx

namespace Fx
open PySem PySem.Spec PyProof.Rows L2
section
variable {X : Cx}
/-- a built-in class as a value -/
theorem fe_ty {x : Str} {n : String} {pos : Pos} (hg : Gl X x) (hm : X.mg x = none) (hv : bootBuiltins x = some (.type n)) (hn : x ≠ "__name__" := by decide) (hd : (x == ("__debug__" : Str)) = false := by decide) : PE X (.Name x pos) (tC (.ty n)) := pe_bltn hg hm hv rfl hn hd
end
/-! ### texts as lists -/
def S (l : List Nat) : Str := ⟨l.toArray⟩
def L (z : Str) : List Nat := z.cps.toList
theorem S_L (z : Str) : S (L z) = z := by
  obtain ⟨⟨l⟩⟩ := z
  rfl
theorem L_S (l : List Nat) : L (S l) = l := rfl
theorem S_len (l : List Nat) : (S l).length = l.length := by simp [S, Str.length]
theorem L_len (z : Str) : (L z).length = z.length := by simp [L, Str.length]
theorem S_app (a b : List Nat) : S a ++ S b = S (a ++ b) := by
  show (⟨a.toArray ++ b.toArray⟩ : Str) = ⟨(a ++ b).toArray⟩
  simp
theorem S_cps (l : List Nat) : (S l).cps.toList = l := by simp [S]
theorem S_one (c : Nat) : (⟨#[c]⟩ : Str) = S [c] := rfl
theorem S_inj {a b : List Nat} (h : S a = S b) : a = b := by
  have := congrArg L h
  exact this
theorem cut_take (l : List Nat) {o : Int} (h0 : 0 ≤ o) (h1 : o ≤ l.length) : cutS (S l) none (some o) = S (l.take o.toNat) := by
  unfold cutS
  obtain ⟨k, rfl⟩ := Int.eq_ofNat_of_zero_le h0
  have e : HT.sIx (S l).length (S l).length (some (k : Int)) = min k (S l).length := HT.sIx_nat _ _ _
  rw [HT.sIx_none, e, S_len, S_cps]
  have : min k l.length = k := by omega
  rw [this]
  simp [S]
theorem cut_drop (l : List Nat) {o : Int} (h0 : 0 ≤ o) (h1 : o ≤ l.length) : cutS (S l) (some o) none = S (l.drop o.toNat) := by
  unfold cutS
  obtain ⟨k, rfl⟩ := Int.eq_ofNat_of_zero_le h0
  have e : HT.sIx (S l).length 0 (some (k : Int)) = min k (S l).length := HT.sIx_nat _ _ _
  rw [HT.sIx_none, e, S_len, S_cps]
  have : min k l.length = k := by omega
  rw [this]
  have : (l.drop k).take (l.length - k) = l.drop k := List.take_of_length_le (by rw [List.length_drop]; omega)
  simp [S, this]
theorem cut_mid (l : List Nat) {a b : Int} (h0 : 0 ≤ a) (h1 : a ≤ b) (h2 : b ≤ l.length) : cutS (S l) (some a) (some b) = S ((l.drop a.toNat).take (b.toNat - a.toNat)) := by
  unfold cutS
  obtain ⟨k, rfl⟩ := Int.eq_ofNat_of_zero_le h0
  obtain ⟨m, rfl⟩ := Int.eq_ofNat_of_zero_le (Int.le_trans h0 h1)
  have e1 : HT.sIx (S l).length 0 (some (k : Int)) = min k (S l).length := HT.sIx_nat _ _ _
  have e2 : HT.sIx (S l).length (S l).length (some (m : Int)) = min m (S l).length := HT.sIx_nat _ _ _
  rw [e1, e2, S_len, S_cps]
  have q1 : min k l.length = k := by omega
  have q2 : min m l.length = m := by omega
  rw [q1, q2]
  rfl
theorem len_line {n : Nat} (h : n ≤ 100000) : n ≤ sizeLine := Nat.le_trans h (by decide)
theorem len_line' {n : Nat} (h : n < 100000) : n < sizeLine := Nat.lt_of_lt_of_le h (by decide)
theorem small_div {i j : Int} (h : 0 < j) (h2 : j < 1073741824) : CDivW i j := wide_div (b := 30) h (by omega) (by decide) (by decide)
theorem mul_left {i j : Int} (h : -(2 ^ 64) < i) (h2 : i < 2 ^ 64) : IntMulOk i j := CMul.ok (.inl ⟨h, h2⟩)
theorem mul_right {i j : Int} (h : -(2 ^ 64) < j) (h2 : j < 2 ^ 64) : IntMulOk i j := CMul.ok (.inr ⟨h, h2⟩)
theorem same_mut {H H' : Hp} {p : Addr} {o : HO} (s : Same H H') (h : H p = none) : Same H (upd H' p o) := fun b x e => by
  rw [upd_ne (ne_of_none e h)]
  exact s b x e
theorem ex2 {α β : Type} {a : α} {b : β} {P : α → β → Prop} : (∃ i j, (a = i ∧ b = j) ∧ P i j) ↔ P a b := ⟨fun ⟨_, _, ⟨e1, e2⟩, h⟩ => e1 ▸ e2 ▸ h, fun h => ⟨a, b, ⟨rfl, rfl⟩, h⟩⟩
theorem at_ints {ns : List Int} {i : Int} (h0 : 0 ≤ i) (h1 : i < ns.length) : ∃ z, atI (ns.map V.int) i = some (.int z) := by
  obtain ⟨k, rfl⟩ := Int.eq_ofNat_of_zero_le h0
  have hk : k < ns.length := by omega
  exact ⟨ns[k], atI_nat (by rw [List.getElem?_map, List.getElem?_eq_getElem hk]; rfl)⟩
theorem at_strs {ns : List Str} {i : Int} (h0 : 0 ≤ i) (h1 : i < ns.length) : ∃ z, z ∈ ns ∧ atI (ns.map V.str) i = some (.str z) := by
  obtain ⟨k, rfl⟩ := Int.eq_ofNat_of_zero_le h0
  have hk : k < ns.length := by omega
  exact ⟨ns[k], List.getElem_mem hk, atI_nat (by rw [List.getElem?_map, List.getElem?_eq_getElem hk]; rfl)⟩
theorem getD_eq {α : Type} {ns : List α} {i : Nat} (d : α) (h : i < ns.length) : ns.getD i d = ns[i] := by
  simp [List.getD, List.getElem?_eq_getElem h]
theorem at_getD {ns : List Str} {i : Int} (d : Str) (h0 : 0 ≤ i) (h1 : i < ns.length) : atI (ns.map V.str) i = some (.str (ns.getD i.toNat d)) := by
  obtain ⟨k, rfl⟩ := Int.eq_ofNat_of_zero_le h0
  have hk : k < ns.length := by omega
  refine atI_nat ?_
  rw [List.getElem?_map, List.getElem?_eq_getElem hk, Int.toNat_natCast, getD_eq _ hk]
  rfl
theorem at_getN {ns : List Nat} {i : Int} (d : Nat) (h0 : 0 ≤ i) (h1 : i < ns.length) : atI ns i = some (ns.getD i.toNat d) := by
  obtain ⟨k, rfl⟩ := Int.eq_ofNat_of_zero_le h0
  have hk : k < ns.length := by omega
  refine atI_nat ?_
  rw [List.getElem?_eq_getElem hk, Int.toNat_natCast, getD_eq _ hk]
theorem getD_mem {α : Type} {ns : List α} {i : Nat} (d : α) (h : i < ns.length) : ns.getD i d ∈ ns := by
  rw [getD_eq _ h]
  exact List.getElem_mem h
theorem at_ints_mem {ns : List Int} {i : Int} (h0 : 0 ≤ i) (h1 : i < ns.length) : ∃ z, z ∈ ns ∧ atI (ns.map V.int) i = some (.int z) := by
  obtain ⟨k, rfl⟩ := Int.eq_ofNat_of_zero_le h0
  have hk : k < ns.length := by omega
  exact ⟨ns[k], List.getElem_mem hk, atI_nat (by rw [List.getElem?_map, List.getElem?_eq_getElem hk]; rfl)⟩
theorem emod_lo (r : Int) {m : Int} (h : 0 < m) : 0 ≤ r % m := Int.emod_nonneg _ (by omega)
theorem emod_hi (r : Int) {m : Int} (h : 0 < m) : r % m < m := Int.emod_lt_of_pos _ h
theorem at_vs {xs : List V} {i : Int} (h0 : 0 ≤ i) (h1 : i < xs.length) : ∃ z, z ∈ xs ∧ atI xs i = some z := by
  obtain ⟨k, rfl⟩ := Int.eq_ofNat_of_zero_le h0
  have hk : k < xs.length := by omega
  exact ⟨xs[k], List.getElem_mem hk, atI_nat (List.getElem?_eq_getElem hk)⟩
end Fx

/-! ### constants of the module, more of texts -/
namespace Fx
open PySem PySem.Spec PyProof.Rows L2
theorem one_list (c : Nat) : (⟨#[c]⟩ : Str).cps.toList = [c] := rfl
theorem absV_rel {u : Value} {x : V} (h : absV u = some x) : RelV x u := by
  cases u <;> first
    | (cases h; rfl)
    | (cases h; exact ⟨_, rfl⟩)
    | cases h
def absVs : List Value → Option (List V)
  | [] => some []
  | u :: us => match absV u, absVs us with
    | some x, some xs => some (x :: xs)
    | _, _ => none
theorem absVs_rel : ∀ {us : List Value} {xs : List V}, absVs us = some xs → Vals xs us
  | [], xs, h => by cases h; exact .nil
  | u :: us, xs, h => by
    unfold absVs at h
    split at h
    · rename_i x ys h1 h2
      cases h
      exact .cons (absV_rel h1) (absVs_rel h2)
    · cases h
/-- a tuple of the module -/
structure TupFact (K : PySem.W.Frag) (x : Str) (xs : List V) : Prop where
  ex : ∃ (a : Addr) (od : Option Addr) (its : Array Value) (n : Nat) (sl : Array (Option Value)), PySem.W.nsIn K mainGlobals x = some (some (.ref a)) ∧ K.lookup a = some ⟨.type "tuple", od, .seq its n, sl⟩ ∧ absVs its.toList = some xs ∧ its.size ≤ 1000
theorem TupFact.of {K : PySem.W.Frag} {x : Str} {xs : List V} {a : Addr} {od : Option Addr} {its : Array Value} {n : Nat} {sl : Array (Option Value)} (h1 : PySem.W.nsIn K mainGlobals x = some (some (.ref a))) (h2 : K.lookup a = some ⟨.type "tuple", od, .seq its n, sl⟩)
    (h3 : absVs its.toList = some xs) (h4 : its.size ≤ 1000) : TupFact K x xs := ⟨a, od, its, n, sl, h1, h2, h3, h4⟩
theorem gstr_of {K : PySem.W.Frag} {x z : Str} {t : Tok} (h : PySem.W.nsIn K mainGlobals x = some (some (.str z t))) : ∃ t, PySem.W.nsIn K mainGlobals x = some (some (.str z t)) := ⟨t, h⟩
theorem gint_of {K : PySem.W.Frag} {x : Str} {z : Int} {t : Tok} (h : PySem.W.nsIn K mainGlobals x = some (some (.int z t))) : ∃ t, PySem.W.nsIn K mainGlobals x = some (some (.int z t)) := ⟨t, h⟩
def GTup (K : PySem.W.Frag) (mg : Str → Option Value) (x : Str) (xs : List V) : Prop := ∃ a, mg x = some (.ref a) ∧ ∀ H, SqT K H a xs
theorem TupFact.get {K : PySem.W.Frag} {mg : Str → Option Value} {x : Str} {xs : List V} {h : Heap} (X : K.In h) (G : h.Ns mainGlobals mg) (F : TupFact K x xs) : GTup K mg x xs := by
  obtain ⟨a, od, its, n, sl, h1, h2, h3, h4⟩ := F.ex
  exact ⟨a, PySem.W.mg_of X G h1, fun H => .inr ⟨_, its, n, h2, rfl, rfl, Nat.le_trans h4 (by decide), absVs_rel h3⟩⟩
def fGt_ (K : PySem.W.Frag) (xs : List V) : TE := fun _ H Q => ∀ a, (∀ H', SqT K H' a xs) → Q (.ref a) H
section
variable {X : Cx} {x : Str} {pos : Pos}
theorem fe_gstr {z : Str} (hg : Gl X x) (h : ∃ t, X.mg x = some (.str z t)) (hd : (x == ("__debug__" : Str)) = false := by decide) : PE X (.Name x pos) (tC (.str z)) := by
  obtain ⟨t, h⟩ := h
  exact pe_glob hg h ⟨t, rfl⟩ hd
theorem fe_gint {z : Int} (hg : Gl X x) (h : ∃ t, X.mg x = some (.int z t)) (hd : (x == ("__debug__" : Str)) = false := by decide) : PE X (.Name x pos) (tC (.int z)) := by
  obtain ⟨t, h⟩ := h
  exact pe_glob hg h ⟨t, rfl⟩ hd
theorem fe_gtup {xs : List V} (hg : Gl X x) (h : GTup X.K X.mg x xs) (hd : (x == ("__debug__" : Str)) = false := by decide) : PE X (.Name x pos) (fGt_ X.K xs) := by
  obtain ⟨a, h, hs⟩ := h
  exact pe_wk (pe_glob hg h (v := .ref a) rfl hd) fun σ H Q q => q a hs
/-- ''.join(list or tuple of texts) -/
def fJoin (K : PySem.W.Frag) : V → List V → Hp → VK → Prop := fun x vs H Q => match x, vs with
  | .str a, [.ref p] => ∃ ys : List Str, Rl K H p (ys.map V.str) ∧ (ys.map (·.length)).sum + ys.length * a.length ≤ 16777216 ∧ Q (.str (Txt.join a ys)) H
  | _, _ => False
theorem mt_fJoin : MtR X "str.join" (fJoin X.K) := by
  intro pins s σ H x xs v us Q I rx rs q
  unfold fJoin at q
  split at q
  · obtain ⟨ys, h1, h2, h3⟩ := q
    exact mt_join pins s σ H _ _ v us Q I rx rs ⟨_, _, ys, rfl, rfl, h1, h2, h3⟩
  · exact q.elim
def fLstripC : V → List V → Hp → VK → Prop := fun x vs H Q => match x, vs with
  | .str a, [.str b] => a.length ≤ sizeLine ∧ Q (.str (Txt.lstripChars a b)) H
  | _, _ => False
theorem mt_fLstripC : MtR X "str.lstrip" fLstripC := by
  intro pins s σ H x xs v us Q I rx rs q
  unfold fLstripC at q
  split at q
  · exact mt_lstripChars pins s σ H _ _ v us Q I rx rs ⟨_, _, rfl, rfl, q⟩
  · exact q.elim
end
theorem join_ones : ∀ cs : List Nat, Txt.join (S []) (cs.map fun c => S [c]) = S cs := by
  intro cs
  show (⟨_⟩ : Str) = ⟨_⟩
  congr 1
  cases cs with
  | nil => rfl
  | cons c r =>
    have go : ∀ (r : List Nat) (acc : List Nat), ((r.map fun c => S [c]).foldl (fun (acc : Array Nat) (p : Str) => acc ++ (S []).cps ++ p.cps) acc.toArray) = (acc ++ r).toArray := by
      intro r
      induction r with
      | nil => intro acc; simp
      | cons d r ih =>
        intro acc
        rw [List.map_cons, List.foldl_cons]
        have e : acc.toArray ++ (S []).cps ++ (S [d]).cps = (acc ++ [d]).toArray := by simp [S]
        rw [e, ih, List.append_assoc]
        rfl
    have := go r [c]
    simpa [S] using this
theorem drop_tw (p : Nat → Bool) : ∀ l : List Nat, l.drop (l.takeWhile p).length = l.dropWhile p
  | [] => rfl
  | c :: r => by
    rw [List.takeWhile_cons, List.dropWhile_cons]
    by_cases h : p c = true
    · rw [if_pos h, if_pos h, List.length_cons, List.drop_succ_cons, drop_tw p r]
    · rw [if_neg h, if_neg h, List.length_nil, List.drop_zero]
theorem lstrip_zero (l : List Nat) (b : Nat) : Txt.lstripChars (S l) (S [b]) = S (l.dropWhile (· == b)) := by
  have hp : ((S [b]).cps.contains : Nat → Bool) = (· == b) := by
    funext c
    simp only [S, List.contains_toArray, List.contains_cons, List.contains_nil, Bool.or_false]
  unfold Txt.lstripChars
  rw [hp]
  have ht : (stripLo (· == b) true (S l)) = (l.takeWhile (· == b)).length := rfl
  unfold Txt.stripBy
  split
  · rename_i h
    unfold stripSame at h
    have h0 : stripLo (· == b) true (S l) = 0 := by
      have := (Bool.and_eq_true_iff.mp h).1
      exact eq_of_beq this
    rw [ht] at h0
    rw [← drop_tw, h0, List.drop_zero]
  · unfold stripped
    rw [ht]
    have e : stripHi (· == b) false (S l) (l.takeWhile (· == b)).length = (S l).length := rfl
    rw [e, ← drop_tw]
    have := StrLaws.strSub_toList (S l) (l.takeWhile (· == b)).length (S l).length
    rw [← S_L (Builtin.Str.strSub _ _ _)]
    congr 1
    show (Builtin.Str.strSub _ _ _).cps.toList = _
    rw [this, S_cps, S_len]
    exact List.take_of_length_le (by rw [List.length_drop]; exact Nat.le_refl _)
end Fx

set_option Elab.async false
set_option linter.all false
set_option maxRecDepth 100000
/-! Ox: objects of the program's own classes, over Fx. -/
namespace Fx
open PySem PySem.Spec PyProof.Rows L2
/-! ### weakening within -/
section
variable {X : Cx}
/-- whatever follows may be weaker -/
def clos (t : TE) : TE := fun σ H Q => ∃ Q0 : VK, t σ H Q0 ∧ ∀ v H1, Q0 v H1 → Q v H1
def closA (t : TA) : TA := fun σ H Q => ∃ Q0, t σ H Q0 ∧ ∀ v H1, Q0 v H1 → Q v H1
theorem pe_clos {e : Expr} {t : TE} (h : PE X e t) : PE X e (clos t) := ⟨fun pins s σ H Q I ⟨Q0, h0, w⟩ => wpAny_mono (h.run pins s σ H Q0 I h0) (fun u s' ⟨v, H', I', r, q⟩ => ⟨v, H', I', r, w v H' q⟩) fun _ _ x => x⟩
theorem pa_clos {es : List Expr} {t : TA} (h : PA X es t) : PA X es (closA t) := ⟨fun pos pins s σ H Q I ⟨Q0, h0, w⟩ => wpAny_mono (h.run pos pins s σ H Q0 I h0) (fun u s' ⟨v, H', I', r, q⟩ => ⟨v, H', I', r, w v H' q⟩) fun _ _ x => x⟩
end
/-! ### heaps but for some places -/
def Keep (ps : List Addr) (H H' : Hp) : Prop := ∀ a o, a ∉ ps → H a = some o → H' a = some o
theorem Keep.refl {ps : List Addr} {H : Hp} : Keep ps H H := fun _ _ _ h => h
theorem Keep.trans {ps : List Addr} {H H1 H2 : Hp} (h : Keep ps H H1) (k : Keep ps H1 H2) : Keep ps H H2 := fun a o n e => k a o n (h a o n e)
theorem Keep.of {ps : List Addr} {H H' : Hp} (s : Same H H') : Keep ps H H' := fun a o _ e => s a o e
theorem Keep.mono {ps qs : List Addr} {H H' : Hp} (h : Keep ps H H') (m : ∀ a ∈ ps, a ∈ qs) : Keep qs H H' := fun a o n e => h a o (fun z => n (m a z)) e
theorem Keep.same {H H' : Hp} (h : Keep [] H H') : Same H H' := fun a o e => h a o (by simp) e
theorem Keep.upd {ps : List Addr} {H H' : Hp} {p : Addr} {o : HO} (h : Keep ps H H') (m : p ∈ ps) : Keep ps H (L2.upd H' p o) := fun a x n e => by
  rw [upd_ne (fun q => n (by rw [q]; exact m))]
  exact h a x n e
theorem Keep.updN {ps : List Addr} {H H' : Hp} {p : Addr} {o : HO} (h : Keep ps H H') (m : H p = none) : Keep ps H (L2.upd H' p o) := fun a x n e => by
  rw [upd_ne (ne_of_none e m)]
  exact h a x n e
/-- what the caller does not know -/
theorem Keep.drop {p : Addr} {ps : List Addr} {H H' : Hp} (h : Keep (p :: ps) H H') (m : H p = none) : Keep ps H H' := fun a x n e => h a x (by
  intro q
  rcases List.mem_cons.mp q with rfl | q
  · rw [m] at e; cases e
  · exact n q) e
/-- the new object's heap, when only it has been changed since -/
theorem mk_same {H H0 : Hp} {y : Addr} {o : HO} (s : Same H H0) (n : H y = none) : Same H (L2.upd H0 y o) := same_mut s n
theorem mk_same2 {H H0 : Hp} {y : Addr} {o o' : HO} (s : Same H H0) (n : H y = none) : Same H (L2.upd (L2.upd H0 y o) y o') := same_mut (same_mut s n) n
theorem upd2 {H : Hp} {y : Addr} {o o' : HO} : L2.upd (L2.upd H y o) y o' = L2.upd H y o' := by
  funext a
  by_cases h : a = y
  · subst h; rw [upd_same, upd_same]
  · rw [upd_ne h, upd_ne h, upd_ne h]
theorem SqL.keep {K : PySem.W.Frag} {ps : List Addr} {H H' : Hp} {a : Addr} {xs : List V} (k : Keep ps H H') (n : a ∉ ps) (h : SqL K H a xs) : SqL K H' a xs :=
  h.elim (fun h => .inl (h.elim (fun h => .inl (k _ _ n h)) fun ⟨o, h⟩ => .inr ⟨o, k _ _ n h⟩)) fun h => .inr h
/-! ### fields -/
def fFld (cs : List Addr) (f : Str) (ta : TE) : TE := fun σ H Q => ta σ H fun x H1 => match x with
  | .ref a => match H1 a with
    | some (.ins C _ fs) => C ∈ cs ∧ match fs.lookup f with
      | some v => Q v H1
      | none => False
    | _ => False
  | _ => False
def fSetF (cs : List Addr) (f : Str) (ta tv : TE) : TS := fun D σ H => tv σ H fun y H1 => ta σ H1 fun x H2 => match x with
  | .ref a => match H2 a with
    | some (.ins C dx fs) => C ∈ cs ∧ fs.length < 1000 ∧ D.nx σ (upd H2 a (.ins C dx (putF f y fs)))
    | _ => False
  | _ => False
/-- the classes that know an attribute only by their instances -/
def Plain (K : PySem.W.Frag) (cs : List Addr) (f : Str) : Prop := ∀ C ∈ cs, Cls K C ∧ NoAttr K C f
section
variable {X : Cx} {o e value : Expr} {f : Str} {pos pos' : Pos} {ta tv : TE} {cs : List Addr}
theorem fe_fld (he : PE X e ta) (hc : Plain X.K cs f) (hb : attributeBase e f X.env (eval e X.env) = eval e X.env) : PE X (.Attribute e f pos) (fFld cs f ta) := by
  refine pe_wk (pe_fld (pe_clos he) hb) fun σ H Q q => ⟨_, q, fun x H1 q => ?_⟩
  split at q
  · split at q
    · obtain ⟨m, q⟩ := q
      split at q
      · exact ⟨_, _, _, _, _, rfl, by assumption, (hc _ m).1, (hc _ m).2, by assumption, q⟩
      · exact q.elim
    · exact q.elim
  · exact q.elim
theorem fs_fld (ha : PE X o ta) (hv : PE X value tv) (hc : Plain X.K cs f) (hs : swapsWith value (some (.Attribute o f pos')) pos.line X.env = pure false) : PS X (.Assign [.Attribute o f pos'] value pos) (fSetF cs f ta tv) := by
  refine ps_wk (ps_fld (pe_clos ha) (pe_clos hv) hs) fun D σ H q => ⟨_, q, fun y H1 q => ⟨_, q, fun x H2 q => ?_⟩⟩
  split at q
  · split at q
    · exact ⟨_, _, _, _, rfl, by assumption, (hc _ q.1).1, (hc _ q.1).2, q.2.1, q.2.2⟩
    · exact q.elim
  · exact q.elim
end
/-- {} -/
def fDnew : TE := fun _ H Q => ∀ p H2, H p = none → Same H H2 → H2 p = some (.dK []) → Q (.ref p) H2
theorem fe_dnew {X : Cx} {pos : Pos} : PE X (.Dict [] [] pos) fDnew := pe_wk pe_dnewK fun σ H Q q => fun p np => q p _ np (same_new np) upd_same
theorem rl_keep {K : PySem.W.Frag} {H H' : Hp} {a : Addr} {xs : List V} (s : Same H H') (h : Rl K H a xs) : Rl K H' a xs := h.elim (fun h => .inl (s.seq h)) fun h => .inr (SqT.ext h s)
/-! ### methods, making -/
/-- a method as it stands in its class -/
structure AtM (K : PySem.W.Frag) (C : Addr) (x qual : Str) (st : Stmt) (ps : List Str) : Prop where
  ex : ∃ (f : Addr) (fd : FuncData), Fun K x qual st f fd ∧ Binds K fd ps [] ∧ Meth K C x f
structure MFact (K : PySem.W.Frag) (C : Addr) (x qual : Str) (st : Stmt) : Prop where
  ex : ∃ (f : Addr) (oc : Value) (od an : Option Addr) (sl : Array (Option Value)) (kV dc pm cd ct : Value),
    PySem.W.findIn K (.ref C) x = some (some (.ref f)) ∧ K.lookup f = some ⟨oc, od, .func (PySem.W.fnOf x qual (defArgs st) (defBody st) (defScope st) .none kV dc pm an cd ct), sl⟩ ∧
    PySem.W.codeIn K cd qual = true ∧ PySem.W.keepIn K (.ref f) = true ∧ PySem.W.isFn K (.ref f) = true
theorem MFact.of {K : PySem.W.Frag} {C : Addr} {x qual : Str} {st : Stmt} {f : Addr} {oc : Value} {od an : Option Addr} {sl : Array (Option Value)} {kV dc pm cd ct : Value}
    (a : PySem.W.findIn K (.ref C) x = some (some (.ref f))) (l : K.lookup f = some ⟨oc, od, .func (PySem.W.fnOf x qual (defArgs st) (defBody st) (defScope st) .none kV dc pm an cd ct), sl⟩)
    (c : PySem.W.codeIn K cd qual = true) (k : PySem.W.keepIn K (.ref f) = true) (i : PySem.W.isFn K (.ref f) = true) : MFact K C x qual st := ⟨f, oc, od, an, sl, kV, dc, pm, cd, ct, a, l, c, k, i⟩
theorem AtM.of {K : PySem.W.Frag} {C : Addr} {x qual : Str} {st : Stmt} {ps : List Str} (F : MFact K C x qual st)
    (hb : ∀ (kV doc pm : Value) (an : Option Addr) (cdv ct : Value) (us : List Value), us.length = ps.length → bindArgs (PySem.W.fnOf x qual (defArgs st) (defBody st) (defScope st) .none kV doc pm an cdv ct) ⟨us, []⟩ = pure (ps.zip us)) : AtM K C x qual st ps := by
  obtain ⟨f, oc, od, an, sl, kV, dc, pm, cd, ct, a, l, c, k, i⟩ := F.ex
  have F1 := fun_mk (st := st) l c k
  exact ⟨_, _, F1, F1.binds hb, ⟨a, i, k⟩⟩
/-- a method that keeps a promise (of the object and the arguments) -/
structure HasM (P : Program) (w : World) (K : PySem.W.Frag) (mg : Str → Option Value) (base : Heap) (CX : CXT) (C : Addr) (x : Str) (k : Nat) (ps : List Str) (sp : Sp) : Prop where
  ex : ∃ (f : Addr) (fd : FuncData), FnOk P w K mg base CX k f fd ps sp ∧ Binds K fd ps [] ∧ Meth K C x f
/-- a class whose making keeps a promise (of the arguments) -/
structure HasC (P : Program) (w : World) (K : PySem.W.Frag) (mg : Str → Option Value) (base : Heap) (CX : CXT) (C : Addr) (x : Str) (k : Nat) (ps : List Str) (sp : Sp) : Prop where
  ex : ∃ (f : Addr) (fd : FuncData) (sp' : Sp), FnOk P w K mg base CX k f fd ps sp' ∧ Binds K fd ps [] ∧ Mk K C f ∧ mg x = some (.ref C) ∧
    ∀ vs H Q E, sp vs H Q E → ∀ y dx H0, H y = none → Same H H0 → H0 y = some (.ins C dx []) → sp' (.ref y :: vs) H0 (fun v H2 => v = .non ∧ Q (.ref y) H2) E
section
variable {P : Program} {w : World} {K : PySem.W.Frag} {mg : Str → Option Value} {base : Heap}
theorem hasM_of {C : Addr} {x qual : Str} {st : Stmt} {N ps : List Str} {k : Nat} {sp : Sp} (A : AtM K C x qual st ps) (S : FnScope N ps (defScope st)) (len : ∀ vs H Q E, sp vs H Q E → vs.length = ps.length)
    (hbody : ∀ (cdv : Value) (f : Addr) (A : Around) (outer : List Env) (s : Shared) (H : Hp) (vs : List V) (Q : VK) (E : XK), Room k (A.deeper (envOfC qual (defScope st) s.heap.objs.size f cdv)) → sp vs H Q E →
      ∃ t, PSs (cxOf CX0 P w K mg base N qual (defScope st) f cdv A outer s H E).nox (defBody st) t ∧ t { nx := fun _ H' => Q .non H', rt := Q } (start N vs) H) : HasM P w K mg base CX0 C x (k + 1) ps sp := by
  obtain ⟨f, fd, F, B, G⟩ := A.ex
  exact ⟨f, fd, F.ok S len fun cdv A outer s H vs Q E hr h => hbody cdv f A outer s H vs Q E hr h, B, G⟩
/-- what a class is for making -/
structure MkAt (K : PySem.W.Frag) (mg : Str → Option Value) (x : Str) (C : Addr) : Prop where
  makes : PySem.W.makesIn K C = true
  kp : PySem.W.keepIn K (.ref C) = true
  at_ : mg x = some (.ref C)
theorem hasC_of {C : Addr} {x qual : Str} {st : Stmt} {N ps : List Str} {k : Nat} {sp : Sp} (M : MkAt K mg x C) (A : AtM K C "__init__" qual st ps) (S : FnScope N ps (defScope st)) (len : ∀ vs H Q E, sp vs H Q E → vs.length + 1 = ps.length)
    (hbody : ∀ (cdv : Value) (f : Addr) (A : Around) (outer : List Env) (s : Shared) (H : Hp) (vs : List V) (Q : VK) (E : XK) (y dx : Addr) (H0 : Hp), Room k (A.deeper (envOfC qual (defScope st) s.heap.objs.size f cdv)) → sp vs H Q E → H y = none → Same H H0 → H0 y = some (.ins C dx []) →
      ∃ t, PSs (cxOf CX0 P w K mg base N qual (defScope st) f cdv A outer s H0 E).nox (defBody st) t ∧ t { nx := fun _ H' => Q (.ref y) H', rt := fun v H' => v = .non ∧ Q (.ref y) H' } (start N (.ref y :: vs)) H0) : HasC P w K mg base CX0 C x (k + 1) ps sp := by
  obtain ⟨f, fd, F, B, G⟩ := A.ex
  refine ⟨f, fd, fun ws H0 Q' E => ∃ y vs H Q dx, ws = .ref y :: vs ∧ sp vs H Q E ∧ H y = none ∧ Same H H0 ∧ H0 y = some (.ins C dx []) ∧ Q' = fun v H2 => v = .non ∧ Q (.ref y) H2, ?_, B, ⟨M.makes, G.at_, G.fn, M.kp⟩, M.at_, ?_⟩
  · refine F.ok S (fun ws H0 Q' E h => ?_) fun cdv A outer s H0 ws Q' E hr h => ?_
    · obtain ⟨y, vs, H, Q, dx, rfl, h, _⟩ := h
      exact len vs H Q E h
    · obtain ⟨y, vs, H, Q, dx, rfl, h, hy, hs, h0, rfl⟩ := h
      obtain ⟨t, h1, h2⟩ := hbody cdv f A outer s H vs Q E y dx H0 hr h hy hs h0
      refine ⟨t, h1, ?_⟩
      have e : (fun (_ : L2.St) (H' : Hp) => (fun v H2 => v = V.non ∧ Q (.ref y) H2) V.non H') = fun _ H' => Q (.ref y) H' := by
        funext _ H'
        exact propext ⟨fun h => h.2, fun h => ⟨rfl, h⟩⟩
      rw [e]
      exact h2
  · intro vs H Q E h y dx H0 hy hs h0
    exact ⟨y, vs, H, Q, dx, rfl, h, hy, hs, h0, rfl⟩
end
section
variable {X : Cx} {CX : CXT} {k : Nat} {C : Addr} {x m : Str} {p pos apos : Pos} {o e : Expr} {es : List Expr} {t : TA} {ta : TE} {ps : List Str} {sp : Sp} {E : XK}
theorem fe_make (h : HasC X.prog X.w X.K X.mg X.base CX C x k ps sp) (hr : Room (k + 1) X.A) (hg : Gl X x) (hx : Passes CX X E) (ha : PA X (e :: es) t) (hd : (x == ("__debug__" : Str)) = false := by decide)
    (hs : starEach (e :: es) X.env = (false, eval e X.env) :: starEach es X.env := by rfl) (hplain : (backTo pos (starEach es X.env)).any (·.1) = false := by rfl) : PE X (.Call (.Name x p) (e :: es) [] pos) (tCall sp [] E t) := by
  obtain ⟨f, fd, sp', F, B, M, G, h⟩ := h.ex
  refine pe_wk (pe_make M F hr hg G B .nil hx (pa_clos ha) hd hs hplain) fun σ H Q q => ⟨_, q, fun vs H1 q y dx n1 n2 n3 => ?_⟩
  rw [List.append_nil] at q ⊢
  refine h vs H1 Q E q y dx _ n1 (fun b z ez => ?_) upd_same
  rw [upd_ne (ne_of_none ez n1), upd_ne (ne_of_none ez n2)]
  exact ez
theorem fe_make0 (h : HasC X.prog X.w X.K X.mg X.base CX C x k ps sp) (hr : Room (k + 1) X.A) (hg : Gl X x) (hx : Passes CX X E) (hd : (x == ("__debug__" : Str)) = false := by decide) : PE X (.Call (.Name x p) [] [] pos) (tCall sp [] E tNil) := by
  obtain ⟨f, fd, sp', F, B, M, G, h⟩ := h.ex
  refine pe_wk (pe_make0 M F hr hg G B .nil hx hd) fun σ H Q q => ?_
  show tNil σ H _
  intro y dx n1 n2 n3
  refine h [] H Q E q y dx _ n1 (fun b z ez => ?_) upd_same
  rw [upd_ne (ne_of_none ez n1), upd_ne (ne_of_none ez n2)]
  exact ez
/-- an instance of the class, without an attribute of the name -/
def isOb (C : Addr) (m : Str) : V → Hp → Prop := fun x H => match x with
  | .ref a => match H a with
    | some (.ins D _ fs) => D = C ∧ fs.lookup m = none
    | _ => False
  | _ => False
def fMeth (C : Addr) (m : Str) (sp : Sp) (E : XK) (ta : TE) (t : TA) : TE := fun σ H Q => ta σ H fun x H1 => isOb C m x H1 ∧ t σ H1 fun vs H2 => sp (x :: vs) H2 Q E
theorem fMeth_to {σ : L2.St} {H : Hp} {Q : VK} (q : fMeth C m sp E ta t σ H Q) : tMeth C m sp [] E (clos ta) t σ H Q := by
  refine ⟨_, q, fun x H1 ⟨q1, q2⟩ => ?_⟩
  unfold isOb at q1
  split at q1
  · split at q1
    · obtain ⟨rfl, q1⟩ := q1
      refine ⟨_, _, _, rfl, by assumption, q1, ?_⟩
      simp only [List.append_nil]
      exact q2
    · exact q1.elim
  · exact q1.elim
theorem fe_meth {pl : Sem Bool} (h : HasM X.prog X.w X.K X.mg X.base CX C m k ps sp) (c : Cls X.K C) (hr : Room k X.A) (hx : Passes CX X E) (he : PE X o ta) (ha : PA X (e :: es) t)
    (hst : starEach (e :: es) X.env = (false, eval e X.env) :: starEach es X.env := by rfl) (hpl : (backTo pos (starEach es X.env)).any (·.1) = false := by rfl)
    (ht : eval (.Call (.Attribute o m apos) (e :: es) [] pos) X.env = (do
      let ov ← eval o X.env
      standAt apos.atName
      let (f, first) ← holding [ov] (getMethod ov m pl)
      callWith pos f first (backTo pos (starEach (e :: es) X.env)) (backToKw pos (keywordEach [] X.env))) := by rfl) :
    PE X (.Call (.Attribute o m apos) (e :: es) [] pos) (fMeth C m sp E ta t) := by
  obtain ⟨f, fd, F, B, M⟩ := h.ex
  exact pe_wk (pe_meth (pe_clos he) c M F hr B .nil hx ha hst hpl ht) fun σ H Q q => fMeth_to q
theorem fe_meth0 {pl : Sem Bool} (h : HasM X.prog X.w X.K X.mg X.base CX C m k ps sp) (c : Cls X.K C) (hr : Room k X.A) (hx : Passes CX X E) (he : PE X o ta)
    (ht : eval (.Call (.Attribute o m apos) [] [] pos) X.env = (do
      let ov ← eval o X.env
      standAt apos.atName
      let (f, first) ← holding [ov] (getMethod ov m pl)
      callWith pos f first (backTo pos (starEach [] X.env)) (backToKw pos (keywordEach [] X.env))) := by rfl) :
    PE X (.Call (.Attribute o m apos) [] [] pos) (fMeth C m sp E ta tNil) := by
  obtain ⟨f, fd, F, B, M⟩ := h.ex
  exact pe_wk (pe_meth0 (pe_clos he) c M F hr B .nil hx ht) fun σ H Q q => fMeth_to q
end
/-! ### isinstance of own classes -/
/-- what isinstance asks of a class of the program -/
structure OCls (K : PySem.W.Frag) (C : Addr) : Prop where
  cl : Cls K C
  ci : PySem.W.findIn K (.ref C) "__class__" = some (some (.builtin "object.__class__"))
  gd : PySem.W.specialIn K (.builtin "object.__class__") "__get__" = some (some (.builtin "getset_descriptor.__get__"))
  tk : PySem.W.takesIn K (.builtin "object.__class__") = some true
  mr : PySem.W.mroIn K C (.type "object") = some true
/-- the answers of isinstance for instances of cs and plain values, at the classes ds -/
structure Kit (K : PySem.W.Frag) (cs ds : List Addr) : Prop where
  ow : ∀ C ∈ cs, OCls K C
  oo : ∀ C ∈ cs, ∀ D ∈ ds, PySem.W.kitOne K (.ref C) (.ref D) = some (decide (C = D))
  bo : ∀ n ∈ ["NoneType", "bool", "int", "str", "list", "tuple", "dict"], ∀ D ∈ ds, PySem.W.kitOne K (.type n) (.ref D) = some false
  ob : ∀ C ∈ cs, ∀ n ∈ ["bool", "int", "str", "list", "tuple", "dict"], PySem.W.kitOne K (.ref C) (.type n) = some false
/-- a value's class -/
def tyV2 (H : Hp) : V → Option Value
  | .ref a => match H a with
    | some (.ins C _ _) => some (.ref C)
    | some (.lst _) => some (.type "list")
    | some (.tup _) => some (.type "tuple")
    | some (.dK _) => some (.type "dict")
    | some (.dT _) => some (.type "dict")
    | _ => none
  | .non => some (.type "NoneType")
  | .bl _ => some (.type "bool")
  | .int _ => some (.type "int")
  | .str _ => some (.type "str")
  | _ => none
def okT (cs : List Addr) : Value → Prop
  | .ref C => C ∈ cs
  | _ => True
def kit2 (D : Addr) : Value → Bool
  | .ref C => decide (C = D)
  | _ => false
theorem ty2_kit {K : PySem.W.Frag} {cs ds : List Addr} (k : Kit K cs ds) {H : Hp} {x : V} {t : Value} (h : tyV2 H x = some t) (ok : okT cs t) : TyX K H x t ∧ ∀ D ∈ ds, PySem.W.kitOne K t (.ref D) = some (kit2 D t) := by
  unfold tyV2 at h
  split at h <;> first
    | (cases h; exact ⟨.base .non, fun D hD => k.bo "NoneType" (by decide) D hD⟩)
    | (cases h; exact ⟨.base (.bl _), fun D hD => k.bo "bool" (by decide) D hD⟩)
    | (cases h; exact ⟨.base (.int _), fun D hD => k.bo "int" (by decide) D hD⟩)
    | (cases h; exact ⟨.base (.str _), fun D hD => k.bo "str" (by decide) D hD⟩)
    | (split at h <;> first
        | (cases h; exact ⟨.base (.lst (by assumption)), fun D hD => k.bo "list" (by decide) D hD⟩)
        | (cases h; exact ⟨.base (.tup (by assumption)), fun D hD => k.bo "tuple" (by decide) D hD⟩)
        | (cases h; exact ⟨.base (.dK (by assumption)), fun D hD => k.bo "dict" (by decide) D hD⟩)
        | (cases h; exact ⟨.base (.dT (by assumption)), fun D hD => k.bo "dict" (by decide) D hD⟩)
        | (cases h
           have O := k.ow _ ok
           exact ⟨.base (.ins (by assumption) O.cl O.ci O.gd O.tk O.mr), fun D hD => k.oo _ ok D hD⟩)
        | cases h)
    | cases h
/-- isinstance(x, C), C an own class -/
def fIsiO (cs ds : List Addr) : List V → Hp → VK → Prop := fun xs H Q => match xs with
  | [x, .ref D] => ∃ t, tyV2 H x = some t ∧ okT cs t ∧ D ∈ ds ∧ Q (.bl (kit2 D t)) H
  | _ => False
theorem call_fIsiO {X : Cx} {cs ds : List Addr} (k : Kit X.K cs ds) : CallR X (.builtin "isinstance") (fIsiO cs ds) := by
  intro pins s σ H xs us Q I r h
  match xs, r, h with
  | [x, .ref D], r, h =>
    obtain ⟨t, h1, h2, h3, h4⟩ := h
    obtain ⟨g1, g2⟩ := ty2_kit k h1 h2
    exact call_isi pins s σ H _ us Q I r ⟨x, .ref D, _, _, _, rfl, .own D, g1, g2 D h3, h4⟩
/-- isinstance(x, (C, D, ..)), own classes, the tuple just made -/
def kits2 (t : Value) : List V → Bool
  | .ref D :: r => kit2 D t || kits2 t r
  | _ => false
def allIn (ds : List Addr) : List V → Prop
  | [] => True
  | .ref D :: r => D ∈ ds ∧ allIn ds r
  | _ :: _ => False
theorem kits2_any {K : PySem.W.Frag} {ds : List Addr} {t : Value} (k : ∀ D ∈ ds, PySem.W.kitOne K t (.ref D) = some (kit2 D t)) : ∀ {vs : List V}, allIn ds vs → ∃ us, Paired ClsV vs us ∧ PySem.W.kitAny K t us = some (kits2 t vs)
  | [], _ => ⟨[], .nil, kitAny_nil⟩
  | v :: r, ha => by
    cases v <;> first
      | exact ha.elim
      | (rename_i D
         obtain ⟨us, p, q⟩ := kits2_any k ha.2
         refine ⟨_, .cons (.own D) p, kitAny_cons (k D ha.1) (fun hb => ?_) (fun hb => ?_)⟩
         · rw [q, kits2, hb]; rfl
         · rw [kits2, hb]; rfl)
def fIsiP (cs ds : List Addr) : List V → Hp → VK → Prop := fun xs H Q => match xs with
  | [x, .ref p] => match H p with
    | some (.tup vs) => ∃ t, tyV2 H x = some t ∧ okT cs t ∧ allIn ds vs ∧ Q (.bl (kits2 t vs)) H
    | _ => False
  | _ => False
theorem call_fIsiP {X : Cx} {cs ds : List Addr} (k : Kit X.K cs ds) : CallR X (.builtin "isinstance") (fIsiP cs ds) := by
  intro pins s σ H xs us Q I r h
  match xs, r, h with
  | [x, .ref p], r, h =>
    dsimp only [fIsiP] at h
    split at h
    · obtain ⟨t, h1, h2, h3, h4⟩ := h
      obtain ⟨g1, g2⟩ := ty2_kit k h1 h2
      obtain ⟨ws, g3, g4⟩ := kits2_any g2 h3
      exact call_isiT pins s σ H _ us Q I r ⟨x, p, _, _, ws, _, rfl, by assumption, g3, g1, g4, h4⟩
    · exact h.elim
/-- isinstance(x, T), T a built-in class, x an instance too -/
def fIsiA (cs : List Addr) : List V → Hp → VK → Prop := fun xs H Q => match xs with
  | [x, .ty n] => ∃ t, tyV2 H x = some t ∧ match t with
    | .ref C => C ∈ cs ∧ n ∈ ["bool", "int", "str", "list", "tuple", "dict"] ∧ Q (.bl false) H
    | .type s => ∃ b, kitB s n = some b ∧ Q (.bl b) H
    | _ => False
  | _ => False
theorem call_fIsiA {X : Cx} {cs ds : List Addr} (k : Kit X.K cs ds) : CallR X (.builtin "isinstance") (fIsiA cs) := by
  intro pins s σ H xs us Q I r h
  match xs, r, h with
  | [x, .ty n], r, h =>
    obtain ⟨t, h1, h2⟩ := h
    match t, h1, h2 with
    | .ref C, h1, h2 =>
      obtain ⟨g1, _⟩ := ty2_kit k h1 (show okT cs (.ref C) from h2.1)
      exact call_isi pins s σ H _ us Q I r ⟨x, .ty n, _, _, _, rfl, .ty n, g1, k.ob C h2.1 n h2.2.1, h2.2.2⟩
    | .type s', h1, h2 =>
      obtain ⟨b, h3, h4⟩ := h2
      obtain ⟨g1, _⟩ := ty2_kit k h1 (show okT cs (.type s') from trivial)
      exact call_isi pins s σ H _ us Q I r ⟨x, .ty n, _, _, _, rfl, .ty n, g1, kit_ty h3, h4⟩
/-- x is True, x is False; x is not .. -/
def fIsB (neg : Bool) : R2 := fun x y H Q => match y with
  | .bl b => (match x with | .non => Q (.bl neg) H | .bl c => Q (.bl (if neg = true then !decide (c = b) else decide (c = b))) H | .int _ => Q (.bl neg) H | .str _ => Q (.bl neg) H | .ref _ => Q (.bl neg) H | _ => False)
  | _ => False
theorem same_bool {M : Model} {A : Around} {E : Value → Shared → Prop} {s : Shared} {x : V} {u : Value} {b : Bool} {R : Bool → Shared → Prop} (r : RelV x u)
    (h : match x with | .non => R false s | .bl c => R (decide (c = b)) s | .int _ => R false s | .str _ => R false s | .ref _ => R false s | _ => False) : wpAny M A (isSame u (.bool b)) R E s := by
  cases x <;> first
    | exact h.elim
    | (cases r
       refine wpAny_isSame_plain rfl ?_
       exact h)
    | (obtain ⟨t, rfl⟩ := r
       refine wpAny_isSame_plain rfl ?_
       exact h)
    | (cases r
       rename_i c
       refine wpAny_isSame_plain rfl ?_
       have e : (Value.bool c == Value.bool b) = decide (c = b) := by cases c <;> cases b <;> rfl
       rw [e]
       exact h)
theorem op_fIsB {X : Cx} : OpR X (compareOp .Is) (fIsB false) := by
  intro pins s σ H x y v u Q I rx ry h
  cases y <;> first
    | exact False.elim h
    | (cases ry
       show wpAny _ _ ((isSame v (Value.bool _)) >>= fun z => pure (Value.bool z)) _ _ s
       refine wpAny_bind (same_bool rx ?_)
       cases x <;> first
         | exact False.elim h
         | exact wpAny_pure (fin_bl I h rfl))
theorem op_fNotB {X : Cx} : OpR X (compareOp .IsNot) (fIsB true) := by
  intro pins s σ H x y v u Q I rx ry h
  cases y <;> first
    | exact False.elim h
    | (cases ry
       show wpAny _ _ ((isSame v (Value.bool _)) >>= fun z => pure (Value.bool (!z))) _ _ s
       refine wpAny_bind (same_bool rx ?_)
       cases x <;> first
         | exact False.elim h
         | exact wpAny_pure (fin_bl I h rfl))
/-- one of two ways -/
def fOr (r1 r2 : R2) : R2 := fun x y H Q => r1 x y H Q ∨ r2 x y H Q
theorem op_fOr {X : Cx} {f : Value → Value → Sem Value} {r1 r2 : R2} (h1 : OpR X f r1) (h2 : OpR X f r2) : OpR X f (fOr r1 r2) := fun pins s σ H x y v u Q I rx ry q => q.elim (h1 pins s σ H x y v u Q I rx ry) (h2 pins s σ H x y v u Q I rx ry)
theorem all_nil {α : Type} {P : α → Prop} : ∀ x ∈ ([] : List α), P x := fun _ h => by cases h
theorem all_cons {α : Type} {P : α → Prop} {a : α} {l : List α} (h : P a) (t : ∀ x ∈ l, P x) : ∀ x ∈ a :: l, P x := fun x m => by
  rcases List.mem_cons.mp m with rfl | m
  · exact h
  · exact t x m
/-! ### == by an own __eq__ -/
def fEqO (C : Addr) (sp : Sp) (E : XK) : R2 := fun x y H Q => match x, y with
  | .ref a, .ref b => (match H a with | some (.ins D _ _) => D = C | _ => False) ∧ (match H b with | some (.ins D _ _) => D = C | _ => False) ∧ sp [x, y] H (fun v H' => match v with | .bl _ => Q v H' | _ => False) E
  | _, _ => False
theorem op_fEqO {X : Cx} {CX : CXT} {C : Addr} {n : Nat} {ps : List Str} {sp : Sp} {E : XK} (h : HasM X.prog X.w X.K X.mg X.base CX C "__eq__" n ps sp) (hr : Room n X.A) (hx : Passes CX X E) : OpR X (compareOp .Eq) (fEqO C sp E) := by
  intro pins s σ H x y v u Q I rx ry q
  obtain ⟨f, fd, F, B, M⟩ := h.ex
  cases x <;> cases y <;> first
    | exact False.elim q
    | skip
  rename_i a b
  dsimp only [fEqO] at q
  obtain ⟨qa, qb, q⟩ := q
  split at qa
  · rename_i D1 dx1 fs1 ea
    split at qb
    · rename_i D2 dx2 fs2 eb
      subst qa
      subst qb
      cases rx
      cases ry
      obtain ⟨mA, J, _⟩ := ins_get I.hok ea
      obtain ⟨mB, J', _⟩ := ins_get I.hok eb
      obtain ⟨od, J, _⟩ := J.look
      obtain ⟨od', J', _⟩ := J'.look
      obtain ⟨m, hF⟩ := I.fr
      show wpAny (model X.prog X.w) X.A (richCompare .Eq (.ref a) (.ref b)) (EP X pins σ Q) X.xe s
      refine PySem.W.cmp_K (op := .Eq) (tb := .ref D2) hr.units0 hF I.ok.mod.kin J J'.type (by simp [PySem.W.notFirst]) M.at_ M.fn ?_
      refine wpAny_mono (run_fn (vs := [.ref a, .ref b]) F hr B .nil hx I (.cons rfl (.cons rfl .nil)) q) (fun w s' z => ?_) fun _ _ x => x
      obtain ⟨y, H', I', r, z⟩ := z
      cases y <;> first
        | exact z.elim
        | (cases r; exact ⟨.bl _, H', I', rfl, z⟩)
    · exact qb.elim
  · exact qa.elim
/-! ### what the top has written of a class -/
structure ClsFact (K : PySem.W.Frag) (C : Addr) : Prop where
  pg : PySem.W.plainGet K C Str.empty = true
  hd : PySem.W.hasDictIn K C = true
  po : PySem.W.plainOver K C = true
  sa : PySem.W.findIn K (.ref C) "__setattr__" = some (some (.builtin "object.__setattr__"))
  ci : PySem.W.findIn K (.ref C) "__class__" = some (some (.builtin "object.__class__"))
  mr : PySem.W.mroIn K C (.type "object") = some true
  mks : PySem.W.makesIn K C = true
  kp : PySem.W.keepIn K (.ref C) = true
theorem ClsFact.cls {K : PySem.W.Frag} {C : Addr} (x : ClsFact K C) : Cls K C := ⟨x.pg, x.hd, x.po, x.sa⟩
/-- what every class has of object -/
structure ObjFact (K : PySem.W.Frag) : Prop where
  gd : PySem.W.specialIn K (.builtin "object.__class__") "__get__" = some (some (.builtin "getset_descriptor.__get__"))
  tk : PySem.W.takesIn K (.builtin "object.__class__") = some true
theorem ClsFact.ocls {K : PySem.W.Frag} {C : Addr} (x : ClsFact K C) (o : ObjFact K) : OCls K C := ⟨x.cls, x.ci, o.gd, o.tk, x.mr⟩
/-! ### comprehensions -/
def Lc (J : It) (g : TG) (tt : TT) (te : TE) (vs : List Nat) (σ : L2.St) (H1 : Hp) (D : Addr) (Q : VK) : Prop := ∃ W : Nat → Nat → Hp → Prop, (∃ m, W 0 m (upd H1 D (.lst []))) ∧ ∀ i m H, W i m H →
  (J.stop i H ∧ Q (.ref D) H) ∨ (J.go i H ∧ ∃ Nx : Hp → Prop, (∀ H', Nx H' → ∃ m', m' < m ∧ W (i + 1) m' H') ∧ ∀ x H', J.yld i H x H' → g x (wipe σ vs) H' fun σ2 H2 => wipe σ2 vs = wipe σ vs ∧ tt σ2 H2 fun b H3 =>
    if b = true then te σ2 H3 fun y H4 => ∃ acc, H4 D = some (.lst acc) ∧ acc.length < sizeLine ∧ Nx (upd H4 D (.lst (acc ++ [y]))) else Nx H3)
theorem lc_ {wi : TI} {g : TG} {tt : TT} {te : TE} {vs : List Nat} {σ : L2.St} {H : Hp} {Q : VK} (h : wi σ H fun J H1 => ∀ D, H1 D = none → Lc J g tt te vs σ H1 D Q) : tLc wi g tt te vs σ H Q := h
theorem lcx_range {lo : Int} {n : Nat} {g : TG} {tt : TT} {te : TE} {vs : List Nat} {σ : L2.St} {H1 : Hp} {D : Addr} {Q : VK} (Pv : Nat → Hp → Prop) (h0 : Pv 0 (upd H1 D (.lst [])))
    (hs : ∀ i H, i < n → Pv i H → g (.int (lo + i)) (wipe σ vs) H fun σ2 H2 => wipe σ2 vs = wipe σ vs ∧ tt σ2 H2 fun b H3 =>
      if b = true then te σ2 H3 fun y H4 => ∃ acc, H4 D = some (.lst acc) ∧ acc.length < sizeLine ∧ Pv (i + 1) (upd H4 D (.lst (acc ++ [y]))) else Pv (i + 1) H3) (hd : ∀ H, Pv n H → Q (.ref D) H) : Lc (Itr lo n) g tt te vs σ H1 D Q :=
  lc_it walk_range Pv h0 (fun _ _ _ _ => trivial) (fun i x H H' hi p y => by
    obtain ⟨rfl, rfl⟩ := y
    exact hs i _ hi p) hd
theorem lcx_list {K : PySem.W.Frag} {a : Addr} {xs : List V} {g : TG} {tt : TT} {te : TE} {vs : List Nat} {σ : L2.St} {H1 : Hp} {D : Addr} {Q : VK} (Pv : Nat → Hp → Prop) (h0 : Pv 0 (upd H1 D (.lst []))) (hl : ∀ i H, i ≤ xs.length → Pv i H → SqL K H a xs)
    (hs : ∀ i x H, xs[i]? = some x → Pv i H → g x (wipe σ vs) H fun σ2 H2 => wipe σ2 vs = wipe σ vs ∧ tt σ2 H2 fun b H3 =>
      if b = true then te σ2 H3 fun y H4 => ∃ acc, H4 D = some (.lst acc) ∧ acc.length < sizeLine ∧ Pv (i + 1) (upd H4 D (.lst (acc ++ [y]))) else Pv (i + 1) H3) (hd : ∀ H, Pv xs.length H → Q (.ref D) H) : Lc (Itl K a) g tt te vs σ H1 D Q :=
  lc_it walk_list Pv h0 hl (fun i x H H' hi p y => by
    obtain ⟨rfl, e⟩ := y
    exact hs i x _ e p) hd
end Fx

set_option Elab.async false
set_option linter.all false
set_option maxRecDepth 100000
/-! Ex: exceptions of the program's own classes, over Ox. -/
namespace Fx
open PySem PySem.Spec PyProof.Rows L2
/-! ### defs that may raise -/
/-- what leaves a def, as its promise says -/
abbrev wOf (E : XK) : WX := fun cls d _ H => E cls d H
section
variable {P : Program} {w : World} {K : PySem.W.Frag} {mg : Str → Option Value} {base : Heap}
theorem tk_of {N : List Str} {qual : Str} {sc : Scope} {f : Addr} {cd : Value} {A : Around} {outer : List Env} {s : Shared} {H : Hp} {E : XK} : Takes (cxOf (L2.CX P w) P w K mg base N qual sc f cd A outer s H E) (wOf E) := takes_of rfl rfl rfl rfl
theorem hasX_of {x qual : Str} {st : Stmt} {N ps : List Str} {k : Nat} {sp : Sp} (A : At K mg x qual st ps) (S : FnScope N ps (defScope st)) (len : ∀ vs H Q E, sp vs H Q E → vs.length = ps.length)
    (hbody : ∀ (cdv : Value) (f : Addr) (A : Around) (outer : List Env) (s : Shared) (H : Hp) (vs : List V) (Q : VK) (E : XK), Room k (A.deeper (envOfC qual (defScope st) s.heap.objs.size f cdv)) → sp vs H Q E →
      ∃ t, PSs (cxOf (L2.CX P w) P w K mg base N qual (defScope st) f cdv A outer s H E) (defBody st) t ∧ t { nx := fun _ H' => Q .non H', rt := Q } (start N vs) H) : Has P w K mg base (L2.CX P w) x (k + 1) ps sp := by
  obtain ⟨f, fd, F, B, G⟩ := A.ex
  exact ⟨f, fd, F.okX S len fun cdv A outer s H vs Q E hr h => hbody cdv f A outer s H vs Q E hr h, B, G, F.kp⟩
theorem hasMX_of {C : Addr} {x qual : Str} {st : Stmt} {N ps : List Str} {k : Nat} {sp : Sp} (A : AtM K C x qual st ps) (S : FnScope N ps (defScope st)) (len : ∀ vs H Q E, sp vs H Q E → vs.length = ps.length)
    (hbody : ∀ (cdv : Value) (f : Addr) (A : Around) (outer : List Env) (s : Shared) (H : Hp) (vs : List V) (Q : VK) (E : XK), Room k (A.deeper (envOfC qual (defScope st) s.heap.objs.size f cdv)) → sp vs H Q E →
      ∃ t, PSs (cxOf (L2.CX P w) P w K mg base N qual (defScope st) f cdv A outer s H E) (defBody st) t ∧ t { nx := fun _ H' => Q .non H', rt := Q } (start N vs) H) : HasM P w K mg base (L2.CX P w) C x (k + 1) ps sp := by
  obtain ⟨f, fd, F, B, G⟩ := A.ex
  exact ⟨f, fd, F.okX S len fun cdv A outer s H vs Q E hr h => hbody cdv f A outer s H vs Q E hr h, B, G⟩
end
section
variable {X : Cx} {CX : CXT} {k : Nat} {C : Addr} {x m : Str} {p pos apos : Pos} {o e : Expr} {es : List Expr} {t : TA} {ta : TE} {ps : List Str} {sp : Sp} {W : WX}
theorem fe_callX (h : Has X.prog X.w X.K X.mg X.base (L2.CX X.prog X.w) x k ps sp) (hr : Room k X.A) (hg : Gl X x) (tk : Takes X W) (ha : PA X (e :: es) t) (hd : (x == ("__debug__" : Str)) = false := by decide)
    (hs : starEach (e :: es) X.env = (false, eval e X.env) :: starEach es X.env := by rfl) (hplain : (backTo pos (starEach es X.env)).any (·.1) = false := by rfl) : PE X (.Call (.Name x p) (e :: es) [] pos) (tCallS sp (WE W) t) := by
  obtain ⟨f, fd, F, B, G, kp⟩ := h.ex
  exact pe_callS F hr hg G kp B (fun σ => passAt tk σ) ha hd hs hplain
theorem fe_callX0 (h : Has X.prog X.w X.K X.mg X.base (L2.CX X.prog X.w) x k ps sp) (hr : Room k X.A) (hg : Gl X x) (tk : Takes X W) (hd : (x == ("__debug__" : Str)) = false := by decide) : PE X (.Call (.Name x p) [] [] pos) (tCallS sp (WE W) tNil) := by
  obtain ⟨f, fd, F, B, G, kp⟩ := h.ex
  refine ⟨fun pins s σ H Q I h => ?_⟩
  refine wpAny_Call_Name_kw (ld_glob I hg G ?_ hd)
  exact PySem.W.callWith_K0 I.kIn kp (run_fnS (us := []) F hr B (passAt tk σ) I .nil h)
theorem isOb_some {a : Addr} {H : Hp} (h : isOb C m (.ref a) H) : ∃ dx fs, H a = some (.ins C dx fs) ∧ fs.lookup m = none := by
  unfold isOb at h
  dsimp only at h
  split at h
  · obtain ⟨rfl, l⟩ := h
    exact ⟨_, _, by assumption, l⟩
  · exact h.elim
def fMethS (C : Addr) (m : Str) (sp : Sp) (E : L2.St → XK) (ta : TE) (t : TA) : TE := fun σ H Q => ta σ H fun x H1 => isOb C m x H1 ∧ t σ H1 fun vs H2 => sp (x :: vs) H2 Q (E σ)
theorem fe_methX {pl : Sem Bool} (h : HasM X.prog X.w X.K X.mg X.base (L2.CX X.prog X.w) C m k ps sp) (c : Cls X.K C) (hr : Room k X.A) (tk : Takes X W) (he : PE X o ta) (ha : PA X (e :: es) t)
    (hst : starEach (e :: es) X.env = (false, eval e X.env) :: starEach es X.env := by rfl) (hpl : (backTo pos (starEach es X.env)).any (·.1) = false := by rfl)
    (ht : eval (.Call (.Attribute o m apos) (e :: es) [] pos) X.env = (do
      let ov ← eval o X.env
      standAt apos.atName
      let (f, first) ← holding [ov] (getMethod ov m pl)
      callWith pos f first (backTo pos (starEach (e :: es) X.env)) (backToKw pos (keywordEach [] X.env))) := by rfl) :
    PE X (.Call (.Attribute o m apos) (e :: es) [] pos) (fMethS C m sp (WE W) ta t) := by
  obtain ⟨f, fd, F, B, M⟩ := h.ex
  refine ⟨fun pins s σ H Q I h => ?_⟩
  refine PySem.W.methodCall_KW (pl := pl) (thn (he.run pins s σ H _ I h) fun u s1 ⟨x, H1, I1, rx, q1, q2⟩ => ?_) ht
  match x, q1, rx, q2 with
  | .ref a, q1, rx, q2 =>
    obtain ⟨dx, fs, ea, l⟩ := isOb_some q1
    · obtain rfl : u = Value.ref a := rx
      refine getmeth_ok I1 ea c M l ?_
      refine PySem.W.callWith_K (first := [.ref a]) (h₀ := X.base) I.ok.mod.kin M.kp (thn (ha.run pos pins s1 σ H1 _ I1 q2) fun us s2 ⟨vs, H2, I2, r, q3⟩ => ⟨I2.kIn, ?_⟩) hst hpl
      exact run_fnS (us := .ref a :: us) (vs := .ref a :: vs) F hr B (passAt tk σ) I2 (.cons rfl r) q3
theorem fe_methX0 {pl : Sem Bool} (h : HasM X.prog X.w X.K X.mg X.base (L2.CX X.prog X.w) C m k ps sp) (c : Cls X.K C) (hr : Room k X.A) (tk : Takes X W) (he : PE X o ta)
    (ht : eval (.Call (.Attribute o m apos) [] [] pos) X.env = (do
      let ov ← eval o X.env
      standAt apos.atName
      let (f, first) ← holding [ov] (getMethod ov m pl)
      callWith pos f first (backTo pos (starEach [] X.env)) (backToKw pos (keywordEach [] X.env))) := by rfl) :
    PE X (.Call (.Attribute o m apos) [] [] pos) (fMethS C m sp (WE W) ta tNil) := by
  obtain ⟨f, fd, F, B, M⟩ := h.ex
  refine ⟨fun pins s σ H Q I h => ?_⟩
  refine PySem.W.methodCall_KW (pl := pl) (thn (he.run pins s σ H _ I h) fun u s1 ⟨x, H1, I1, rx, q1, q2⟩ => ?_) ht
  match x, q1, rx, q2 with
  | .ref a, q1, rx, q2 =>
    obtain ⟨dx, fs, ea, l⟩ := isOb_some q1
    · obtain rfl : u = Value.ref a := rx
      refine getmeth_ok I1 ea c M l ?_
      exact PySem.W.callWith_K0 (first := [.ref a]) I1.kIn M.kp (run_fnS (us := [.ref a]) (vs := [.ref a]) F hr B (passAt tk σ) I1 (.cons rfl .nil) q2)
end
/-! ### exception classes -/
structure ExcFact (K : PySem.W.Frag) (C : Addr) : Prop where
  cls : ∃ nm q N bs bm sn sub ab col dd k0 k1 k2 k3 k5, K.lookup C = some (excClassObj nm q C N bs bm true sn sub ab col dd k0 k1 k2 k3 k5 "ValueError.__new__") ∧ PySem.HandSPX.refsVE bm = true
  sa : PySem.W.findIn K (.ref C) "__setattr__" = some (some (.builtin "object.__setattr__"))
  ga : PySem.W.findIn K (.ref C) "__getattribute__" = some (some (.builtin "BaseException.__getattribute__"))
  gg : PySem.W.findIn K (.ref C) "__getattr__" = some none
  exC : PySem.W.subIn K (.ref C) (.type "BaseException") = some true
  tyC : PySem.W.typeIn K (.ref C) = some (.type "type")
  kC : PySem.W.keepIn K (.ref C) = true
  hdC : PySem.W.hasDictIn K C = true
  ci : PySem.W.findIn K (.ref C) "__class__" = some (some (.builtin "object.__class__"))
  mr : PySem.W.mroIn K C (.type "object") = some true
theorem ExcFact.of {K : PySem.W.Frag} {C : Addr} {nm q N bs bm sn sub ab col dd k0 k1 k2 k3 k5} (l : K.lookup C = some (excClassObj nm q C N bs bm true sn sub ab col dd k0 k1 k2 k3 k5 "ValueError.__new__")) (r : PySem.HandSPX.refsVE bm = true)
    (sa : PySem.W.findIn K (.ref C) "__setattr__" = some (some (.builtin "object.__setattr__"))) (ga : PySem.W.findIn K (.ref C) "__getattribute__" = some (some (.builtin "BaseException.__getattribute__"))) (gg : PySem.W.findIn K (.ref C) "__getattr__" = some none)
    (exC : PySem.W.subIn K (.ref C) (.type "BaseException") = some true) (tyC : PySem.W.typeIn K (.ref C) = some (.type "type")) (kC : PySem.W.keepIn K (.ref C) = true) (hdC : PySem.W.hasDictIn K C = true)
    (ci : PySem.W.findIn K (.ref C) "__class__" = some (some (.builtin "object.__class__"))) (mr : PySem.W.mroIn K C (.type "object") = some true) : ExcFact K C :=
  ⟨⟨nm, q, N, bs, bm, sn, sub, ab, col, dd, k0, k1, k2, k3, k5, l, r⟩, sa, ga, gg, exC, tyC, kC, hdC, ci, mr⟩
theorem ExcFact.oex {K : PySem.W.Frag} {C : Addr} (F : ExcFact K C) : OexC K C := ⟨F.cls, F.sa, F.exC, F.tyC, F.kC⟩
theorem ExcFact.xf {K : PySem.W.Frag} {C : Addr} (F : ExcFact K C) : XfC K C := ⟨F.ga, F.gg, F.exC, F.hdC⟩
/-- __init__ of an exception class as it stands -/
structure AtE (K : PySem.W.Frag) (C : Addr) (qual : Str) (st : Stmt) (ps : List Str) : Prop where
  ex : ∃ (f : Addr) (fd : FuncData), Fun K "__init__" qual st f fd ∧ Binds K fd ps [] ∧ PySem.W.findIn K (.ref C) "__init__" = some (some (.ref f)) ∧ PySem.W.typeIn K (.ref f) = some (.type "function")
structure EFact (K : PySem.W.Frag) (C : Addr) (qual : Str) (st : Stmt) : Prop where
  ex : ∃ (f : Addr) (oc : Value) (od an : Option Addr) (sl : Array (Option Value)) (kV dc pm cd ct : Value),
    PySem.W.findIn K (.ref C) "__init__" = some (some (.ref f)) ∧ K.lookup f = some ⟨oc, od, .func (PySem.W.fnOf "__init__" qual (defArgs st) (defBody st) (defScope st) .none kV dc pm an cd ct), sl⟩ ∧
    PySem.W.codeIn K cd qual = true ∧ PySem.W.keepIn K (.ref f) = true ∧ PySem.W.typeIn K (.ref f) = some (.type "function")
theorem EFact.of {K : PySem.W.Frag} {C : Addr} {qual : Str} {st : Stmt} {f : Addr} {oc : Value} {od an : Option Addr} {sl : Array (Option Value)} {kV dc pm cd ct : Value}
    (a : PySem.W.findIn K (.ref C) "__init__" = some (some (.ref f))) (l : K.lookup f = some ⟨oc, od, .func (PySem.W.fnOf "__init__" qual (defArgs st) (defBody st) (defScope st) .none kV dc pm an cd ct), sl⟩)
    (c : PySem.W.codeIn K cd qual = true) (k : PySem.W.keepIn K (.ref f) = true) (i : PySem.W.typeIn K (.ref f) = some (.type "function")) : EFact K C qual st := ⟨f, oc, od, an, sl, kV, dc, pm, cd, ct, a, l, c, k, i⟩
theorem AtE.of {K : PySem.W.Frag} {C : Addr} {qual : Str} {st : Stmt} {ps : List Str} (F : EFact K C qual st)
    (hb : ∀ (kV doc pm : Value) (an : Option Addr) (cdv ct : Value) (us : List Value), us.length = ps.length → bindArgs (PySem.W.fnOf "__init__" qual (defArgs st) (defBody st) (defScope st) .none kV doc pm an cdv ct) ⟨us, []⟩ = pure (ps.zip us)) : AtE K C qual st ps := by
  obtain ⟨f, oc, od, an, sl, kV, dc, pm, cd, ct, a, l, c, k, i⟩ := F.ex
  have F1 := fun_mk (st := st) l c k
  exact ⟨_, _, F1, F1.binds hb, a, i⟩
/-- what __init__ keeps: two fields -/
def spInitE (C : Addr) (n : Nat) (flds : List V → List (Str × V)) : Sp := fun ws H0 Q _ => ∃ a vs H1, ws = .ref a :: vs ∧ vs.length = n ∧ H1 a = none ∧ H0 = upd H1 a (exo a C none) ∧
  ∀ d H2, H1 d = none → d ≠ a → (∀ b o, H1 b = some o → H2 b = some o) → H2 a = some (exo a C (some d)) → H2 d = some (exd d (flds vs)) → Q .non H2
/-- an exception class whose __init__ keeps its fields -/
structure HasE (P : Program) (w : World) (K : PySem.W.Frag) (mg : Str → Option Value) (base : Heap) (C : Addr) (x : Str) (n : Nat) (flds : List V → List (Str × V)) : Prop where
  ex : ∃ (f : Addr) (fd : FuncData) (ps : List Str), FnOk P w K mg base CX0 1 f fd ps (spInitE C n flds) ∧ Binds K fd ps [] ∧ PySem.W.findIn K (.ref C) "__init__" = some (some (.ref f)) ∧ PySem.W.typeIn K (.ref f) = some (.type "function") ∧ mg x = some (.ref C) ∧ OexC K C
def two (f1 f2 : Str) : List V → List (Str × V)
  | [a, b] => [(f2, b), (f1, a)]
  | _ => []
theorem hasE2 {P : Program} {w : World} {K : PySem.W.Frag} {mg : Str → Option Value} {base : Heap} {C : Addr} {x qual f1 f2 : Str} {st : Stmt} {q1 q2 q3 q4 r1 r2 r3 r4 : Pos} (A : AtE K C qual st ["self", f1, f2]) (S : FnScope ["self", f1, f2] ["self", f1, f2] (defScope st))
    (hb : defBody st = [.Assign [.Attribute (.Name "self" q1) f1 q2] (.Name f1 q3) q4, .Assign [.Attribute (.Name "self" r1) f2 r2] (.Name f2 r3) r4])
    (F : ExcFact K C) (n1 : PySem.W.findIn K (.ref C) f1 = some none) (n2 : PySem.W.findIn K (.ref C) f2 = some none) (g : mg x = some (.ref C)) (d1 : (f1 == ("__debug__" : Str)) = false) (d2 : (f2 == ("__debug__" : Str)) = false)
    (c1 : (f1 == ("__classdict__" : Str)) = false) (c2 : (f2 == ("__classdict__" : Str)) = false) : HasE P w K mg base C x 2 (two f1 f2) := by
  obtain ⟨f, fd, Fn, B, I, Ty⟩ := A.ex
  refine ⟨f, fd, _, ?_, B, I, Ty, g, F.oex⟩
  refine Fn.ok S (fun ws H Q E h => ?_) (fun cdv A outer s H ws Q E hr h => ?_)
  · obtain ⟨a, vs, H1, rfl, hl, _⟩ := h
    show vs.length + 1 = 3
    rw [hl]
  · obtain ⟨a, vs, H1, rfl, hl, na, rfl, k⟩ := h
    match vs, hl, k with
    | [v1, v2], hl, k =>
      have v0 : Vis (defScope st) "self" := (S.par "self" (List.Mem.head _)).elim (fun z => .inl z) (fun z => .inr (.inl z))
      have vis1 : Vis (defScope st) f1 := (S.par f1 (List.Mem.tail _ (List.Mem.head _))).elim (fun z => .inl z) (fun z => .inr (.inl z))
      have vis2 : Vis (defScope st) f2 := (S.par f2 (List.Mem.tail _ (List.Mem.tail _ (List.Mem.head _)))).elim (fun z => .inl z) (fun z => .inr (.inl z))
      rw [hb]
      refine ⟨_, pss_cons (ps_ost (fe_var 0 rfl v0) (fe_var 1 rfl vis1 d1 c1)) (pss_one (ps_ost (fe_var 0 rfl v0) (fe_var 2 rfl vis2 d2 c2))), ?_⟩
      refine ⟨a, C, rfl, F.oex, n1, .inl ⟨upd_same, fun dx ndx nea => ?_⟩⟩
      have hdx : H1 dx = none := by rw [upd_ne nea] at ndx; exact ndx
      refine ⟨a, C, rfl, F.oex, n2, .inr ⟨dx, [(f1, v1)], upd_same, (upd_ne nea).trans upd_same, (show 1 ≤ 900 by decide), ?_⟩⟩
      refine k dx _ hdx nea (fun b o e => ?_) ?_ upd_same
      · rw [upd_ne (ne_of_none e hdx), upd_ne (ne_of_none e na), upd_ne (ne_of_none e hdx), upd_ne (ne_of_none e na)]
        exact e
      · rw [upd_ne (Ne.symm nea)]
        exact upd_same
/-- C(e, ..) -/
def fMkE (C : Addr) (n : Nat) (flds : List V → List (Str × V)) (ta : TA) : L2.St → Hp → XK → Prop := fun σ H Q => ta σ H fun vs H1 => vs.length = n ∧ ∀ d H2, H1 d = none → Same H1 H2 → H2 d = some (.xd (flds vs)) → Q (.ref C) (some d) H2
section
variable {X : Cx} {C : Addr} {x : Str} {n : Nat} {flds : List V → List (Str × V)} {p pos : Pos} {e : Expr} {es : List Expr} {ta : TA}
def closAX (t : TA) : TA := closA t
theorem fmk_e (h : HasE X.prog X.w X.K X.mg X.base C x n flds) (hn : n ≤ 1000) (hr : Room 2 X.A) (hg : Gl X x) (ha : PA X (e :: es) ta) (hdb : (x == ("__debug__" : Str)) = false := by decide)
    (he : starEach (e :: es) X.env = (false, eval e X.env) :: starEach es X.env := by rfl) (hpl : (backTo pos (starEach es X.env)).any (·.1) = false := by rfl) : PMk X (.Call (.Name x p) (e :: es) [] pos) (fMkE C n flds ta) := by
  obtain ⟨f, fd, ps, F, B, I, Ty, g, O⟩ := h.ex
  intro pins s σ H Q Iv q
  refine pmk_oex O I Ty F hr B .nil (fun _ _ _ _ _ _ _ h => h.elim) hg g (pa_clos ha) hdb he hpl pins s σ H Q Iv ⟨_, q, fun vs H1 q => ?_⟩
  obtain ⟨hl, q⟩ := q
  refine ⟨by omega, fun a na => ⟨a, vs, H1, by rw [List.append_nil], hl, na, rfl, fun d H2 nd ne keep ea ed => ⟨rfl, d, flds vs, ea, ed, nd, q d _ nd (fun b o eb => ?_) upd_same⟩⟩⟩
  rw [upd_ne (ne_of_none eb nd), del_ne (ne_of_none eb na)]
  exact keep b o eb
/-- raise C(e, ..) -/
def fRaise (C : Addr) (n : Nat) (flds : List V → List (Str × V)) (W : WX) (ta : TA) : TS := fun _ σ H => ta σ H fun vs H1 => vs.length = n ∧ ∀ d H2, H1 d = none → Same H1 H2 → H2 d = some (.xd (flds vs)) → W (.ref C) (some d) σ H2
theorem fs_raise {W : WX} {pos2 : Pos} (hc : X.calm = true) (tk : Takes X W) (h : HasE X.prog X.w X.K X.mg X.base C x n flds) (hn : n ≤ 1000) (hr : Room 2 X.A) (hg : Gl X x) (ha : PA X (e :: es) ta) (hdb : (x == ("__debug__" : Str)) = false := by decide)
    (he : starEach (e :: es) X.env = (false, eval e X.env) :: starEach es X.env := by rfl) (hpl : (backTo pos (starEach es X.env)).any (·.1) = false := by rfl) : PS X (.Raise (some (.Call (.Name x p) (e :: es) [] pos)) none pos2) (fRaise C n flds W ta) :=
  ps_raise hc tk (fmk_e h hn hr hg ha hdb he hpl)
end
/-- the way out of a def: an exception of class C with two fields -/
def Out (C : Addr) (H : Hp) (fs : List (Str × V)) (E : XK) : Prop := ∀ d H2, H d = none → Same H H2 → H2 d = some (.xd fs) → E (.ref C) (some d) H2
theorem Out.same {C : Addr} {H H1 : Hp} {fs : List (Str × V)} {E : XK} (h : Out C H fs E) (s : Same H H1) : Out C H1 fs E := fun d H2 nd s2 e => h d H2 (by
  cases q : H d with
  | none => rfl
  | some o => rw [s _ _ q] at nd; cases nd) (s.trans s2) e
/-! ### the suite -/
/-- e.f, e the caught one -/
def fXf (a : Addr) (cls : Value) (d : Option Addr) (cs : List Addr) (f : Str) (te : TE) : TE := fun σ H Q => te σ H fun x H1 => x = .ref a ∧ match cls, d with
  | .ref C, some dd => C ∈ cs ∧ match H1 dd with
    | some (.xd fs) => match fs.lookup f with
      | some v => Q v H1
      | none => False
    | _ => False
  | _, _ => False
def XPlain (K : PySem.W.Frag) (cs : List Addr) (f : Str) : Prop := ∀ C ∈ cs, XfC K C ∧ PySem.W.findIn K (.ref C) f = some none
theorem fe_xf {X : Cx} {a : Addr} {cs : List Addr} {oe : Obj} {cls : Value} {d : Option Addr} {pn : List (Addr × Obj)} {e : Expr} {te : TE} {pos : Pos} {n : Str} (T : XPlain X.K cs n)
    (hz : Zc cls d oe) (hf : ∃ vs, oe.data = .fields vs) (he : PE (X.suite a ((a, oe) :: pn)) e te) (hb : attributeBase e n X.env (eval e X.env) = eval e X.env) :
    PE (X.suite a ((a, oe) :: pn)) (.Attribute e n pos) (fXf a cls d cs n te) := by
  refine ⟨fun pins s σ H Q I h => ?_⟩
  refine attr_of hb (thn (he.run pins s σ H _ I h) fun u s1 hh => ?_)
  obtain ⟨x, H1, I1, rx, ex, q⟩ := hh
  subst ex
  obtain rfl : u = Value.ref a := rx
  split at q
  · rename_i C dd
    obtain ⟨m, q⟩ := q
    split at q
    · rename_i fs ea
      split at q
      · rename_i v l
        obtain ⟨ha, _⟩ := I1.pin (a, oe) (List.mem_append_left _ List.mem_cons_self)
        obtain ⟨vs, hd⟩ := hf
        have hx : ObjOk X.prog X.w H1 s1.heap dd (.xd fs) := I1.hok dd _ ea
        obtain ⟨mA, hns, hr⟩ := hx
        obtain ⟨od, ho, hl⟩ := lookIn_ns hns
        obtain ⟨u, hu, ru⟩ := RelO.some_of (v := v) (o := mA n) (by rw [← l]; exact hr n)
        have J : PySem.W.InstAt s1.heap a oe C (some od) := ⟨ha, hz.1, by unfold PySem.W.notCls; rw [hd] <;> rfl, by rw [hz.2]; exact ho⟩
        exact HandSPX.exc_get I1.kIn J (T C m).1.ga (T C m).1.gg (T C m).1.exC (PySem.W.findObj_own (T C m).1.hdC (T C m).2 rfl (by rw [hl, hu])) (handed_of ru) ⟨v, H1, I1.tok _, ru, q⟩
      · exact q.elim
    · exact q.elim
  · exact q.elim
/-- isinstance(e, C), e the caught one -/
structure XKit (K : PySem.W.Frag) (cs ds : List Addr) : Prop where
  f : ∀ C ∈ cs, ExcFact K C
  ob : ObjFact K
  k : ∀ C ∈ cs, ∀ D ∈ ds, ∃ b, PySem.W.kitOne K (.ref C) (.ref D) = some b
def fIsE (K : PySem.W.Frag) (a : Addr) (cls : Value) (d : Option Addr) (cs : List Addr) : List V → Hp → VK → Prop := fun xs H Q => match xs with
  | [x, .ref D] => x = .ref a ∧ (match cls with | .ref C => C ∈ cs | _ => False) ∧ (match d with | none => True | some dd => match H dd with | some (.xd _) => True | _ => False) ∧ ∃ b, PySem.W.kitOne K cls (.ref D) = some b ∧ Q (.bl b) H
  | _ => False
theorem call_fIsE {X : Cx} {a : Addr} {cls : Value} {d : Option Addr} {cs : List Addr} {oe : Obj} {pn : List (Addr × Obj)} (F : ∀ C ∈ cs, ExcFact X.K C) (ob : ObjFact X.K) (hz : Zc cls d oe) (hf : ∃ vs, oe.data = .fields vs) :
    CallR (X.suite a ((a, oe) :: pn)) (.builtin "isinstance") (fIsE X.K a cls d cs) := by
  intro pins s σ H xs us Q I r h
  match xs, r, h with
  | [x, .ref D], r, h =>
    obtain ⟨rfl, hc, hd, b, e, q⟩ := h
    match cls, hc, hz, e with
    | .ref C, hc, hz, e =>
      cases r with
      | cons rx rr =>
        cases rr with
        | cons rt rr =>
          cases rr
          cases rx
          cases rt
          obtain ⟨hget, _⟩ := I.pin (a, oe) (List.mem_append.mpr (.inl List.mem_cons_self))
          obtain ⟨vs, hv⟩ := hf
          have FC := F C hc
          have hcl : (PySem.W.clsIn X.K C).isSome = true := by
            obtain ⟨cd, hcd, _⟩ := PySem.W.any_some FC.hdC
            rw [hcd]; rfl
          have hJ : ∃ od, PySem.W.InstAt s.heap a oe C od := by
            cases d with
            | none =>
              refine ⟨none, hget, hz.1, ?_, ?_⟩
              · unfold PySem.W.notCls; rw [hv] <;> rfl
              · rw [hz.2]; trivial
            | some dd =>
              dsimp only at hd
              split at hd
              · rename_i fs ea
                have hx : ObjOk X.prog X.w H s.heap dd (.xd fs) := I.hok dd _ ea
                obtain ⟨mA, hns, hr⟩ := hx
                obtain ⟨od, ho, hl⟩ := lookIn_ns hns
                exact ⟨some od, hget, hz.1, by unfold PySem.W.notCls; rw [hv] <;> rfl, by rw [hz.2]; exact ho⟩
              · exact hd.elim
          obtain ⟨od, J⟩ := hJ
          exact PySem.W.kia_one (PySem.W.kitx_exc hcl FC.ga FC.gg FC.exC FC.ci ob.gd ob.tk FC.mr) I.kIn J e (fun z => nomatch z) fun tk => ⟨.bl b, H, I.kept (t' := tk) fun _ _ z => z, rfl, q⟩
/-! ### parts that are never reached -/
section
variable {X : Cx}
def fDead : TE := fun _ _ _ => False
def sDead : TS := fun _ _ _ => False
theorem pe_dead {e : Expr} : PE X e fDead := ⟨fun _ _ _ _ _ _ h => h.elim⟩
theorem ps_dead {st : Stmt} : PS X st sDead := ⟨fun _ _ _ _ _ _ h => h.elim⟩
/-! ### truth by value -/
def fTru (K : PySem.W.Frag) (ta : TE) : TT := fun σ H Q => ta σ H fun x H1 => match x with
  | .non => Q false H1
  | .bl b => Q b H1
  | .int i => Q (!decide (i = 0)) H1
  | .str z => z.length ≤ sizeLine ∧ Q (!decide (z.length = 0)) H1
  | .ref p => ∃ xs, Rl K H1 p xs ∧ Q (!xs.isEmpty) H1
  | _ => False
theorem pt_fTru {a : Expr} {ta : TE} (ha : PE X a ta) (he : ∀ whole, isTrue a X.env whole = (do let v ← whole; standAt a.pos; holding [v] (truthy v))) : PT X a (fTru X.K ta) := by
  refine pt_wk (pt_truth (pe_clos ha) he) fun σ H Q q => ⟨_, q, fun x H1 q => ?_⟩
  split at q
  · exact ⟨_, rfl, q⟩
  · exact ⟨_, rfl, q⟩
  · refine ⟨_, rfl, ?_⟩
    rename_i i
    have e : (i != 0) = !decide (i = 0) := by by_cases h : i = 0 <;> simp [h]
    rw [e]; exact q
  · refine ⟨_, ⟨q.1, rfl⟩, ?_⟩
    rename_i z
    have e : ((z.length : Int) != 0) = !decide (z.length = 0) := by by_cases h : z.length = 0 <;> simp [h]
    rw [e]; exact q.2
  · obtain ⟨xs, r, q⟩ := q
    rcases r with r | r
    · exact ⟨_, .inl ⟨xs, r, rfl⟩, q⟩
    · exact ⟨_, .inr (.inl ⟨xs, r, rfl⟩), q⟩
  · exact q.elim
/-! ### f-strings -/
def fFmt (te : TE) : TE := fun σ H Q => te σ H fun x H1 => match x with
  | .str y => y.length ≤ sizeLine ∧ Q (.str y) H1
  | .int i => i.natAbs.log2 < 1920 ∧ Q (.str (toString i)) H1
  | _ => False
theorem fe_fmt {e : Expr} {te : TE} {pos : Pos} (he : PE X e te) : PE X (.FormattedValue e (-1) none pos) (fFmt te) := pe_wk (pe_fmt (pe_clos he)) fun σ H Q q => ⟨_, q, fun x H1 q => by
  split at q
  · exact .inl ⟨_, rfl, q⟩
  · exact .inr ⟨_, rfl, q⟩
  · exact q.elim⟩
inductive PF (X : Cx) : List Expr → List TE → Prop where
  | nil : PF X [] []
  | cons {e : Expr} {t : TE} {es : List Expr} {ts : List TE} (h : PE X e t) (r : PF X es ts) : PF X (e :: es) (t :: ts)
theorem PF_nil : PF X [] [] := .nil
theorem pf_cons {e : Expr} {t : TE} {es : List Expr} {ts : List TE} (h : PE X e t) (r : PF X es ts) : PF X (e :: es) (t :: ts) := .cons h r
def fJs : List TE → Str → L2.St → Hp → (Str → Hp → Prop) → Prop
  | [], acc, _, H, Q => Q acc H
  | t :: ts, acc, σ, H, Q => t σ H fun x H1 => match x with
    | .str y => (acc ++ y).length ≤ sizeLine ∧ fJs ts (acc ++ y) σ H1 Q
    | _ => False
theorem pf_pj {es : List Expr} {ts : List TE} (h : PF X es ts) : PJ X es (ts.map clos) := by
  induction h with
  | nil => exact .nil
  | cons h r ih => exact .cons (pe_clos h) ih
theorem fJs_to : ∀ {ts : List TE} {acc : Str} {σ : L2.St} {H : Hp} {Q : Str → Hp → Prop}, fJs ts acc σ H Q → tJs (ts.map clos) acc σ H Q
  | [], _, _, _, _, h => h
  | t :: ts, acc, σ, H, Q, h => ⟨_, h, fun x H1 q => by
    split at q
    · exact ⟨_, rfl, q.1, fJs_to q.2⟩
    · exact q.elim⟩
def fJoined (ts : List TE) : TE := fun σ H Q => fJs ts Str.empty σ H fun out H1 => Q (.str out) H1
theorem fe_joined {v1 v2 : Expr} {rest : List Expr} {ts : List TE} {pos : Pos} (h : PF X (v1 :: v2 :: rest) ts) : PE X (.JoinedStr (v1 :: v2 :: rest) pos) (fJoined ts) := by
  have h2 := pf_pj h
  exact pe_wk (pe_joined h2) fun σ H Q q => fJs_to q
/-- // by any divisor but 0 -/
def fDivZ : R2 := fun x y H Q => match x, y with
  | .int i, .int j => (j ≠ 0 ∧ j.natAbs.log2 < 9000) ∧ Q (.int (Int.fdiv i j)) H
  | _, _ => False
theorem op_fDivZ : OpR X (binaryOp .FloorDiv) fDivZ := by
  intro pins s σ H x y v u Q I rx ry h
  match x, y, rx, ry, h with
  | .int i, .int j, ⟨t, e⟩, ⟨t', e'⟩, ⟨hc, q⟩ =>
    subst e e'
    exact floordiv_int hc.1 ⟨.int _, H, I.tok _, ⟨_, rfl⟩, q⟩ (.inl (PyProof.noPylong_of_log2 hc.2))
end
theorem WE_wOf {E : XK} {σ : L2.St} : WE (wOf E) σ = E := rfl
/-! ### dicts of the module, text keys -/
def EntOk (K : PySem.W.Frag) (d : Addr) : Str × Option V → Prop
  | (z, none) => PySem.W.nsIn K d z = some none
  | (z, some v) => ∃ u, PySem.W.nsIn K d z = some (some u) ∧ RelV v u
theorem ent_none {K : PySem.W.Frag} {d : Addr} {z : Str} (h : PySem.W.nsIn K d z = some none) : EntOk K d (z, none) := h
theorem ent_str {K : PySem.W.Frag} {d : Addr} {z x : Str} {t : Tok} (h : PySem.W.nsIn K d z = some (some (.str x t))) : EntOk K d (z, some (.str x)) := ⟨_, h, _, rfl⟩
theorem ent_int {K : PySem.W.Frag} {d : Addr} {z : Str} {x : Int} {t : Tok} (h : PySem.W.nsIn K d z = some (some (.int x t))) : EntOk K d (z, some (.int x)) := ⟨_, h, _, rfl⟩
structure DAt (K : PySem.W.Frag) (w : World) (d : Addr) (ks : List (Str × Option V)) : Prop where
  ex : ∃ es n, KDict K w d es n
  en : ∀ p ∈ ks, EntOk K d p
def GDict (K : PySem.W.Frag) (w : World) (mg : Str → Option Value) (x : Str) (ks : List (Str × Option V)) : Prop := ∃ d, mg x = some (.ref d) ∧ DAt K w d ks
structure GDictF (K : PySem.W.Frag) (w : World) (x : Str) (ks : List (Str × Option V)) : Prop where
  ex : ∃ d, PySem.W.nsIn K mainGlobals x = some (some (.ref d)) ∧ DAt K w d ks
theorem GDictF.of {K : PySem.W.Frag} {w : World} {x : Str} {ks : List (Str × Option V)} {d : Addr} {es : Array DictEntry} {n : Nat} (h1 : PySem.W.nsIn K mainGlobals x = some (some (.ref d))) (h2 : K.lookup d = some ⟨.type "dict", none, .dict es n, #[]⟩)
    (h3 : PySem.W.KeysLit w.params es.toList) (h4 : (d == sysModules) = false) (h5 : ∀ p ∈ ks, EntOk K d p) : GDictF K w x ks := ⟨d, h1, ⟨es, n, h2, h3, h4⟩, h5⟩
theorem GDictF.get {K : PySem.W.Frag} {w : World} {mg : Str → Option Value} {x : Str} {ks : List (Str × Option V)} {h : Heap} (X : K.In h) (G : h.Ns mainGlobals mg) (F : GDictF K w x ks) : GDict K w mg x ks := by
  obtain ⟨d, h1, h2⟩ := F.ex
  exact ⟨d, PySem.W.mg_of X G h1, h2⟩
theorem ent_at {K : PySem.W.Frag} {w : World} {d : Addr} {z : Str} {o : Option V} : ∀ {ks : List (Str × Option V)}, (∀ p ∈ ks, EntOk K d p) → ks.lookup z = some o → EntOk K d (z, o)
  | [], _, h => by cases h
  | (y, p) :: ks, hk, h => by
    rw [List.lookup_cons] at h
    split at h
    · rename_i e
      cases h
      have e' := eq_of_beq e
      subst e'
      exact hk _ (List.mem_cons_self ..)
    · exact ent_at (w := w) (fun q hq => hk q (List.mem_cons_of_mem _ hq)) h
def fGd_ (K : PySem.W.Frag) (w : World) (ks : List (Str × Option V)) : TE := fun _ H Q => ∀ d, DAt K w d ks → Q (.ref d) H
section
variable {X : Cx}
theorem fe_gdict {x : Str} {pos : Pos} {ks : List (Str × Option V)} (hg : Gl X x) (h : GDict X.K X.w X.mg x ks) (hd : (x == ("__debug__" : Str)) = false := by decide) : PE X (.Name x pos) (fGd_ X.K X.w ks) := by
  obtain ⟨d, h, hs⟩ := h
  exact pe_wk (pe_glob hg h (v := .ref d) rfl hd) fun σ H Q q => q d hs
/-- z in D, D a dict of the module -/
def fInD (K : PySem.W.Frag) (w : World) (neg : Bool) : R2 := fun x y H Q => match x, y with
  | .str z, .ref d => ∃ ks o, DAt K w d ks ∧ ks.lookup z = some o ∧ Q (.bl (if neg = true then !o.isSome else o.isSome)) H
  | _, _ => False
theorem op_fInD : OpR X (compareOp .In) (fInD X.K X.w false) := by
  intro pins s σ H x y v u Q I rx ry h
  match x, y, rx, ry, h with
  | .str z, .ref d, rx, ry, ⟨ks, o, D, e, q⟩ =>
    obtain ⟨es, n, kd⟩ := D.ex
    have en := ent_at (w := X.w) D.en e
    cases o with
    | none => exact op_in_kd kd pins s σ H _ _ v u Q I rx ry ⟨z, none, rfl, rfl, en, q⟩
    | some v =>
      obtain ⟨u0, e0, _⟩ := en
      exact op_in_kd kd pins s σ H _ _ _ u Q I rx ry ⟨z, some u0, rfl, rfl, e0, q⟩
theorem op_fNotInD : OpR X (compareOp .NotIn) (fInD X.K X.w true) := by
  intro pins s σ H x y v u Q I rx ry h
  match x, y, rx, ry, h with
  | .str z, .ref d, rx, ry, ⟨ks, o, D, e, q⟩ =>
    obtain ⟨es, n, kd⟩ := D.ex
    have en := ent_at (w := X.w) D.en e
    cases o with
    | none => exact op_notIn_kd kd pins s σ H _ _ v u Q I rx ry ⟨z, none, rfl, rfl, en, q⟩
    | some v =>
      obtain ⟨u0, e0, _⟩ := en
      exact op_notIn_kd kd pins s σ H _ _ _ u Q I rx ry ⟨z, some u0, rfl, rfl, e0, q⟩
/-- D[z], D a dict of the module -/
def fIxD (K : PySem.W.Frag) (w : World) : R2 := fun x y H Q => match x, y with
  | .ref d, .str z => ∃ ks v, DAt K w d ks ∧ ks.lookup z = some (some v) ∧ Q v H
  | _, _ => False
theorem ix_fxD : IxR X (fIxD X.K X.w) := by
  intro e1 e2 pins s σ H x y v u Q I rx ry h hs
  match x, y, rx, ry, h with
  | .ref d, .str z, rx, ry, ⟨ks, r, D, e, q⟩ =>
    obtain ⟨es, n, kd⟩ := D.ex
    obtain ⟨u0, e0, r0⟩ := ent_at (w := X.w) D.en e
    exact ix_kdict e1 e2 pins s σ H (.ref d) (.str z) v u Q I rx ry ⟨d, z, r, rfl, rfl, ⟨es, n, u0, kd.at_, kd.lit, e0, r0⟩, q⟩ hs
end
/-! ### scalars as data -/
def dV : V → PyData
  | .non => .none
  | .bl b => .bool b
  | .int i => .int i
  | .str z => .str z
  | _ => .none
def scV : V → Bool
  | .non => true
  | .bl _ => true
  | .int _ => true
  | .str _ => true
  | _ => false
theorem dpAll_sc {K : PySem.W.Frag} {H : Hp} : ∀ {xs : List V}, xs.all scV = true → DpAll K H xs (xs.map dV)
  | [], _ => .nil
  | x :: xs, h => by
    rw [List.all_cons, Bool.and_eq_true] at h
    refine .cons ?_ (dpAll_sc h.2)
    obtain ⟨h1, _⟩ := h
    cases x <;> first
      | exact .non
      | exact .bl _
      | exact .int _
      | exact .str _
      | (exact absurd h1 (by decide))
      | (cases h1)
theorem all_okd {xs : List V} (h : xs.all scV = true) : PyData.plainAll (xs.map dV) = true ∧ PyData.depthAll (xs.map dV) = 0 := by
  induction xs with
  | nil => exact ⟨rfl, rfl⟩
  | cons x xs ih =>
    rw [List.all_cons, Bool.and_eq_true] at h
    obtain ⟨i1, i2⟩ := ih h.2
    obtain ⟨h1, _⟩ := h
    have : (dV x).plain = true ∧ (dV x).depth = 0 := by cases x <;> first | exact ⟨rfl, rfl⟩ | cases h1
    rw [List.map_cons, PyData.plainAll, PyData.depthAll, this.1, this.2, i1, i2]
    exact ⟨rfl, rfl⟩
theorem tup_okd {xs : List V} (h : xs.all scV = true) : okd (.tuple (xs.map dV)) = true := by
  obtain ⟨h1, h2⟩ := all_okd h
  unfold okd
  rw [Bool.and_eq_true]
  exact ⟨by rw [PyData.plain]; exact h1, decide_eq_true (by rw [PyData.depth, h2]; decide)⟩
theorem lst_okd {xs : List V} (h : xs.all scV = true) : okd (.list (xs.map dV)) = true := by
  obtain ⟨h1, h2⟩ := all_okd h
  unfold okd
  rw [Bool.and_eq_true]
  exact ⟨by rw [PyData.plain]; exact h1, decide_eq_true (by rw [PyData.depth, h2]; decide)⟩
theorem tup_eqv {xs : List V} (h : xs.all scV = true) : PyData.eqv (.tuple (xs.map dV)) (.tuple (xs.map dV)) = true := SeqAt.eqv_refl_plain _ (by rw [PyData.plain]; exact (all_okd h).1)
theorem lst_eqv {xs : List V} (h : xs.all scV = true) : PyData.eqv (.list (xs.map dV)) (.list (xs.map dV)) = true := SeqAt.eqv_refl_plain _ (by rw [PyData.plain]; exact (all_okd h).1)
/-- two tuples of the same scalars are equal -/
theorem tup_same {K : PySem.W.Frag} {H : Hp} {p q : Addr} {xs : List V} (hp : SqT K H p xs) (hq : SqT K H q xs) (h : xs.all scV = true) {R : Bool → Prop} (k : R true) :
    ∃ d, Dp K H (.ref p) d ∧ ∃ e, Dp K H (.ref q) e ∧ okd d = true ∧ okd e = true ∧ R (PyData.eqv d e) :=
  ⟨_, .tup hp (dpAll_sc h), _, .tup hq (dpAll_sc h), tup_okd h, tup_okd h, by rw [tup_eqv h]; exact k⟩
theorem lst_same {K : PySem.W.Frag} {H : Hp} {p q : Addr} {xs : List V} (hp : SqL K H p xs) (hq : SqL K H q xs) (h : xs.all scV = true) {R : Bool → Prop} (k : R true) :
    ∃ d, Dp K H (.ref p) d ∧ ∃ e, Dp K H (.ref q) e ∧ okd d = true ∧ okd e = true ∧ R (PyData.eqv d e) :=
  ⟨_, .lst hp (dpAll_sc h), _, .lst hq (dpAll_sc h), lst_okd h, lst_okd h, by rw [lst_eqv h]; exact k⟩
end Fx

set_option Elab.async false
set_option linter.all false
set_option maxRecDepth 100000
set_option maxHeartbeats 1000000
namespace My
open PySem L2 Fx
local macro_rules | `(tactic| walk_at "fx") => `(tactic| try simp only [L2.start, List.map_cons, List.map_nil, List.length_cons, List.length_nil, Nat.reduceAdd, Nat.reduceSub, List.reduceReplicate, List.cons_append, List.nil_append, List.append_nil,
  tSeq, fVar, tVar, tC, tOp, tUn, tCons, tNil, fTup, fLst, tAsg, gName, tRet, tRetN, tDrop, tNext, tIf, tAnd, tOr, tNot, tTest, tB, tAug, tChain, tNotV, tAndV, tOrV, tSl, tPart, tNoPart, tCB, tCall, fBM, fBM0, tBreak, tCont, gTup, gCons, gNil,
  fAdd, fSub, fMul, fDiv, fMod, fNeg, fLt, fLe, fGt, fGe, fIx, fSl, fLen, fInt, fStr, fAbs, fMax, fMin, fOrd, fIsN, fNotN, fIsi, fListOf, isLst, isStr, isDct, fAppend, fS1, fJoin, fLstripC, fIAdd, fISub, fSet, tyOf, fEq, scal, fIn, iRng1, iRng2, iList, iTup, iStr, gSub, fGt_,
  List.getElem?_cons_zero, List.getElem?_cons_succ, List.set_cons_zero, List.set_cons_succ, upd_same, S_cps, S_len, L_S, one_list, flatV,
  V.int.injEq, V.str.injEq, V.bl.injEq, V.ref.injEq, Option.some.injEq, List.cons.injEq, exists_eq_left', exists_eq_left, exists_and_left, ex2, and_true, true_and, decide_eq_true_eq, Bool.not_eq_true', decide_eq_false_iff_not, Bool.false_eq_true, Bool.true_eq_false, Int.zero_add, Int.toNat_natCast, if_true, if_false, ite_true, ite_false, reduceIte, Int.reduceLT, Int.reduceLE, Int.reduceNeg, Int.reduceAdd, Nat.reduceLT, Nat.reduceLeDiff, Bool.not_true, Bool.not_false, kitBv, kitBs, not_true_eq_false, not_false_eq_true, Bool.or_false, Bool.false_or, Bool.or_true, Bool.true_or])
local macro_rules | `(tactic| walk_at "fx0") => `(tactic| try dsimp only [cxOf, Cx.nox, Cx.wish])
local macro_rules | `(tactic| walk_at "mul") => `(tactic| first | exact mul_left (by decide) (by decide) | exact mul_right (by decide) (by decide) | exact mul_left (by omega) (by omega) | exact mul_right (by omega) (by omega))
local macro_rules | `(tactic| walk_at "rm") => `(tactic| first | decide | exact Nat.le_refl _ | omega)
set_option hygiene false in
local macro_rules | `(tactic| walk_at "ox") => `(tactic| try simp only [WE_wOf, two, fTru, fRaise, fXf, fIsE, fMethS, tCallS, fFmt, fJs, fJoined, fDivZ, fGd_, fInD, fIxD, WE, wOf, fDead, sDead, upd2, wipe, tYes, fIsB, beq_self_eq_true, List.not_mem_nil, or_false, false_or, fDnew, T.ne, fFld, fSetF, fMeth, isOb, fIsiO, fIsiP, fIsiA, tyV2, okT, kit2, kits2, allIn, putF, List.lookup_cons, List.lookup_nil, keyEq, List.mem_cons, true_or, or_true, L2.start, List.map_cons, List.map_nil, List.length_cons, List.length_nil, Nat.reduceAdd, Nat.reduceSub, List.reduceReplicate, List.cons_append, List.nil_append, List.append_nil,
  tSeq, fVar, tVar, tC, tOp, tUn, tCons, tNil, fTup, fLst, tAsg, gName, tRet, tRetN, tDrop, tNext, tIf, tAnd, tOr, tNot, tTest, tB, tAug, tChain, tNotV, tAndV, tOrV, tSl, tPart, tNoPart, tCB, tCall, fBM, fBM0, tBreak, tCont, gTup, gCons, gNil,
  fAdd, fSub, fMul, fDiv, fMod, fNeg, fLt, fLe, fGt, fGe, fIx, fSl, fLen, fInt, fStr, fAbs, fMax, fMin, fOrd, fIsN, fNotN, fIsi, fListOf, isLst, isStr, isDct, fAppend, fS1, fJoin, fLstripC, fIAdd, fISub, fSet, tyOf, fEq, scal, fIn, iRng1, iRng2, iList, iTup, iStr, gSub, fGt_,
  List.getElem?_cons_zero, List.getElem?_cons_succ, List.set_cons_zero, List.set_cons_succ, upd_same, S_cps, S_len, L_S, one_list, flatV,
  V.int.injEq, V.str.injEq, V.bl.injEq, V.ref.injEq, Option.some.injEq, List.cons.injEq, exists_eq_left', exists_eq_left, exists_and_left, ex2, and_true, true_and, decide_eq_true_eq, Bool.not_eq_true', decide_eq_false_iff_not, Bool.false_eq_true, Bool.true_eq_false, Int.zero_add, Int.toNat_natCast, if_true, if_false, ite_true, ite_false, reduceIte, Int.reduceLT, Int.reduceLE, Int.reduceNeg, Int.reduceAdd, Nat.reduceLT, Nat.reduceLeDiff, Bool.not_true, Bool.not_false, kitBv, kitBs, not_true_eq_false, not_false_eq_true, Bool.or_false, Bool.false_or, Bool.or_true, Bool.true_or])
set_option hygiene false in
local macro_rules | `(tactic| walk_at "oxs") => `(tactic| simp only [tIfS, WE_wOf, two, fTru, fRaise, fXf, fIsE, fMethS, tCallS, fFmt, fJs, fJoined, fDivZ, fGd_, fInD, fIxD, WE, wOf, fDead, sDead,  reduceCtorEq, upd2, wipe, tYes, fIsB, beq_self_eq_true, List.not_mem_nil, or_false, false_or, fDnew, T.ne, fFld, fSetF, fMeth, isOb, fIsiO, fIsiP, fIsiA, tyV2, okT, kit2, kits2, allIn, putF, List.lookup_cons, List.lookup_nil, keyEq, List.mem_cons, true_or, or_true, L2.start, List.map_cons, List.map_nil, List.length_cons, List.length_nil, Nat.reduceAdd, Nat.reduceSub, List.reduceReplicate, List.cons_append, List.nil_append, List.append_nil,
  tSeq, fVar, tVar, tC, tOp, tUn, tCons, tNil, fTup, fLst, tAsg, gName, tRet, tRetN, tDrop, tNext, tIf, tAnd, tOr, tNot, tTest, tB, tAug, tChain, tNotV, tAndV, tOrV, tSl, tPart, tNoPart, tCB, tCall, fBM, fBM0, tBreak, tCont, gTup, gCons, gNil,
  fAdd, fSub, fMul, fDiv, fMod, fNeg, fLt, fLe, fGt, fGe, fIx, fSl, fLen, fInt, fStr, fAbs, fMax, fMin, fOrd, fIsN, fNotN, fIsi, fListOf, isLst, isStr, isDct, fAppend, fS1, fJoin, fLstripC, fIAdd, fISub, fSet, tyOf, fEq, scal, fIn, iRng1, iRng2, iList, iTup, iStr, gSub, fGt_,
  List.getElem?_cons_zero, List.getElem?_cons_succ, List.set_cons_zero, List.set_cons_succ, upd_same, S_cps, S_len, L_S, one_list, flatV,
  V.int.injEq, V.str.injEq, V.bl.injEq, V.ref.injEq, Option.some.injEq, List.cons.injEq, exists_eq_left', exists_eq_left, exists_and_left, ex2, and_true, true_and, decide_eq_true_eq, Bool.not_eq_true', decide_eq_false_iff_not, Bool.false_eq_true, Bool.true_eq_false, Int.zero_add, Int.toNat_natCast, if_true, if_false, ite_true, ite_false, reduceIte, Int.reduceLT, Int.reduceLE, Int.reduceNeg, Int.reduceAdd, Nat.reduceLT, Nat.reduceLeDiff, Bool.not_true, Bool.not_false, kitBv, kitBs, not_true_eq_false, not_false_eq_true, Bool.or_false, Bool.false_or, Bool.or_true, Bool.true_or])

def topS (i : Nat) : Stmt := PySem.Challenge.pw_livequill_k17_operators_of_integers.main.body.getD i (.Pass ⟨0, 0, 0, 0⟩)
abbrev s_ScriptError___init__ : Stmt := inClass (topS 3) 0
theorem sc_ScriptError___init__ : FnScope ["self", "kind", "message"] ["self", "kind", "message"] (defScope s_ScriptError___init__) := ⟨rfl, rfl, rfl, by decide +kernel, rfl, by decide +kernel, by decide +kernel⟩
abbrev s_Ref___init__ : Stmt := inClass (topS 6) 0
theorem sc_Ref___init__ : FnScope ["self", "number"] ["self", "number"] (defScope s_Ref___init__) := ⟨rfl, rfl, rfl, by decide +kernel, rfl, by decide +kernel, by decide +kernel⟩
abbrev s_Ref___eq__ : Stmt := inClass (topS 6) 1
theorem sc_Ref___eq__ : FnScope ["self", "other"] ["self", "other"] (defScope s_Ref___eq__) := ⟨rfl, rfl, rfl, by decide +kernel, rfl, by decide +kernel, by decide +kernel⟩
abbrev s_Builtin___init__ : Stmt := inClass (topS 7) 0
theorem sc_Builtin___init__ : FnScope ["self", "name"] ["self", "name"] (defScope s_Builtin___init__) := ⟨rfl, rfl, rfl, by decide +kernel, rfl, by decide +kernel, by decide +kernel⟩
abbrev s_Builtin___eq__ : Stmt := inClass (topS 7) 1
theorem sc_Builtin___eq__ : FnScope ["self", "other"] ["self", "other"] (defScope s_Builtin___eq__) := ⟨rfl, rfl, rfl, by decide +kernel, rfl, by decide +kernel, by decide +kernel⟩
abbrev s_Parts___init__ : Stmt := inClass (topS 9) 0
theorem sc_Parts___init__ : FnScope ["self", "held"] ["self", "held"] (defScope s_Parts___init__) := ⟨rfl, rfl, rfl, by decide +kernel, rfl, by decide +kernel, by decide +kernel⟩
abbrev s_Parts_fork : Stmt := inClass (topS 9) 1
theorem sc_Parts_fork : FnScope ["self"] ["self"] (defScope s_Parts_fork) := ⟨rfl, rfl, rfl, by decide +kernel, rfl, by decide +kernel, by decide +kernel⟩
abbrev s_Table___init__ : Stmt := inClass (topS 10) 0
theorem sc_Table___init__ : FnScope ["self"] ["self"] (defScope s_Table___init__) := ⟨rfl, rfl, rfl, by decide +kernel, rfl, by decide +kernel, by decide +kernel⟩
abbrev s_Table_many : Stmt := inClass (topS 10) 1
theorem sc_Table_many : FnScope ["self"] ["self"] (defScope s_Table_many) := ⟨rfl, rfl, rfl, by decide +kernel, rfl, by decide +kernel, by decide +kernel⟩
abbrev s_Table_has : Stmt := inClass (topS 10) 2
theorem sc_Table_has : FnScope ["self", "key"] ["self", "key"] (defScope s_Table_has) := ⟨rfl, rfl, rfl, by decide +kernel, rfl, by decide +kernel, by decide +kernel⟩
abbrev s_Table_value_of : Stmt := inClass (topS 10) 3
theorem sc_Table_value_of : FnScope ["self", "key"] ["self", "key"] (defScope s_Table_value_of) := ⟨rfl, rfl, rfl, by decide +kernel, rfl, by decide +kernel, by decide +kernel⟩
abbrev s_Table_put : Stmt := inClass (topS 10) 4
theorem sc_Table_put : FnScope ["self", "key", "value"] ["self", "key", "value"] (defScope s_Table_put) := ⟨rfl, rfl, rfl, by decide +kernel, rfl, by decide +kernel, by decide +kernel⟩
abbrev s_Table_take_out : Stmt := inClass (topS 10) 5
theorem sc_Table_take_out : FnScope ["self", "key"] ["self", "key"] (defScope s_Table_take_out) := ⟨rfl, rfl, rfl, by decide +kernel, rfl, by decide +kernel, by decide +kernel⟩
abbrev s_Table_pairs : Stmt := inClass (topS 10) 6
theorem sc_Table_pairs : FnScope ["self"] ["self"] (defScope s_Table_pairs) := ⟨rfl, rfl, rfl, by decide +kernel, rfl, by decide +kernel, by decide +kernel⟩
abbrev s_Table_fork : Stmt := inClass (topS 10) 7
theorem sc_Table_fork : FnScope ["self"] ["self"] (defScope s_Table_fork) := ⟨rfl, rfl, rfl, by decide +kernel, rfl, by decide +kernel, by decide +kernel⟩
abbrev s_Instance___init__ : Stmt := inClass (topS 11) 0
theorem sc_Instance___init__ : FnScope ["self", "owner"] ["self", "owner"] (defScope s_Instance___init__) := ⟨rfl, rfl, rfl, by decide +kernel, rfl, by decide +kernel, by decide +kernel⟩
abbrev s_Instance_fork : Stmt := inClass (topS 11) 1
theorem sc_Instance_fork : FnScope ["self"] ["self"] (defScope s_Instance_fork) := ⟨rfl, rfl, rfl, by decide +kernel, rfl, by decide +kernel, by decide +kernel⟩
abbrev s_Kin___init__ : Stmt := inClass (topS 12) 0
theorem sc_Kin___init__ : FnScope ["self", "name", "parent"] ["self", "name", "parent"] (defScope s_Kin___init__) := ⟨rfl, rfl, rfl, by decide +kernel, rfl, by decide +kernel, by decide +kernel⟩
abbrev s_Kin_fork : Stmt := inClass (topS 12) 1
theorem sc_Kin_fork : FnScope ["self"] ["self"] (defScope s_Kin_fork) := ⟨rfl, rfl, rfl, by decide +kernel, rfl, by decide +kernel, by decide +kernel⟩
abbrev s_is_integer : Stmt := topS 14
theorem sc_is_integer : FnScope ["value"] ["value"] (defScope s_is_integer) := ⟨rfl, rfl, rfl, by decide +kernel, rfl, by decide +kernel, by decide +kernel⟩
abbrev s_thing_of : Stmt := topS 15
theorem sc_thing_of : FnScope ["store", "value"] ["store", "value"] (defScope s_thing_of) := ⟨rfl, rfl, rfl, by decide +kernel, rfl, by decide +kernel, by decide +kernel⟩
abbrev s_kind_of : Stmt := topS 16
theorem sc_kind_of : FnScope ["store", "value", "thing"] ["store", "value"] (defScope s_kind_of) := ⟨rfl, rfl, rfl, by decide +kernel, rfl, by decide +kernel, by decide +kernel⟩
abbrev s_is_true : Stmt := topS 17
theorem sc_is_true : FnScope ["value"] ["value"] (defScope s_is_true) := ⟨rfl, rfl, rfl, by decide +kernel, rfl, by decide +kernel, by decide +kernel⟩
abbrev s_equal : Stmt := topS 18
theorem sc_equal : FnScope ["x", "y"] ["x", "y"] (defScope s_equal) := ⟨rfl, rfl, rfl, by decide +kernel, rfl, by decide +kernel, by decide +kernel⟩
abbrev s_is_below : Stmt := topS 19
theorem sc_is_below : FnScope ["store", "kin", "other"] ["store", "kin", "other"] (defScope s_is_below) := ⟨rfl, rfl, rfl, by decide +kernel, rfl, by decide +kernel, by decide +kernel⟩
abbrev s_Store___init__ : Stmt := inClass (topS 24) 0
theorem sc_Store___init__ : FnScope ["self", "lines"] ["self", "lines"] (defScope s_Store___init__) := ⟨rfl, rfl, rfl, by decide +kernel, rfl, by decide +kernel, by decide +kernel⟩
abbrev s_Store_make : Stmt := inClass (topS 24) 1
theorem sc_Store_make : FnScope ["self", "thing"] ["self", "thing"] (defScope s_Store_make) := ⟨rfl, rfl, rfl, by decide +kernel, rfl, by decide +kernel, by decide +kernel⟩
abbrev s_Store_at : Stmt := inClass (topS 24) 2
theorem sc_Store_at : FnScope ["self", "ref"] ["self", "ref"] (defScope s_Store_at) := ⟨rfl, rfl, rfl, by decide +kernel, rfl, by decide +kernel, by decide +kernel⟩
abbrev s_Store_fork : Stmt := inClass (topS 24) 3
theorem sc_Store_fork : FnScope ["self"] ["self"] (defScope s_Store_fork) := ⟨rfl, rfl, rfl, by decide +kernel, rfl, by decide +kernel, by decide +kernel⟩
abbrev s_bounded : Stmt := topS 27
theorem sc_bounded : FnScope ["number"] ["number"] (defScope s_bounded) := ⟨rfl, rfl, rfl, by decide +kernel, rfl, by decide +kernel, by decide +kernel⟩
abbrev s_fitting_text : Stmt := topS 28
theorem sc_fitting_text : FnScope ["text"] ["text"] (defScope s_fitting_text) := ⟨rfl, rfl, rfl, by decide +kernel, rfl, by decide +kernel, by decide +kernel⟩
abbrev s_check_parts : Stmt := topS 29
theorem sc_check_parts : FnScope ["count"] ["count"] (defScope s_check_parts) := ⟨rfl, rfl, rfl, by decide +kernel, rfl, by decide +kernel, by decide +kernel⟩
abbrev s_unary : Stmt := topS 32
theorem sc_unary : FnScope ["store", "operator", "x"] ["store", "operator", "x"] (defScope s_unary) := ⟨rfl, rfl, rfl, by decide +kernel, rfl, by decide +kernel, by decide +kernel⟩
abbrev s_added : Stmt := topS 33
theorem sc_added : FnScope ["store", "x", "y", "first", "second"] ["store", "x", "y"] (defScope s_added) := ⟨rfl, rfl, rfl, by decide +kernel, rfl, by decide +kernel, by decide +kernel⟩
abbrev s_reckoned : Stmt := topS 34
theorem sc_reckoned : FnScope ["store", "operator", "x", "y"] ["store", "operator", "x", "y"] (defScope s_reckoned) := ⟨rfl, rfl, rfl, by decide +kernel, rfl, by decide +kernel, by decide +kernel⟩
abbrev s_compared : Stmt := topS 35
theorem sc_compared : FnScope ["store", "operator", "x", "y", "fits"] ["store", "operator", "x", "y"] (defScope s_compared) := ⟨rfl, rfl, rfl, by decide +kernel, rfl, by decide +kernel, by decide +kernel⟩
abbrev s_is_of : Stmt := topS 36
theorem sc_is_of : FnScope ["store", "x", "y", "thing"] ["store", "x", "y"] (defScope s_is_of) := ⟨rfl, rfl, rfl, by decide +kernel, rfl, by decide +kernel, by decide +kernel⟩
abbrev s_binary : Stmt := topS 37
theorem sc_binary : FnScope ["store", "operator", "x", "y"] ["store", "operator", "x", "y"] (defScope s_binary) := ⟨rfl, rfl, rfl, by decide +kernel, rfl, by decide +kernel, by decide +kernel⟩
abbrev s_make_list : Stmt := topS 38
theorem sc_make_list : FnScope ["store", "values"] ["store", "values"] (defScope s_make_list) := ⟨rfl, rfl, rfl, by decide +kernel, rfl, by decide +kernel, by decide +kernel⟩
abbrev s_law_cell : Stmt := topS 40
theorem sc_law_cell : FnScope ["script", "k"] ["script", "k"] (defScope s_law_cell) := ⟨rfl, rfl, rfl, by decide +kernel, rfl, by decide +kernel, by decide +kernel⟩
abbrev s_law_is_integer : Stmt := topS 41
theorem sc_law_is_integer : FnScope ["told"] ["told"] (defScope s_law_is_integer) := ⟨rfl, rfl, rfl, by decide +kernel, rfl, by decide +kernel, by decide +kernel⟩
abbrev s_law_begin : Stmt := topS 42
theorem sc_law_begin : FnScope ["script", "k"] ["script", "k"] (defScope s_law_begin) := ⟨rfl, rfl, rfl, by decide +kernel, rfl, by decide +kernel, by decide +kernel⟩
abbrev s_law_draw : Stmt := topS 43
theorem sc_law_draw : FnScope ["state", "many", "k", "cell", "prime", "mixed", "digit"] ["state", "many"] (defScope s_law_draw) := ⟨rfl, rfl, rfl, by decide +kernel, rfl, by decide +kernel, by decide +kernel⟩
abbrev s_law_greatest : Stmt := topS 44
theorem sc_law_greatest : FnScope ["number", "k"] [] (defScope s_law_greatest) := ⟨rfl, rfl, rfl, by decide +kernel, rfl, by decide +kernel, by decide +kernel⟩
abbrev s_law_number : Stmt := topS 45
theorem sc_law_number : FnScope ["state", "kind", "number", "k"] ["state"] (defScope s_law_number) := ⟨rfl, rfl, rfl, by decide +kernel, rfl, by decide +kernel, by decide +kernel⟩
abbrev s_law_told : Stmt := topS 46
theorem sc_law_told : FnScope ["operator", "x", "y", "store", "told", "e"] ["operator", "x", "y"] (defScope s_law_told) := ⟨rfl, rfl, rfl, by decide +kernel, rfl, by decide +kernel, by decide +kernel⟩
abbrev s_law_due : Stmt := topS 47
theorem sc_law_due : FnScope ["operator", "x", "y", "result"] ["operator", "x", "y"] (defScope s_law_due) := ⟨rfl, rfl, rfl, by decide +kernel, rfl, by decide +kernel, by decide +kernel⟩
abbrev s_law_compared : Stmt := topS 48
theorem sc_law_compared : FnScope ["operator", "x", "y"] ["operator", "x", "y"] (defScope s_law_compared) := ⟨rfl, rfl, rfl, by decide +kernel, rfl, by decide +kernel, by decide +kernel⟩
abbrev s_law : Stmt := topS 49
theorem sc_law : FnScope ["script", "state", "k", "x", "y", "operator", "told"] ["script"] (defScope s_law) := ⟨rfl, rfl, rfl, by decide +kernel, rfl, by decide +kernel, by decide +kernel⟩
def big_GREATEST : Int := 1000000000000000000000000000000000000000000000000000000000000000000000000000000000000000000000000000000000000000000000000000000000000000000000000000000000000000000000000000000000000000000000000000000000000000000000000000000000000000000000000000000000000000000000000000000000000000000000000000000000000
structure Cs where
  Ref : Addr
  Builtin : Addr
  Parts : Addr
  Table : Addr
  Instance : Addr
  Kin : Addr
  Store : Addr
  LivequillError : Addr
  ScriptError : Addr
  Waiting : Addr
theorem keyEq : (("__eq__" : Str) == "name") = false ∧ ¬ (("__eq__" : Str) = "name") ∧ (("__eq__" : Str) == "number") = false ∧ ¬ (("__eq__" : Str) = "number") ∧ (("__init__" : Str) == "_rows") = false ∧ ¬ (("__init__" : Str) = "_rows") ∧ (("__init__" : Str) == "held") = false ∧ ¬ (("__init__" : Str) = "held") ∧ (("__init__" : Str) == "lines") = false ∧ ¬ (("__init__" : Str) = "lines") ∧ (("__init__" : Str) == "methods") = false ∧ ¬ (("__init__" : Str) = "methods") ∧ (("__init__" : Str) == "name") = false ∧ ¬ (("__init__" : Str) = "name") ∧ (("__init__" : Str) == "named") = false ∧ ¬ (("__init__" : Str) = "named") ∧ (("__init__" : Str) == "number") = false ∧ ¬ (("__init__" : Str) = "number") ∧ (("__init__" : Str) == "output") = false ∧ ¬ (("__init__" : Str) = "output") ∧ (("__init__" : Str) == "owner") = false ∧ ¬ (("__init__" : Str) = "owner") ∧ (("__init__" : Str) == "parent") = false ∧ ¬ (("__init__" : Str) = "parent") ∧ (("__init__" : Str) == "taken") = false ∧ ¬ (("__init__" : Str) = "taken") ∧ (("__init__" : Str) == "things") = false ∧ ¬ (("__init__" : Str) = "things") ∧ (("at" : Str) == "lines") = false ∧ ¬ (("at" : Str) = "lines") ∧ (("at" : Str) == "output") = false ∧ ¬ (("at" : Str) = "output") ∧ (("at" : Str) == "taken") = false ∧ ¬ (("at" : Str) = "taken") ∧ (("at" : Str) == "things") = false ∧ ¬ (("at" : Str) = "things") ∧ (("fork" : Str) == "_rows") = false ∧ ¬ (("fork" : Str) = "_rows") ∧ (("fork" : Str) == "held") = false ∧ ¬ (("fork" : Str) = "held") ∧ (("fork" : Str) == "lines") = false ∧ ¬ (("fork" : Str) = "lines") ∧ (("fork" : Str) == "methods") = false ∧ ¬ (("fork" : Str) = "methods") ∧ (("fork" : Str) == "name") = false ∧ ¬ (("fork" : Str) = "name") ∧ (("fork" : Str) == "named") = false ∧ ¬ (("fork" : Str) = "named") ∧ (("fork" : Str) == "output") = false ∧ ¬ (("fork" : Str) = "output") ∧ (("fork" : Str) == "owner") = false ∧ ¬ (("fork" : Str) = "owner") ∧ (("fork" : Str) == "parent") = false ∧ ¬ (("fork" : Str) = "parent") ∧ (("fork" : Str) == "taken") = false ∧ ¬ (("fork" : Str) = "taken") ∧ (("fork" : Str) == "things") = false ∧ ¬ (("fork" : Str) = "things") ∧ (("has" : Str) == "_rows") = false ∧ ¬ (("has" : Str) = "_rows") ∧ (("kind" : Str) == "message") = false ∧ ¬ (("kind" : Str) = "message") ∧ (("lines" : Str) == "output") = false ∧ ¬ (("lines" : Str) = "output") ∧ (("lines" : Str) == "taken") = false ∧ ¬ (("lines" : Str) = "taken") ∧ (("lines" : Str) == "things") = false ∧ ¬ (("lines" : Str) = "things") ∧ (("make" : Str) == "lines") = false ∧ ¬ (("make" : Str) = "lines") ∧ (("make" : Str) == "output") = false ∧ ¬ (("make" : Str) = "output") ∧ (("make" : Str) == "taken") = false ∧ ¬ (("make" : Str) = "taken") ∧ (("make" : Str) == "things") = false ∧ ¬ (("make" : Str) = "things") ∧ (("many" : Str) == "_rows") = false ∧ ¬ (("many" : Str) = "_rows") ∧ (("message" : Str) == "kind") = false ∧ ¬ (("message" : Str) = "kind") ∧ (("methods" : Str) == "name") = false ∧ ¬ (("methods" : Str) = "name") ∧ (("methods" : Str) == "parent") = false ∧ ¬ (("methods" : Str) = "parent") ∧ (("name" : Str) == "methods") = false ∧ ¬ (("name" : Str) = "methods") ∧ (("name" : Str) == "parent") = false ∧ ¬ (("name" : Str) = "parent") ∧ (("named" : Str) == "owner") = false ∧ ¬ (("named" : Str) = "owner") ∧ (("output" : Str) == "lines") = false ∧ ¬ (("output" : Str) = "lines") ∧ (("output" : Str) == "taken") = false ∧ ¬ (("output" : Str) = "taken") ∧ (("output" : Str) == "things") = false ∧ ¬ (("output" : Str) = "things") ∧ (("owner" : Str) == "named") = false ∧ ¬ (("owner" : Str) = "named") ∧ (("pairs" : Str) == "_rows") = false ∧ ¬ (("pairs" : Str) = "_rows") ∧ (("parent" : Str) == "methods") = false ∧ ¬ (("parent" : Str) = "methods") ∧ (("parent" : Str) == "name") = false ∧ ¬ (("parent" : Str) = "name") ∧ (("put" : Str) == "_rows") = false ∧ ¬ (("put" : Str) = "_rows") ∧ (("take_out" : Str) == "_rows") = false ∧ ¬ (("take_out" : Str) = "_rows") ∧ (("taken" : Str) == "lines") = false ∧ ¬ (("taken" : Str) = "lines") ∧ (("taken" : Str) == "output") = false ∧ ¬ (("taken" : Str) = "output") ∧ (("taken" : Str) == "things") = false ∧ ¬ (("taken" : Str) = "things") ∧ (("things" : Str) == "lines") = false ∧ ¬ (("things" : Str) = "lines") ∧ (("things" : Str) == "output") = false ∧ ¬ (("things" : Str) = "output") ∧ (("things" : Str) == "taken") = false ∧ ¬ (("things" : Str) = "taken") ∧ (("value_of" : Str) == "_rows") = false ∧ ¬ (("value_of" : Str) = "_rows") := by (repeat' apply And.intro) <;> decide +kernel
--!raises bounded reckoned added binary
--!skip is_of fitting_text make_list thing_of kind_of
--!raised ScriptError
--!gd VERBS: + - * / mod < <= > >=
--!none range len int isinstance bool list tuple str abs min max
structure TxD (w : World) (K : PySem.W.Frag) (mg : Str → Option Value) : Prop where
  d_VERBS : GDict K w mg "VERBS" [("+", some (.str "add")), ("-", some (.str "subtract")), ("*", some (.str "multiply")), ("/", some (.str "divide")), ("mod", some (.str "divide")), ("<", none), ("<=", none), (">", none), (">=", none)]
structure Txt (K : PySem.W.Frag) (mg : Str → Option Value) (c : Cs) : Prop where
  no_abs : mg "abs" = none
  no_bool : mg "bool" = none
  no_int : mg "int" = none
  no_isinstance : mg "isinstance" = none
  no_len : mg "len" = none
  no_list : mg "list" = none
  no_max : mg "max" = none
  no_min : mg "min" = none
  no_range : mg "range" = none
  no_str : mg "str" = none
  no_tuple : mg "tuple" = none
  g_ERROR : ∃ t, mg "ERROR" = some (.str "Error" t)
  g_GREATEST : ∃ t, mg "GREATEST" = some (.int big_GREATEST t)
  mg_Ref : mg "Ref" = some (.ref c.Ref)
  cl_Ref : Cls K c.Ref
  mk_Ref : MkAt K mg "Ref" c.Ref
  mg_Builtin : mg "Builtin" = some (.ref c.Builtin)
  cl_Builtin : Cls K c.Builtin
  mk_Builtin : MkAt K mg "Builtin" c.Builtin
  mg_Parts : mg "Parts" = some (.ref c.Parts)
  cl_Parts : Cls K c.Parts
  mk_Parts : MkAt K mg "Parts" c.Parts
  mg_Table : mg "Table" = some (.ref c.Table)
  cl_Table : Cls K c.Table
  mk_Table : MkAt K mg "Table" c.Table
  mg_Instance : mg "Instance" = some (.ref c.Instance)
  cl_Instance : Cls K c.Instance
  mk_Instance : MkAt K mg "Instance" c.Instance
  mg_Kin : mg "Kin" = some (.ref c.Kin)
  cl_Kin : Cls K c.Kin
  mk_Kin : MkAt K mg "Kin" c.Kin
  mg_Store : mg "Store" = some (.ref c.Store)
  cl_Store : Cls K c.Store
  mk_Store : MkAt K mg "Store" c.Store
  pl_lines : Plain K [c.Store] "lines"
  pl_methods : Plain K [c.Kin] "methods"
  pl_name : Plain K [c.Builtin, c.Kin] "name"
  pl_number : Plain K [c.Ref] "number"
  pl_output : Plain K [c.Store] "output"
  pl_parent : Plain K [c.Kin] "parent"
  pl_taken : Plain K [c.Store] "taken"
  pl_things : Plain K [c.Store] "things"
  xpl_kind : XPlain K [c.ScriptError] "kind"
  xpl_message : XPlain K [c.ScriptError] "message"
  xf : ∀ C ∈ [c.LivequillError, c.ScriptError, c.Waiting], ExcFact K C
  mg_LivequillError : mg "LivequillError" = some (.ref c.LivequillError)
  mg_ScriptError : mg "ScriptError" = some (.ref c.ScriptError)
  mg_Waiting : mg "Waiting" = some (.ref c.Waiting)
  xn_kind_ScriptError : PySem.W.findIn K (.ref c.ScriptError) "kind" = some none
  xn_message_ScriptError : PySem.W.findIn K (.ref c.ScriptError) "message" = some none
  em_ScriptError_ScriptError : PySem.W.exmOne K (.ref c.ScriptError) (.ref c.ScriptError) = some true
  ko_ScriptError_LivequillError : PySem.W.kitOne K (.ref c.ScriptError) (.ref c.LivequillError) = some true
  ko_ScriptError_Waiting : PySem.W.kitOne K (.ref c.ScriptError) (.ref c.Waiting) = some false
  ob : ObjFact K
  kit : Kit K [c.Ref, c.Builtin, c.Parts, c.Table, c.Instance, c.Kin, c.Store] [c.Ref, c.Parts, c.Table, c.Instance, c.Kin, c.Builtin]
  ne : (c.Ref = c.Builtin) = False ∧ (c.Ref = c.Parts) = False ∧ (c.Ref = c.Table) = False ∧ (c.Ref = c.Instance) = False ∧ (c.Ref = c.Kin) = False ∧ (c.Ref = c.Store) = False ∧ (c.Builtin = c.Ref) = False ∧ (c.Builtin = c.Parts) = False ∧ (c.Builtin = c.Table) = False ∧ (c.Builtin = c.Instance) = False ∧ (c.Builtin = c.Kin) = False ∧ (c.Builtin = c.Store) = False ∧ (c.Parts = c.Ref) = False ∧ (c.Parts = c.Builtin) = False ∧ (c.Parts = c.Table) = False ∧ (c.Parts = c.Instance) = False ∧ (c.Parts = c.Kin) = False ∧ (c.Parts = c.Store) = False ∧ (c.Table = c.Ref) = False ∧ (c.Table = c.Builtin) = False ∧ (c.Table = c.Parts) = False ∧ (c.Table = c.Instance) = False ∧ (c.Table = c.Kin) = False ∧ (c.Table = c.Store) = False ∧ (c.Instance = c.Ref) = False ∧ (c.Instance = c.Builtin) = False ∧ (c.Instance = c.Parts) = False ∧ (c.Instance = c.Table) = False ∧ (c.Instance = c.Kin) = False ∧ (c.Instance = c.Store) = False ∧ (c.Kin = c.Ref) = False ∧ (c.Kin = c.Builtin) = False ∧ (c.Kin = c.Parts) = False ∧ (c.Kin = c.Table) = False ∧ (c.Kin = c.Instance) = False ∧ (c.Kin = c.Store) = False ∧ (c.Store = c.Ref) = False ∧ (c.Store = c.Builtin) = False ∧ (c.Store = c.Parts) = False ∧ (c.Store = c.Table) = False ∧ (c.Store = c.Instance) = False ∧ (c.Store = c.Kin) = False
section
variable {P : Program} {w : World} {K : PySem.W.Frag} {mg : Str → Option Value} {base : Heap} {c : Cs}
/-- the law's own state: a number, a place, the script; H0: the heap at the law's start -/
structure Dr (K : PySem.W.Frag) (H0 : Hp) (s sc : Addr) (ns : List Int) (H : Hp) : Prop where
  st : ∃ a k : Int, H s = some (.lst [.int a, .int k, .ref sc]) ∧ 0 ≤ a ∧ 0 ≤ k
  sq : SqL K H0 sc (ns.map V.int)
  sm : Same H0 H
  nw : H0 s = none
  le : ns.length ≤ 63
theorem same_keep {H0 H H' : Hp} {ps : List Addr} (s : Same H0 H) (k : Keep ps H H') (n : ∀ q ∈ ps, H0 q = none) : Same H0 H' := fun a o e => k a o (fun m => by rw [n a m] at e; cases e) (s a o e)
theorem Dr.keep {H0 : Hp} {s sc : Addr} {ns : List Int} {ps : List Addr} {H H' : Hp} (d : Dr K H0 s sc ns H) (k : Keep ps H H') (n1 : s ∉ ps) (n2 : ∀ q ∈ ps, H0 q = none) : Dr K H0 s sc ns H' := by
  obtain ⟨a, j, e, h1, h2⟩ := d.st
  exact ⟨⟨a, j, k _ _ n1 e, h1, h2⟩, d.sq, same_keep d.sm k n2, d.nw, d.le⟩
theorem Dr.same {H0 : Hp} {s sc : Addr} {ns : List Int} {H H' : Hp} (d : Dr K H0 s sc ns H) (k : Same H H') : Dr K H0 s sc ns H' := d.keep (Keep.of (ps := []) k) (by simp) (fun _ h => by cases h)
def spCell (K : PySem.W.Frag) : Sp := fun vs H Q _ => match vs with
  | [.ref a, .int k] => ∃ ns : List Int, SqL K H a (ns.map V.int) ∧ ns.length ≤ 63 ∧ 0 ≤ k ∧ ∀ v : Int, Q (.int v) H
  | _ => False
theorem ok_cell (A : At K mg "_law_cell" "_law_cell" s_law_cell ["script", "k"]) (T : Txt K mg c) : Has P w K mg base CX0 "_law_cell" 1 ["script", "k"] (spCell K) := by
  have Sc := sc_law_cell
  refine has_of A Sc (fun vs H Q E h => ?_) (fun cdv f A outer s H vs Q E hr h => ?_)
  · unfold spCell at h; split at h; rfl; cases h
  · unfold spCell at h
    split at h
    · rename_i a k
      obtain ⟨ns, hS, hn, h0, kk⟩ := h
      refine ⟨_, (pss_cons (ps_if (pt_cmpR op_fLt (fe_var 1) (pe_callB call_fLen (by rfl) T.no_len (by decide +kernel) (pa_cons (fe_var 0) pa_nil)) (nomark _)) (pss_one (ps_ret (pe_ix ix_fx (fe_var 0) (fe_var 1) (fun _ _ => rfl)))) pss_nil)
      (pss_one (ps_ret pe_int))), ?_⟩
      walk_at "fx0"
      walk_at "fx"
      refine ifs_ ?_
      walk_at "fx"
      refine ⟨_, .inl hS, ?_⟩
      rw [List.length_map]
      split
      · rename_i hlt
        obtain ⟨z, ez⟩ := at_ints (ns := ns) (i := k) h0 hlt
        exact ⟨_, .inl hS, _, ez, kk z⟩
      · exact kk 0
    · cases h
def spBegin (K : PySem.W.Frag) : Sp := fun vs H Q _ => match vs with
  | [.ref a, .int k] => 0 ≤ k ∧ ∀ s H1, H s = none → Same H H1 → H1 s = some (.lst [.int 0, .int k, .ref a]) → Q (.ref s) H1
  | _ => False
theorem ok_begin (A : At K mg "_law_begin" "_law_begin" s_law_begin ["script", "k"]) (T : Txt K mg c) : Has P w K mg base CX0 "_law_begin" 1 ["script", "k"] (spBegin K) := by
  have Sc := sc_law_begin
  refine has_of A Sc (fun vs H Q E h => ?_) (fun cdv f A outer s H vs Q E hr h => ?_)
  · unfold spBegin at h; split at h; rfl; cases h
  · unfold spBegin at h
    split at h
    · rename_i a k
      obtain ⟨h0, kk⟩ := h
      refine ⟨_, (pss_one (ps_ret (fe_lst (pa_cons pe_int (pa_cons (fe_var 1) (pa_cons (fe_var 0) pa_nil)))))), ?_⟩
      walk_at "fx0"
      walk_at "fx"
      exact kk
    · cases h
def spDraw (K : PySem.W.Frag) : Sp := fun vs H Q _ => match vs with
  | [.ref s, .int m] => ∃ H0 sc ns, Dr K H0 s sc ns H ∧ 0 < m ∧ m < 1000000000000000000000000000000 ∧ ∀ H1 (d : Int), Keep [s] H H1 → Dr K H0 s sc ns H1 → 0 ≤ d → d < m → Q (.int d) H1
  | _ => False
theorem big_mul {i : Int} (h0 : 0 ≤ i) (h : i < 2 ^ 100) : IntMulOk i i := by
  have b : Builtin.Int.intBits i ≤ 128 := by
    unfold Builtin.Int.intBits
    by_cases hz : i = 0
    · subst hz; decide
    · rw [if_neg (by simpa using hz)]
      have : i.natAbs.log2 < 100 := (Nat.log2_lt (by omega)).mpr (by omega)
      omega
  exact IntMulOk.of_le b b (by decide)
theorem ok_draw (A : At K mg "_law_draw" "_law_draw" s_law_draw ["state", "many"]) (T : Txt K mg c) (H_law_cell : Has P w K mg base CX0 "_law_cell" 1 ["script", "k"] (spCell K)) : Has P w K mg base CX0 "_law_draw" 2 ["state", "many"] (spDraw K) := by
  have Sc := sc_law_draw
  refine has_of A Sc (fun vs H Q E h => ?_) (fun cdv f A outer s H vs Q E hr h => ?_)
  · unfold spDraw at h; split at h; rfl; cases h
  · unfold spDraw at h
    split at h
    · rename_i st m
      obtain ⟨H0, sc, ns, D, h0, h1, kk⟩ := h
      obtain ⟨x, k, es, hx, hk⟩ := D.st
      refine ⟨_, (pss_cons (ps_if (pt_cmpR op_fLt (pe_ix ix_fx (fe_var 0) pe_int (fun _ _ => rfl)) (fe_var 1) (nomark _)) (pss_cons (ps_set (i := 2) Sc.nd rfl (.inl rfl) (pe_ix ix_fx (fe_var 0) pe_int (fun _ _ => rfl)))
      (pss_cons (ps_set (i := 3) Sc.nd rfl (.inl rfl) (fe_call H_law_cell (hr.mono (by walk_at "rm")) (by rfl) pass0 (pa_cons (pe_ix ix_fx (fe_var 0) pe_int (fun _ _ => rfl)) (pa_cons (fe_var 2) pa_nil))))
      (pss_cons (ps_set (i := 4) Sc.nd rfl (.inl rfl) pe_int)
      (pss_cons (ps_asg (pe_op op_fAdd (fe_var 2) pe_int) (pg_sub (fe_var 0) pe_int set_fx))
      (pss_cons (ps_asg (pe_callB call_fAbs (by rfl) T.no_abs (by decide +kernel) (pa_cons (fe_var 3) pa_nil)) (pg_sub (fe_var 0) pe_int set_fx))
      (pss_one (ps_if (pt_chain op_fLt op_fLt (pe_un un_fNeg pe_int) (fe_var 3) pe_int) (pss_cons (ps_set (i := 5) Sc.nd rfl (.inl rfl) (pe_op op_fMod (pe_callTy call_fInt (by rfl) T.no_int (by decide +kernel) (pa_cons (pe_op op_fAdd (pe_op op_fMul (fe_var 3) pe_int) (pe_op op_fMul (pe_op op_fAdd (fe_var 2) pe_int) pe_int)) pa_nil)) (fe_var 4)))
      (pss_one (ps_asg (pe_op op_fAdd (pe_op op_fMod (pe_callTy call_fInt (by rfl) T.no_int (by decide +kernel) (pa_cons (pe_op op_fAdd (pe_op op_fAdd (pe_op op_fMul (fe_var 5) (fe_var 5)) (pe_op op_fMul pe_int (fe_var 5))) (fe_var 2)) pa_nil)) (fe_var 4)) (fe_var 4)) (pg_sub (fe_var 0) pe_int set_fx)))) pss_nil))))))) pss_nil)
      (pss_cons (ps_set (i := 6) Sc.nd rfl (.inl rfl) (pe_op op_fMod (pe_callTy call_fInt (by rfl) T.no_int (by decide +kernel) (pa_cons (pe_ix ix_fx (fe_var 0) pe_int (fun _ _ => rfl)) pa_nil)) (fe_var 1)))
      (pss_cons (ps_asg (pe_op op_fDiv (pe_ix ix_fx (fe_var 0) pe_int (fun _ _ => rfl)) (fe_var 1)) (pg_sub (fe_var 0) pe_int set_fx))
      (pss_one (ps_ret (fe_var 6)))))), ?_⟩
      walk_at "fx0"
      walk_at "fx"
      refine cut_ fun N hN => ifs_ ?_
      walk_at "fx"
      refine ⟨_, rl_l es, _, atI_nat (j := 0) rfl, ?_⟩
      walk_at "fx"
      have fin : ∀ (y : Int) (k' : Int) (v2 v3 v4 v5 : Option V) (H1 : Hp), Keep [st] H H1 → H1 st = some (.lst [.int y, .int k', .ref sc]) → 0 ≤ y → 0 ≤ k' → N [some (.ref st), some (.int m), v2, v3, v4, v5, none] H1 := by
        intro y k' v3 v4 v5 v6 H1 kp e1 g0 g1
        refine hN _ _ ?_
        walk_at "fx"
        refine ⟨_, rl_l e1, _, atI_nat (j := 0) rfl, h0, _, rl_l e1, _, atI_nat (j := 0) rfl, wide_div (b := 100) h0 (by omega) (by decide) (by decide), ?_⟩
        rw [e1]
        refine ⟨0, rfl, ?_⟩
        have kp2 : Keep [st] H (upd H1 st (.lst ([V.int y, .int k', .ref sc].set 0 (.int (y / m))))) := kp.upd (by simp)
        exact kk _ _ kp2 ⟨⟨y / m, k', upd_same, Int.ediv_nonneg g0 (by omega), g1⟩, D.sq, same_keep D.sm kp2 (by intro q hq; rw [List.mem_singleton.mp hq]; exact D.nw), D.nw, D.le⟩ (emod_lo y h0) (emod_hi y h0)
      split
      · refine ⟨_, rl_l es, _, atI_nat (j := 1) rfl, _, rl_l es, _, atI_nat (j := 2) rfl, ?_⟩
        unfold spCell
        refine ⟨ns, D.sm.seq D.sq, D.le, hk, fun v => ?_⟩
        walk_at "fx"
        simp only [es]
        walk_at "fx"
        refine ⟨1, rfl, 0, rfl, ?_⟩
        refine ifs_ ?_
        walk_at "fx"
        have kp : Keep [st] H (upd (upd H st (.lst [.int x, .int (k + 1), .ref sc])) st (.lst [.int (if v < 0 then -v else v), .int (k + 1), .ref sc])) := (Keep.refl.upd (by simp)).upd (by simp)
        have ha : 0 ≤ (if v < 0 then -v else v) := by split <;> omega
        split
        · split
          · have g0 := emod_lo (v * 2654435761 + (k + 1) * 6700417) (m := 618970019642690137449562111) (by decide)
            have g1 := emod_hi (v * 2654435761 + (k + 1) * 6700417) (m := 618970019642690137449562111) (by decide)
            generalize (v * 2654435761 + (k + 1) * 6700417) % 618970019642690137449562111 = y at g0 g1
            have g2 := emod_lo (y * y + 7 * y + k) (m := 618970019642690137449562111) (by decide)
            refine ⟨by walk_at "mul", by walk_at "mul", big_mul g0 (by omega), by walk_at "mul", 0, rfl, ?_⟩
            exact fin _ (k + 1) _ _ _ _ _ (kp.upd (by simp)) upd_same (by omega) (by omega)
          · exact fin _ (k + 1) _ _ _ _ _ kp upd_same ha (by omega)
        · exact fin _ (k + 1) _ _ _ _ _ kp upd_same ha (by omega)
      · exact fin x k _ _ _ _ H Keep.refl es hx hk
    · cases h
end

section
variable {P : Program} {w : World} {K : PySem.W.Frag} {mg : Str → Option Value} {base : Heap} {c : Cs}
def spMk_Kin (K : PySem.W.Frag) (c : Cs) : Sp := fun vs H Q _ => match vs with
  | [v_name, v_parent] => ∀ y dx p_methods H1, H y = none → Same H H1 → H1 y = some (.ins c.Kin dx [("name", v_name), ("parent", v_parent), ("methods", (.ref p_methods))]) → H p_methods = none → H1 p_methods = some (.dK []) → p_methods ≠ y → Q (.ref y) H1
  | _ => False
theorem mk_Kin (A : AtM K c.Kin "__init__" "Kin.__init__" s_Kin___init__ ["self", "name", "parent"]) (T : Txt K mg c) : HasC P w K mg base CX0 c.Kin "Kin" 1 ["self", "name", "parent"] (spMk_Kin K c) := by
  have Sc := sc_Kin___init__
  refine hasC_of T.mk_Kin A Sc (fun vs H Q E h => ?_) (fun cdv f A outer s H vs Q E y dx H0 hr h hy hs h0 => ?_)
  · unfold spMk_Kin at h; split at h; rfl; cases h
  · unfold spMk_Kin at h
    split at h
    · rename_i v_name v_parent
      refine ⟨_, (pss_cons (fs_fld (fe_var 0) (fe_var 1) T.pl_name rfl)
      (pss_cons (fs_fld (fe_var 0) (fe_var 2) T.pl_parent rfl)
      (pss_one (fs_fld (fe_var 0) fe_dnew T.pl_methods rfl)))), ?_⟩
      walk_at "fx0"
      walk_at "ox"
      simp only [h0]
      walk_at "ox"
      intro p_methods G_methods n_methods s_methods e_methods
      have ny_methods : p_methods ≠ y := fun q => by rw [q, upd_same] at n_methods; cases n_methods
      have y_methods := s_methods _ _ (upd_same)
      have t_methods := (mk_same hs hy).trans s_methods
      have f_methods := Same.free (mk_same hs hy) n_methods
      simp only [y_methods]
      walk_at "ox"
      first
        | exact h y dx p_methods _ hy (mk_same t_methods hy) upd_same f_methods ((upd_ne ny_methods).trans e_methods) ny_methods
        | exact ⟨by decide, h y dx p_methods _ hy (mk_same t_methods hy) upd_same f_methods ((upd_ne ny_methods).trans e_methods) ny_methods⟩
    · cases h
theorem mkE_ScriptError (A : AtE K c.ScriptError "ScriptError.__init__" s_ScriptError___init__ ["self", "kind", "message"]) (T : Txt K mg c) : HasE P w K mg base c.ScriptError "ScriptError" 2 (two "kind" "message") :=
  hasE2 A sc_ScriptError___init__ rfl (T.xf _ (by simp)) T.xn_kind_ScriptError T.xn_message_ScriptError T.mg_ScriptError (by decide) (by decide) (by decide) (by decide)
end
section
variable {P : Program} {w : World} {K : PySem.W.Frag} {mg : Str → Option Value} {base : Heap} {c : Cs}
def IsRef (c : Cs) (H : Hp) (a : Addr) (n : Int) : Prop := ∃ dx, H a = some (.ins c.Ref dx [("number", .int n)])
theorem IsRef.same {H H' : Hp} {a : Addr} {n : Int} (h : IsRef c H a n) (s : Same H H') : IsRef c H' a n := h.imp fun _ e => s _ _ e
/-- a store: its lists of objects, of output, of input; how many lines are taken -/
def StR (c : Cs) (H : Hp) (y tl ol ll : Addr) (tk : V) : Prop := ∃ dx, H y = some (.ins c.Store dx [("things", .ref tl), ("output", .ref ol), ("lines", .ref ll), ("taken", tk)])
theorem StR.same {H H' : Hp} {y tl ol ll : Addr} {tk : V} (h : StR c H y tl ol ll tk) (s : Same H H') : StR c H' y tl ol ll tk := h.imp fun _ e => s _ _ e
/-- the class Error, just made -/
def KinE (c : Cs) (H : Hp) (k md : Addr) : Prop := ∃ dx, H k = some (.ins c.Kin dx [("name", .str "Error"), ("parent", .non), ("methods", .ref md)])
/-- a store, just made -/
structure St0 (c : Cs) (xs : List V) (H H1 : Hp) (y tl ol ll k md : Addr) : Prop where
  ny : H y = none
  nt : H tl = none
  no : H ol = none
  nl : H ll = none
  nk : H k = none
  nm : H md = none
  to : tl ≠ ol
  tll : tl ≠ ll
  oll : ol ≠ ll
  sm : Same H H1
  ey : StR c H1 y tl ol ll (.int 0)
  et : H1 tl = some (.lst [.ref k])
  eo : H1 ol = some (.lst [])
  el : H1 ll = some (.lst xs)
  ek : KinE c H1 k md
  em : H1 md = some (.dK [])
def spStore (K : PySem.W.Frag) (c : Cs) : Sp := fun vs H Q _ => match vs with
  | [.ref l] => ∃ xs, Rl K H l xs ∧ ∀ y tl ol ll k md H1, St0 c xs H H1 y tl ol ll k md → Q (.ref y) H1
  | _ => False
theorem ok_store (A : AtM K c.Store "__init__" "Store.__init__" s_Store___init__ ["self", "lines"]) (T : Txt K mg c) (M_Kin : HasC P w K mg base CX0 c.Kin "Kin" 1 ["self", "name", "parent"] (spMk_Kin K c)) : HasC P w K mg base CX0 c.Store "Store" 3 ["self", "lines"] (spStore K c) := by
  have Sc := sc_Store___init__
  refine hasC_of T.mk_Store A Sc (fun vs H Q E h => ?_) (fun cdv f A outer s H vs Q E y dx H0 hr h hy hs h0 => ?_)
  · unfold spStore at h; split at h; rfl; cases h
  · unfold spStore at h
    split at h
    · rename_i l
      obtain ⟨xs, r, h⟩ := h
      refine ⟨_, (pss_cons (fs_fld (fe_var 0) (fe_lst (pa_cons (fe_make (k := _) M_Kin (hr.mono (by walk_at "rm")) (by rfl) pass0 (pa_cons (fe_gstr (by rfl) T.g_ERROR) (pa_cons pe_non pa_nil))) pa_nil)) T.pl_things rfl)
      (pss_cons (fs_fld (fe_var 0) (fe_lst pa_nil) T.pl_output rfl)
      (pss_cons (fs_fld (fe_var 0) (pe_callTy call_fListOf (by rfl) T.no_list (by decide +kernel) (pa_cons (fe_var 1) pa_nil)) T.pl_lines rfl)
      (pss_one (fs_fld (fe_var 0) pe_int T.pl_taken rfl))))), ?_⟩
      walk_at "fx0"
      walk_at "ox"
      unfold spMk_Kin
      intro k kdx md H1 nk s1 e1 nmd emd hne
      walk_at "ox"
      intro tl H2 ntl s2 etl
      have ey2 := s2 _ _ (s1 _ _ h0)
      simp only [ey2]
      walk_at "ox"
      have ny2 : tl ≠ y := fun q => by rw [q, s1 _ _ h0] at ntl; cases ntl
      have nky : k ≠ y := fun q => by rw [q, h0] at nk; cases nk
      have nmy : md ≠ y := fun q => by rw [q, h0] at nmd; cases nmd
      intro ol H3 nol s3 eol
      have noy : ol ≠ y := fun q => by rw [q, upd_same] at nol; cases nol
      have not_ : tl ≠ ol := fun q => by rw [← q, upd_ne ny2, etl] at nol; cases nol
      have nolH : H2 ol = none := by rw [upd_ne noy] at nol; exact nol
      have ey3 := s3 _ _ upd_same
      simp only [ey3]
      walk_at "ox"
      refine ⟨_, rl_keep (mk_same ((mk_same ((hs.trans s1).trans s2) hy).trans s3) hy) r, ?_⟩
      intro ll H4 nll s4 ell
      have nly : ll ≠ y := fun q => by rw [q, upd_same] at nll; cases nll
      have nllH : H3 ll = none := by rw [upd_ne nly] at nll; exact nll
      have nlt : tl ≠ ll := fun q => by rw [← q, s3 _ _ ((upd_ne ny2).trans etl)] at nllH; cases nllH
      have nlo : ol ≠ ll := fun q => by rw [← q, eol] at nllH; cases nllH
      have ey4 := s4 _ _ upd_same
      simp only [ey4]
      walk_at "ox"
      have S2 : Same H H2 := (hs.trans s1).trans s2
      have S3 : Same H H3 := (mk_same S2 hy).trans s3
      have S4 : Same H H4 := (mk_same S3 hy).trans s4
      have up : ∀ {q : Addr} {o : HO}, q ≠ y → H2 q = some o → upd H4 y (.ins c.Store dx [("things", .ref tl), ("output", .ref ol), ("lines", .ref ll), ("taken", .int 0)]) q = some o := fun nq e =>
        (upd_ne nq).trans (s4 _ _ ((upd_ne nq).trans (s3 _ _ ((upd_ne nq).trans e))))
      refine h y tl ol ll k md _ ⟨hy, (hs.trans s1).free ntl, S2.free nolH, S3.free nllH, hs.free nk, hs.free nmd, not_, nlt, nlo, mk_same S4 hy, ⟨_, upd_same⟩, up ny2 etl, ?_, (upd_ne nly).trans ell, ⟨kdx, up nky (s2 _ _ e1)⟩, up nmy (s2 _ _ emd)⟩
      exact (upd_ne noy).trans (s4 _ _ ((upd_ne noy).trans eol))
    · cases h
end

theorem opne : (("not" : Str) == "==") = false ∧ ¬ (("not" : Str) = "==") ∧ (("not" : Str) == "!=") = false ∧ ¬ (("not" : Str) = "!=") ∧ (("not" : Str) == "is") = false ∧ ¬ (("not" : Str) = "is") ∧ (("not" : Str) == "+") = false ∧ ¬ (("not" : Str) = "+") ∧ (("not" : Str) == "-") = false ∧ ¬ (("not" : Str) = "-") ∧ (("not" : Str) == "*") = false ∧ ¬ (("not" : Str) = "*") ∧ (("not" : Str) == "/") = false ∧ ¬ (("not" : Str) = "/") ∧ (("not" : Str) == "mod") = false ∧ ¬ (("not" : Str) = "mod") ∧ (("not" : Str) == "<") = false ∧ ¬ (("not" : Str) = "<") ∧ (("not" : Str) == "<=") = false ∧ ¬ (("not" : Str) = "<=") ∧ (("not" : Str) == ">") = false ∧ ¬ (("not" : Str) = ">") ∧ (("not" : Str) == ">=") = false ∧ ¬ (("not" : Str) = ">=") ∧ (("not" : Str) == "told") = false ∧ ¬ (("not" : Str) = "told") ∧ (("not" : Str) == "raised") = false ∧ ¬ (("not" : Str) = "raised") ∧ (("not" : Str) == "changed") = false ∧ ¬ (("not" : Str) = "changed") ∧ (("not" : Str) == "wrong") = false ∧ ¬ (("not" : Str) = "wrong") ∧ (("==" : Str) == "not") = false ∧ ¬ (("==" : Str) = "not") ∧ (("==" : Str) == "!=") = false ∧ ¬ (("==" : Str) = "!=") ∧ (("==" : Str) == "is") = false ∧ ¬ (("==" : Str) = "is") ∧ (("==" : Str) == "+") = false ∧ ¬ (("==" : Str) = "+") ∧ (("==" : Str) == "-") = false ∧ ¬ (("==" : Str) = "-") ∧ (("==" : Str) == "*") = false ∧ ¬ (("==" : Str) = "*") ∧ (("==" : Str) == "/") = false ∧ ¬ (("==" : Str) = "/") ∧ (("==" : Str) == "mod") = false ∧ ¬ (("==" : Str) = "mod") ∧ (("==" : Str) == "<") = false ∧ ¬ (("==" : Str) = "<") ∧ (("==" : Str) == "<=") = false ∧ ¬ (("==" : Str) = "<=") ∧ (("==" : Str) == ">") = false ∧ ¬ (("==" : Str) = ">") ∧ (("==" : Str) == ">=") = false ∧ ¬ (("==" : Str) = ">=") ∧ (("==" : Str) == "told") = false ∧ ¬ (("==" : Str) = "told") ∧ (("==" : Str) == "raised") = false ∧ ¬ (("==" : Str) = "raised") ∧ (("==" : Str) == "changed") = false ∧ ¬ (("==" : Str) = "changed") ∧ (("==" : Str) == "wrong") = false ∧ ¬ (("==" : Str) = "wrong") ∧ (("!=" : Str) == "not") = false ∧ ¬ (("!=" : Str) = "not") ∧ (("!=" : Str) == "==") = false ∧ ¬ (("!=" : Str) = "==") ∧ (("!=" : Str) == "is") = false ∧ ¬ (("!=" : Str) = "is") ∧ (("!=" : Str) == "+") = false ∧ ¬ (("!=" : Str) = "+") ∧ (("!=" : Str) == "-") = false ∧ ¬ (("!=" : Str) = "-") ∧ (("!=" : Str) == "*") = false ∧ ¬ (("!=" : Str) = "*") ∧ (("!=" : Str) == "/") = false ∧ ¬ (("!=" : Str) = "/") ∧ (("!=" : Str) == "mod") = false ∧ ¬ (("!=" : Str) = "mod") ∧ (("!=" : Str) == "<") = false ∧ ¬ (("!=" : Str) = "<") ∧ (("!=" : Str) == "<=") = false ∧ ¬ (("!=" : Str) = "<=") ∧ (("!=" : Str) == ">") = false ∧ ¬ (("!=" : Str) = ">") ∧ (("!=" : Str) == ">=") = false ∧ ¬ (("!=" : Str) = ">=") ∧ (("!=" : Str) == "told") = false ∧ ¬ (("!=" : Str) = "told") ∧ (("!=" : Str) == "raised") = false ∧ ¬ (("!=" : Str) = "raised") ∧ (("!=" : Str) == "changed") = false ∧ ¬ (("!=" : Str) = "changed") ∧ (("!=" : Str) == "wrong") = false ∧ ¬ (("!=" : Str) = "wrong") ∧ (("is" : Str) == "not") = false ∧ ¬ (("is" : Str) = "not") ∧ (("is" : Str) == "==") = false ∧ ¬ (("is" : Str) = "==") ∧ (("is" : Str) == "!=") = false ∧ ¬ (("is" : Str) = "!=") ∧ (("is" : Str) == "+") = false ∧ ¬ (("is" : Str) = "+") ∧ (("is" : Str) == "-") = false ∧ ¬ (("is" : Str) = "-") ∧ (("is" : Str) == "*") = false ∧ ¬ (("is" : Str) = "*") ∧ (("is" : Str) == "/") = false ∧ ¬ (("is" : Str) = "/") ∧ (("is" : Str) == "mod") = false ∧ ¬ (("is" : Str) = "mod") ∧ (("is" : Str) == "<") = false ∧ ¬ (("is" : Str) = "<") ∧ (("is" : Str) == "<=") = false ∧ ¬ (("is" : Str) = "<=") ∧ (("is" : Str) == ">") = false ∧ ¬ (("is" : Str) = ">") ∧ (("is" : Str) == ">=") = false ∧ ¬ (("is" : Str) = ">=") ∧ (("is" : Str) == "told") = false ∧ ¬ (("is" : Str) = "told") ∧ (("is" : Str) == "raised") = false ∧ ¬ (("is" : Str) = "raised") ∧ (("is" : Str) == "changed") = false ∧ ¬ (("is" : Str) = "changed") ∧ (("is" : Str) == "wrong") = false ∧ ¬ (("is" : Str) = "wrong") ∧ (("+" : Str) == "not") = false ∧ ¬ (("+" : Str) = "not") ∧ (("+" : Str) == "==") = false ∧ ¬ (("+" : Str) = "==") ∧ (("+" : Str) == "!=") = false ∧ ¬ (("+" : Str) = "!=") ∧ (("+" : Str) == "is") = false ∧ ¬ (("+" : Str) = "is") ∧ (("+" : Str) == "-") = false ∧ ¬ (("+" : Str) = "-") ∧ (("+" : Str) == "*") = false ∧ ¬ (("+" : Str) = "*") ∧ (("+" : Str) == "/") = false ∧ ¬ (("+" : Str) = "/") ∧ (("+" : Str) == "mod") = false ∧ ¬ (("+" : Str) = "mod") ∧ (("+" : Str) == "<") = false ∧ ¬ (("+" : Str) = "<") ∧ (("+" : Str) == "<=") = false ∧ ¬ (("+" : Str) = "<=") ∧ (("+" : Str) == ">") = false ∧ ¬ (("+" : Str) = ">") ∧ (("+" : Str) == ">=") = false ∧ ¬ (("+" : Str) = ">=") ∧ (("+" : Str) == "told") = false ∧ ¬ (("+" : Str) = "told") ∧ (("+" : Str) == "raised") = false ∧ ¬ (("+" : Str) = "raised") ∧ (("+" : Str) == "changed") = false ∧ ¬ (("+" : Str) = "changed") ∧ (("+" : Str) == "wrong") = false ∧ ¬ (("+" : Str) = "wrong") ∧ (("-" : Str) == "not") = false ∧ ¬ (("-" : Str) = "not") ∧ (("-" : Str) == "==") = false ∧ ¬ (("-" : Str) = "==") ∧ (("-" : Str) == "!=") = false ∧ ¬ (("-" : Str) = "!=") ∧ (("-" : Str) == "is") = false ∧ ¬ (("-" : Str) = "is") ∧ (("-" : Str) == "+") = false ∧ ¬ (("-" : Str) = "+") ∧ (("-" : Str) == "*") = false ∧ ¬ (("-" : Str) = "*") ∧ (("-" : Str) == "/") = false ∧ ¬ (("-" : Str) = "/") ∧ (("-" : Str) == "mod") = false ∧ ¬ (("-" : Str) = "mod") ∧ (("-" : Str) == "<") = false ∧ ¬ (("-" : Str) = "<") ∧ (("-" : Str) == "<=") = false ∧ ¬ (("-" : Str) = "<=") ∧ (("-" : Str) == ">") = false ∧ ¬ (("-" : Str) = ">") ∧ (("-" : Str) == ">=") = false ∧ ¬ (("-" : Str) = ">=") ∧ (("-" : Str) == "told") = false ∧ ¬ (("-" : Str) = "told") ∧ (("-" : Str) == "raised") = false ∧ ¬ (("-" : Str) = "raised") ∧ (("-" : Str) == "changed") = false ∧ ¬ (("-" : Str) = "changed") ∧ (("-" : Str) == "wrong") = false ∧ ¬ (("-" : Str) = "wrong") ∧ (("*" : Str) == "not") = false ∧ ¬ (("*" : Str) = "not") ∧ (("*" : Str) == "==") = false ∧ ¬ (("*" : Str) = "==") ∧ (("*" : Str) == "!=") = false ∧ ¬ (("*" : Str) = "!=") ∧ (("*" : Str) == "is") = false ∧ ¬ (("*" : Str) = "is") ∧ (("*" : Str) == "+") = false ∧ ¬ (("*" : Str) = "+") ∧ (("*" : Str) == "-") = false ∧ ¬ (("*" : Str) = "-") ∧ (("*" : Str) == "/") = false ∧ ¬ (("*" : Str) = "/") ∧ (("*" : Str) == "mod") = false ∧ ¬ (("*" : Str) = "mod") ∧ (("*" : Str) == "<") = false ∧ ¬ (("*" : Str) = "<") ∧ (("*" : Str) == "<=") = false ∧ ¬ (("*" : Str) = "<=") ∧ (("*" : Str) == ">") = false ∧ ¬ (("*" : Str) = ">") ∧ (("*" : Str) == ">=") = false ∧ ¬ (("*" : Str) = ">=") ∧ (("*" : Str) == "told") = false ∧ ¬ (("*" : Str) = "told") ∧ (("*" : Str) == "raised") = false ∧ ¬ (("*" : Str) = "raised") ∧ (("*" : Str) == "changed") = false ∧ ¬ (("*" : Str) = "changed") ∧ (("*" : Str) == "wrong") = false ∧ ¬ (("*" : Str) = "wrong") ∧ (("/" : Str) == "not") = false ∧ ¬ (("/" : Str) = "not") ∧ (("/" : Str) == "==") = false ∧ ¬ (("/" : Str) = "==") ∧ (("/" : Str) == "!=") = false ∧ ¬ (("/" : Str) = "!=") ∧ (("/" : Str) == "is") = false ∧ ¬ (("/" : Str) = "is") ∧ (("/" : Str) == "+") = false ∧ ¬ (("/" : Str) = "+") ∧ (("/" : Str) == "-") = false ∧ ¬ (("/" : Str) = "-") ∧ (("/" : Str) == "*") = false ∧ ¬ (("/" : Str) = "*") ∧ (("/" : Str) == "mod") = false ∧ ¬ (("/" : Str) = "mod") ∧ (("/" : Str) == "<") = false ∧ ¬ (("/" : Str) = "<") ∧ (("/" : Str) == "<=") = false ∧ ¬ (("/" : Str) = "<=") ∧ (("/" : Str) == ">") = false ∧ ¬ (("/" : Str) = ">") ∧ (("/" : Str) == ">=") = false ∧ ¬ (("/" : Str) = ">=") ∧ (("/" : Str) == "told") = false ∧ ¬ (("/" : Str) = "told") ∧ (("/" : Str) == "raised") = false ∧ ¬ (("/" : Str) = "raised") ∧ (("/" : Str) == "changed") = false ∧ ¬ (("/" : Str) = "changed") ∧ (("/" : Str) == "wrong") = false ∧ ¬ (("/" : Str) = "wrong") ∧ (("mod" : Str) == "not") = false ∧ ¬ (("mod" : Str) = "not") ∧ (("mod" : Str) == "==") = false ∧ ¬ (("mod" : Str) = "==") ∧ (("mod" : Str) == "!=") = false ∧ ¬ (("mod" : Str) = "!=") ∧ (("mod" : Str) == "is") = false ∧ ¬ (("mod" : Str) = "is") ∧ (("mod" : Str) == "+") = false ∧ ¬ (("mod" : Str) = "+") ∧ (("mod" : Str) == "-") = false ∧ ¬ (("mod" : Str) = "-") ∧ (("mod" : Str) == "*") = false ∧ ¬ (("mod" : Str) = "*") ∧ (("mod" : Str) == "/") = false ∧ ¬ (("mod" : Str) = "/") ∧ (("mod" : Str) == "<") = false ∧ ¬ (("mod" : Str) = "<") ∧ (("mod" : Str) == "<=") = false ∧ ¬ (("mod" : Str) = "<=") ∧ (("mod" : Str) == ">") = false ∧ ¬ (("mod" : Str) = ">") ∧ (("mod" : Str) == ">=") = false ∧ ¬ (("mod" : Str) = ">=") ∧ (("mod" : Str) == "told") = false ∧ ¬ (("mod" : Str) = "told") ∧ (("mod" : Str) == "raised") = false ∧ ¬ (("mod" : Str) = "raised") ∧ (("mod" : Str) == "changed") = false ∧ ¬ (("mod" : Str) = "changed") ∧ (("mod" : Str) == "wrong") = false ∧ ¬ (("mod" : Str) = "wrong") ∧ (("<" : Str) == "not") = false ∧ ¬ (("<" : Str) = "not") ∧ (("<" : Str) == "==") = false ∧ ¬ (("<" : Str) = "==") ∧ (("<" : Str) == "!=") = false ∧ ¬ (("<" : Str) = "!=") ∧ (("<" : Str) == "is") = false ∧ ¬ (("<" : Str) = "is") ∧ (("<" : Str) == "+") = false ∧ ¬ (("<" : Str) = "+") ∧ (("<" : Str) == "-") = false ∧ ¬ (("<" : Str) = "-") ∧ (("<" : Str) == "*") = false ∧ ¬ (("<" : Str) = "*") ∧ (("<" : Str) == "/") = false ∧ ¬ (("<" : Str) = "/") ∧ (("<" : Str) == "mod") = false ∧ ¬ (("<" : Str) = "mod") ∧ (("<" : Str) == "<=") = false ∧ ¬ (("<" : Str) = "<=") ∧ (("<" : Str) == ">") = false ∧ ¬ (("<" : Str) = ">") ∧ (("<" : Str) == ">=") = false ∧ ¬ (("<" : Str) = ">=") ∧ (("<" : Str) == "told") = false ∧ ¬ (("<" : Str) = "told") ∧ (("<" : Str) == "raised") = false ∧ ¬ (("<" : Str) = "raised") ∧ (("<" : Str) == "changed") = false ∧ ¬ (("<" : Str) = "changed") ∧ (("<" : Str) == "wrong") = false ∧ ¬ (("<" : Str) = "wrong") ∧ (("<=" : Str) == "not") = false ∧ ¬ (("<=" : Str) = "not") ∧ (("<=" : Str) == "==") = false ∧ ¬ (("<=" : Str) = "==") ∧ (("<=" : Str) == "!=") = false ∧ ¬ (("<=" : Str) = "!=") ∧ (("<=" : Str) == "is") = false ∧ ¬ (("<=" : Str) = "is") ∧ (("<=" : Str) == "+") = false ∧ ¬ (("<=" : Str) = "+") ∧ (("<=" : Str) == "-") = false ∧ ¬ (("<=" : Str) = "-") ∧ (("<=" : Str) == "*") = false ∧ ¬ (("<=" : Str) = "*") ∧ (("<=" : Str) == "/") = false ∧ ¬ (("<=" : Str) = "/") ∧ (("<=" : Str) == "mod") = false ∧ ¬ (("<=" : Str) = "mod") ∧ (("<=" : Str) == "<") = false ∧ ¬ (("<=" : Str) = "<") ∧ (("<=" : Str) == ">") = false ∧ ¬ (("<=" : Str) = ">") ∧ (("<=" : Str) == ">=") = false ∧ ¬ (("<=" : Str) = ">=") ∧ (("<=" : Str) == "told") = false ∧ ¬ (("<=" : Str) = "told") ∧ (("<=" : Str) == "raised") = false ∧ ¬ (("<=" : Str) = "raised") ∧ (("<=" : Str) == "changed") = false ∧ ¬ (("<=" : Str) = "changed") ∧ (("<=" : Str) == "wrong") = false ∧ ¬ (("<=" : Str) = "wrong") ∧ ((">" : Str) == "not") = false ∧ ¬ ((">" : Str) = "not") ∧ ((">" : Str) == "==") = false ∧ ¬ ((">" : Str) = "==") ∧ ((">" : Str) == "!=") = false ∧ ¬ ((">" : Str) = "!=") ∧ ((">" : Str) == "is") = false ∧ ¬ ((">" : Str) = "is") ∧ ((">" : Str) == "+") = false ∧ ¬ ((">" : Str) = "+") ∧ ((">" : Str) == "-") = false ∧ ¬ ((">" : Str) = "-") ∧ ((">" : Str) == "*") = false ∧ ¬ ((">" : Str) = "*") ∧ ((">" : Str) == "/") = false ∧ ¬ ((">" : Str) = "/") ∧ ((">" : Str) == "mod") = false ∧ ¬ ((">" : Str) = "mod") ∧ ((">" : Str) == "<") = false ∧ ¬ ((">" : Str) = "<") ∧ ((">" : Str) == "<=") = false ∧ ¬ ((">" : Str) = "<=") ∧ ((">" : Str) == ">=") = false ∧ ¬ ((">" : Str) = ">=") ∧ ((">" : Str) == "told") = false ∧ ¬ ((">" : Str) = "told") ∧ ((">" : Str) == "raised") = false ∧ ¬ ((">" : Str) = "raised") ∧ ((">" : Str) == "changed") = false ∧ ¬ ((">" : Str) = "changed") ∧ ((">" : Str) == "wrong") = false ∧ ¬ ((">" : Str) = "wrong") ∧ ((">=" : Str) == "not") = false ∧ ¬ ((">=" : Str) = "not") ∧ ((">=" : Str) == "==") = false ∧ ¬ ((">=" : Str) = "==") ∧ ((">=" : Str) == "!=") = false ∧ ¬ ((">=" : Str) = "!=") ∧ ((">=" : Str) == "is") = false ∧ ¬ ((">=" : Str) = "is") ∧ ((">=" : Str) == "+") = false ∧ ¬ ((">=" : Str) = "+") ∧ ((">=" : Str) == "-") = false ∧ ¬ ((">=" : Str) = "-") ∧ ((">=" : Str) == "*") = false ∧ ¬ ((">=" : Str) = "*") ∧ ((">=" : Str) == "/") = false ∧ ¬ ((">=" : Str) = "/") ∧ ((">=" : Str) == "mod") = false ∧ ¬ ((">=" : Str) = "mod") ∧ ((">=" : Str) == "<") = false ∧ ¬ ((">=" : Str) = "<") ∧ ((">=" : Str) == "<=") = false ∧ ¬ ((">=" : Str) = "<=") ∧ ((">=" : Str) == ">") = false ∧ ¬ ((">=" : Str) = ">") ∧ ((">=" : Str) == "told") = false ∧ ¬ ((">=" : Str) = "told") ∧ ((">=" : Str) == "raised") = false ∧ ¬ ((">=" : Str) = "raised") ∧ ((">=" : Str) == "changed") = false ∧ ¬ ((">=" : Str) = "changed") ∧ ((">=" : Str) == "wrong") = false ∧ ¬ ((">=" : Str) = "wrong") ∧ (("told" : Str) == "not") = false ∧ ¬ (("told" : Str) = "not") ∧ (("told" : Str) == "==") = false ∧ ¬ (("told" : Str) = "==") ∧ (("told" : Str) == "!=") = false ∧ ¬ (("told" : Str) = "!=") ∧ (("told" : Str) == "is") = false ∧ ¬ (("told" : Str) = "is") ∧ (("told" : Str) == "+") = false ∧ ¬ (("told" : Str) = "+") ∧ (("told" : Str) == "-") = false ∧ ¬ (("told" : Str) = "-") ∧ (("told" : Str) == "*") = false ∧ ¬ (("told" : Str) = "*") ∧ (("told" : Str) == "/") = false ∧ ¬ (("told" : Str) = "/") ∧ (("told" : Str) == "mod") = false ∧ ¬ (("told" : Str) = "mod") ∧ (("told" : Str) == "<") = false ∧ ¬ (("told" : Str) = "<") ∧ (("told" : Str) == "<=") = false ∧ ¬ (("told" : Str) = "<=") ∧ (("told" : Str) == ">") = false ∧ ¬ (("told" : Str) = ">") ∧ (("told" : Str) == ">=") = false ∧ ¬ (("told" : Str) = ">=") ∧ (("told" : Str) == "raised") = false ∧ ¬ (("told" : Str) = "raised") ∧ (("told" : Str) == "changed") = false ∧ ¬ (("told" : Str) = "changed") ∧ (("told" : Str) == "wrong") = false ∧ ¬ (("told" : Str) = "wrong") ∧ (("raised" : Str) == "not") = false ∧ ¬ (("raised" : Str) = "not") ∧ (("raised" : Str) == "==") = false ∧ ¬ (("raised" : Str) = "==") ∧ (("raised" : Str) == "!=") = false ∧ ¬ (("raised" : Str) = "!=") ∧ (("raised" : Str) == "is") = false ∧ ¬ (("raised" : Str) = "is") ∧ (("raised" : Str) == "+") = false ∧ ¬ (("raised" : Str) = "+") ∧ (("raised" : Str) == "-") = false ∧ ¬ (("raised" : Str) = "-") ∧ (("raised" : Str) == "*") = false ∧ ¬ (("raised" : Str) = "*") ∧ (("raised" : Str) == "/") = false ∧ ¬ (("raised" : Str) = "/") ∧ (("raised" : Str) == "mod") = false ∧ ¬ (("raised" : Str) = "mod") ∧ (("raised" : Str) == "<") = false ∧ ¬ (("raised" : Str) = "<") ∧ (("raised" : Str) == "<=") = false ∧ ¬ (("raised" : Str) = "<=") ∧ (("raised" : Str) == ">") = false ∧ ¬ (("raised" : Str) = ">") ∧ (("raised" : Str) == ">=") = false ∧ ¬ (("raised" : Str) = ">=") ∧ (("raised" : Str) == "told") = false ∧ ¬ (("raised" : Str) = "told") ∧ (("raised" : Str) == "changed") = false ∧ ¬ (("raised" : Str) = "changed") ∧ (("raised" : Str) == "wrong") = false ∧ ¬ (("raised" : Str) = "wrong") ∧ (("changed" : Str) == "not") = false ∧ ¬ (("changed" : Str) = "not") ∧ (("changed" : Str) == "==") = false ∧ ¬ (("changed" : Str) = "==") ∧ (("changed" : Str) == "!=") = false ∧ ¬ (("changed" : Str) = "!=") ∧ (("changed" : Str) == "is") = false ∧ ¬ (("changed" : Str) = "is") ∧ (("changed" : Str) == "+") = false ∧ ¬ (("changed" : Str) = "+") ∧ (("changed" : Str) == "-") = false ∧ ¬ (("changed" : Str) = "-") ∧ (("changed" : Str) == "*") = false ∧ ¬ (("changed" : Str) = "*") ∧ (("changed" : Str) == "/") = false ∧ ¬ (("changed" : Str) = "/") ∧ (("changed" : Str) == "mod") = false ∧ ¬ (("changed" : Str) = "mod") ∧ (("changed" : Str) == "<") = false ∧ ¬ (("changed" : Str) = "<") ∧ (("changed" : Str) == "<=") = false ∧ ¬ (("changed" : Str) = "<=") ∧ (("changed" : Str) == ">") = false ∧ ¬ (("changed" : Str) = ">") ∧ (("changed" : Str) == ">=") = false ∧ ¬ (("changed" : Str) = ">=") ∧ (("changed" : Str) == "told") = false ∧ ¬ (("changed" : Str) = "told") ∧ (("changed" : Str) == "raised") = false ∧ ¬ (("changed" : Str) = "raised") ∧ (("changed" : Str) == "wrong") = false ∧ ¬ (("changed" : Str) = "wrong") ∧ (("wrong" : Str) == "not") = false ∧ ¬ (("wrong" : Str) = "not") ∧ (("wrong" : Str) == "==") = false ∧ ¬ (("wrong" : Str) = "==") ∧ (("wrong" : Str) == "!=") = false ∧ ¬ (("wrong" : Str) = "!=") ∧ (("wrong" : Str) == "is") = false ∧ ¬ (("wrong" : Str) = "is") ∧ (("wrong" : Str) == "+") = false ∧ ¬ (("wrong" : Str) = "+") ∧ (("wrong" : Str) == "-") = false ∧ ¬ (("wrong" : Str) = "-") ∧ (("wrong" : Str) == "*") = false ∧ ¬ (("wrong" : Str) = "*") ∧ (("wrong" : Str) == "/") = false ∧ ¬ (("wrong" : Str) = "/") ∧ (("wrong" : Str) == "mod") = false ∧ ¬ (("wrong" : Str) = "mod") ∧ (("wrong" : Str) == "<") = false ∧ ¬ (("wrong" : Str) = "<") ∧ (("wrong" : Str) == "<=") = false ∧ ¬ (("wrong" : Str) = "<=") ∧ (("wrong" : Str) == ">") = false ∧ ¬ (("wrong" : Str) = ">") ∧ (("wrong" : Str) == ">=") = false ∧ ¬ (("wrong" : Str) = ">=") ∧ (("wrong" : Str) == "told") = false ∧ ¬ (("wrong" : Str) = "told") ∧ (("wrong" : Str) == "raised") = false ∧ ¬ (("wrong" : Str) = "raised") ∧ (("wrong" : Str) == "changed") = false ∧ ¬ (("wrong" : Str) = "changed") := by (repeat' apply And.intro) <;> decide +kernel
section
variable {P : Program} {w : World} {K : PySem.W.Frag} {mg : Str → Option Value} {base : Heap} {c : Cs}
theorem G_pos : (1000000 : Int) < big_GREATEST := by decide +kernel
theorem G_val : big_GREATEST = 10 ^ 300 := by decide +kernel
inductive Rs where
  | val (v : V)
  | err (k m : Str)
def resK (c : Cs) (r : Rs) (H : Hp) (Q : VK) (E : XK) : Prop := match r with
  | .val v => Q v H
  | .err k m => Out c.ScriptError H [("message", .str m), ("kind", .str k)] E
def bnd (n : Int) : Rs := if -big_GREATEST < n ∧ n < big_GREATEST then .val (.int n) else .err "OverflowError" "the integer is too large"
def spBounded (c : Cs) : Sp := fun vs H Q E => match vs with
  | [.int n] => resK c (bnd n) H Q E
  | _ => False
theorem ok_bounded (A : At K mg "bounded" "bounded" s_bounded ["number"]) (T : Txt K mg c) (E_ScriptError : HasE P w K mg base c.ScriptError "ScriptError" 2 (two "kind" "message")) : Has P w K mg base (L2.CX P w) "bounded" 3 ["number"] (spBounded c) := by
  have Sc := sc_bounded
  refine hasX_of A Sc (fun vs H Q E h => ?_) (fun cdv f A outer s H vs Q E hr h => ?_)
  · unfold spBounded at h; split at h; rfl; cases h
  · unfold spBounded at h
    split at h
    · rename_i n
      refine ⟨_, (pss_cons (ps_if (pt_chain op_fLt op_fLt (pe_un un_fNeg (fe_gint (by rfl) T.g_GREATEST)) (fe_var 0) (fe_gint (by rfl) T.g_GREATEST)) (pss_one (ps_ret (fe_var 0))) pss_nil)
      (pss_one (fs_raise rfl tk_of E_ScriptError (by decide) (hr.mono (by walk_at "rm")) (by rfl) (pa_cons pe_str (pa_cons pe_str pa_nil))))), ?_⟩
      walk_at "fx0"
      unfold bnd at h
      repeat (walk_at "oxs")
      split
      · rename_i h1
        split
        · rename_i h2
          rw [if_pos ⟨h1, h2⟩] at h
          exact h
        · rename_i h2
          rw [if_neg (fun z => h2 z.2)] at h
          exact h
      · rename_i h1
        rw [if_neg (fun z => h1 z.1)] at h
        exact h
    · cases h
inductive Op where
  | add | sub | mul | div | mod | lt | le | gt | ge | eq | ne
def Op.s : Op → Str
  | .add => "+" | .sub => "-" | .mul => "*" | .div => "/" | .mod => "mod" | .lt => "<" | .le => "<=" | .gt => ">" | .ge => ">=" | .eq => "==" | .ne => "!="
def binO (o : Op) (a b : Int) : Rs := match o with
  | .add => bnd (a + b)
  | .sub => bnd (a - b)
  | .mul => bnd (a * b)
  | .div => if b = 0 then .err "ZeroDivisionError" "division by zero" else bnd (Int.fdiv a b)
  | .mod => if b = 0 then .err "ZeroDivisionError" "division by zero" else .val (.int (a - b * Int.fdiv a b))
  | .lt => .val (.bl (decide (a < b)))
  | .le => .val (.bl (decide (a ≤ b)))
  | .gt => .val (.bl (decide (b < a)))
  | .ge => .val (.bl (decide (b ≤ a)))
  | .eq => .val (.bl (decide (a = b)))
  | .ne => .val (.bl (!decide (a = b)))
def Fit (a : Int) : Prop := -big_GREATEST < a ∧ a < big_GREATEST
theorem G_small : big_GREATEST.natAbs < 2 ^ 1000 := by decide +kernel
theorem Fit.nat {a : Int} (h : Fit a) : a.natAbs < 2 ^ 1000 := by
  have h1 := G_small
  have h2 := h.1
  have h3 := h.2
  have h4 := G_pos
  omega
theorem Fit.mul {a b : Int} (h : Fit a) (h' : Fit b) : IntMulOk a b := (wide_mul h.nat h'.nat (by decide) (by decide) (by decide)).ok
theorem Fit.log {a : Int} (h : Fit a) : a.natAbs.log2 < 9000 := Nat.lt_of_lt_of_le (PySem.Flt.log2_lt_of (by decide) h.nat) (by decide)
theorem fdiv_le (a b : Int) (hb : b ≠ 0) : (Int.fdiv a b).natAbs ≤ a.natAbs := by
  rcases Int.lt_or_lt_of_ne hb with h | h
  · have e : Int.fdiv a b = Int.fdiv (-a) (-b) := by rw [Int.neg_fdiv_neg]
    rw [e, Int.fdiv_eq_ediv_of_nonneg _ (by omega)]
    have := Int.natAbs_ediv_le_natAbs (-a) (-b)
    simpa using this
  · rw [Int.fdiv_eq_ediv_of_nonneg _ (by omega)]
    exact Int.natAbs_ediv_le_natAbs a b
theorem Fit.div {a b : Int} (h : Fit a) (hb : b ≠ 0) : Fit (Int.fdiv a b) := by
  have h1 := fdiv_le a b hb
  unfold Fit at *
  omega
def spIsInt : Sp := fun vs H Q _ => match vs with
  | [.int _] => Q (.bl true) H
  | _ => False
theorem ok_isint (A : At K mg "is_integer" "is_integer" s_is_integer ["value"]) (T : Txt K mg c) : Has P w K mg base CX0 "is_integer" 1 ["value"] spIsInt := by
  have Sc := sc_is_integer
  refine has_of A Sc (fun vs H Q E h => ?_) (fun cdv f A outer s H vs Q E hr h => ?_)
  · unfold spIsInt at h; split at h; rfl; cases h
  · unfold spIsInt at h
    split at h
    · refine ⟨_, (pss_one (ps_ret (pe_and (pe_callB (call_fIsiA T.kit) (by rfl) T.no_isinstance (by decide +kernel) (pa_cons (fe_var 0) (pa_cons (fe_ty (n := "int") (by rfl) T.no_int (by decide +kernel)) pa_nil))) (pe_one (pe_not (pe_callB (call_fIsiA T.kit) (by rfl) T.no_isinstance (by decide +kernel) (pa_cons (fe_var 0) (pa_cons (fe_ty (n := "bool") (by rfl) T.no_bool (by decide +kernel)) pa_nil)))))))), ?_⟩
      walk_at "fx0"
      repeat (walk_at "oxs")
      exact h
    · cases h
def spReck (c : Cs) : Sp := fun vs H Q E => match vs with
  | [.ref _, .str z, .int a, .int b] => ∃ o, z = Op.s o ∧ (match o with | .sub => True | .mul => True | .div => True | .mod => True | _ => False) ∧ Fit a ∧ Fit b ∧ resK c (binO o a b) H Q E
  | _ => False
theorem ok_reck (A : At K mg "reckoned" "reckoned" s_reckoned ["store", "operator", "x", "y"]) (T : Txt K mg c) (TD : TxD w K mg) (H_is_integer : Has P w K mg base CX0 "is_integer" 1 ["value"] spIsInt) (H_bounded : Has P w K mg base (L2.CX P w) "bounded" 3 ["number"] (spBounded c))
    (E_ScriptError : HasE P w K mg base c.ScriptError "ScriptError" 2 (two "kind" "message")) : Has P w K mg base (L2.CX P w) "reckoned" 4 ["store", "operator", "x", "y"] (spReck c) := by
  have Sc := sc_reckoned
  refine hasX_of A Sc (fun vs H Q E h => ?_) (fun cdv f A outer s H vs Q E hr h => ?_)
  · unfold spReck at h; split at h; rfl; cases h
  · unfold spReck at h
    split at h
    · rename_i y z a b
      obtain ⟨o, rfl, ho, fa, fb, h⟩ := h
      refine ⟨_, (pss_cons (ps_if (PW.pt (pw_or (pt_not (pt_val (fe_call H_is_integer (hr.mono (by walk_at "rm")) (by rfl) pass0 (pa_cons (fe_var 2) pa_nil)))) (pw_or1 (pt_not (pt_val (fe_call H_is_integer (hr.mono (by walk_at "rm")) (by rfl) pass0 (pa_cons (fe_var 3) pa_nil))))))) (pss_one (fs_raise rfl tk_of E_ScriptError (by decide) (hr.mono (by walk_at "rm")) (by rfl) (pa_cons pe_str (pa_cons (fe_joined (pf_cons pe_str (pf_cons (fe_fmt (pe_ix ix_fxD (fe_gdict (by rfl) TD.d_VERBS) (fe_var 1) (fun _ _ => rfl))) (pf_cons pe_str (pf_cons (fe_fmt pe_dead) (pf_cons pe_str (pf_cons (fe_fmt pe_dead) PF_nil))))))) pa_nil)))) pss_nil)
      (pss_cons (ps_if (pt_cmpR (op_fEq hr.units) (fe_var 1) pe_str (nomark _)) (pss_one (ps_ret (fe_callX H_bounded (hr.mono (by walk_at "rm")) (by rfl) tk_of (pa_cons (pe_op op_fSub (fe_var 2) (fe_var 3)) pa_nil)))) pss_nil)
      (pss_cons (ps_if (pt_cmpR (op_fEq hr.units) (fe_var 1) pe_str (nomark _)) (pss_one (ps_ret (fe_callX H_bounded (hr.mono (by walk_at "rm")) (by rfl) tk_of (pa_cons (pe_op op_fMul (fe_var 2) (fe_var 3)) pa_nil)))) pss_nil)
      (pss_cons (ps_if (pt_cmpR (op_fEq hr.units) (fe_var 3) pe_int (nomark _)) (pss_one (fs_raise rfl tk_of E_ScriptError (by decide) (hr.mono (by walk_at "rm")) (by rfl) (pa_cons pe_str (pa_cons pe_str pa_nil)))) pss_nil)
      (pss_cons (ps_if (pt_cmpR (op_fEq hr.units) (fe_var 1) pe_str (nomark _)) (pss_one (ps_ret (fe_callX H_bounded (hr.mono (by walk_at "rm")) (by rfl) tk_of (pa_cons (pe_op op_fDivZ (fe_var 2) (fe_var 3)) pa_nil)))) pss_nil)
      (pss_one (ps_ret (pe_op op_fSub (fe_var 2) (pe_op op_fMul (fe_var 3) (pe_op op_fDivZ (fe_var 2) (fe_var 3))))))))))), ?_⟩
      walk_at "fx0"
      repeat (first | walk_at "oxs" | simp only [spIsInt])
      have hm := Fit.mul fa fb
      cases o
      all_goals first
        | exact ho.elim
        | (simp only [Op.s, opne, spBounded, binO] at h ⊢
           repeat (first | walk_at "oxs" | simp only [spBounded, opne])
           first
             | exact h
             | exact ⟨hm, h⟩
             | (split
                · rename_i hz
                  rw [if_pos hz] at h
                  exact h
                · rename_i hz
                  rw [if_neg hz] at h
                  first
                    | exact ⟨⟨hz, fb.log⟩, h⟩
                    | exact ⟨⟨hz, fb.log⟩, Fit.mul fb (fa.div hz), h⟩))
    · cases h
def spAdded (c : Cs) : Sp := fun vs H Q E => match vs with
  | [.ref _, .int a, .int b] => resK c (bnd (a + b)) H Q E
  | _ => False
theorem ok_added (A : At K mg "added" "added" s_added ["store", "x", "y"]) (T : Txt K mg c) (H_is_integer : Has P w K mg base CX0 "is_integer" 1 ["value"] spIsInt) (H_bounded : Has P w K mg base (L2.CX P w) "bounded" 3 ["number"] (spBounded c))
    (E_ScriptError : HasE P w K mg base c.ScriptError "ScriptError" 2 (two "kind" "message")) : Has P w K mg base (L2.CX P w) "added" 4 ["store", "x", "y"] (spAdded c) := by
  have Sc := sc_added
  refine hasX_of A Sc (fun vs H Q E h => ?_) (fun cdv f A outer s H vs Q E hr h => ?_)
  · unfold spAdded at h; split at h; rfl; cases h
  · unfold spAdded at h
    split at h
    · refine ⟨_, (pss_cons (ps_if (PW.pt (pw_and (pt_val (fe_call H_is_integer (hr.mono (by walk_at "rm")) (by rfl) pass0 (pa_cons (fe_var 1) pa_nil))) (pw_and1 (pt_val (fe_call H_is_integer (hr.mono (by walk_at "rm")) (by rfl) pass0 (pa_cons (fe_var 2) pa_nil)))))) (pss_one (ps_ret (fe_callX H_bounded (hr.mono (by walk_at "rm")) (by rfl) tk_of (pa_cons (pe_op op_fAdd (fe_var 1) (fe_var 2)) pa_nil)))) pss_nil)
      (pss_cons (ps_if (PW.pt (pw_and (pt_val (pe_callB (call_fIsiA T.kit) (by rfl) T.no_isinstance (by decide +kernel) (pa_cons (fe_var 1) (pa_cons (fe_ty (n := "str") (by rfl) T.no_str (by decide +kernel)) pa_nil)))) (pw_and1 (pt_val (pe_callB (call_fIsiA T.kit) (by rfl) T.no_isinstance (by decide +kernel) (pa_cons (fe_var 2) (pa_cons (fe_ty (n := "str") (by rfl) T.no_str (by decide +kernel)) pa_nil))))))) (pss_one (ps_ret pe_dead)) pss_nil)
      (pss_cons (ps_set (i := 3) Sc.nd rfl (.inl rfl) pe_dead)
      (pss_cons (ps_set (i := 4) Sc.nd rfl (.inl rfl) pe_dead)
      (pss_cons (ps_if (PW.pt (pw_or (pt_not (pt_val (pe_callB (call_fIsiO T.kit) (by rfl) T.no_isinstance (by decide +kernel) (pa_cons (fe_var 3) (pa_cons (pe_glob (v := .ref c.Parts) (by rfl) T.mg_Parts rfl) pa_nil))))) (pw_or1 (pt_not (pt_val (pe_callB (call_fIsiO T.kit) (by rfl) T.no_isinstance (by decide +kernel) (pa_cons (fe_var 4) (pa_cons (pe_glob (v := .ref c.Parts) (by rfl) T.mg_Parts rfl) pa_nil)))))))) (pss_one (fs_raise rfl tk_of E_ScriptError (by decide) (hr.mono (by walk_at "rm")) (by rfl) (pa_cons pe_str (pa_cons (fe_joined (pf_cons pe_str (pf_cons (fe_fmt pe_dead) (pf_cons pe_str (pf_cons (fe_fmt pe_dead) PF_nil))))) pa_nil)))) pss_nil)
      (pss_one (ps_ret pe_dead))))))), ?_⟩
      walk_at "fx0"
      repeat (first | walk_at "oxs" | simp only [spIsInt, spBounded])
      exact h
    · cases h
def spCompared (c : Cs) : Sp := fun vs H Q E => match vs with
  | [.ref _, .str z, .int a, .int b] => ∃ o, z = Op.s o ∧ (match o with | .lt => True | .le => True | .gt => True | .ge => True | _ => False) ∧ resK c (binO o a b) H Q E
  | _ => False
theorem ok_compared (A : At K mg "compared" "compared" s_compared ["store", "operator", "x", "y"]) (T : Txt K mg c) (H_is_integer : Has P w K mg base CX0 "is_integer" 1 ["value"] spIsInt)
    (E_ScriptError : HasE P w K mg base c.ScriptError "ScriptError" 2 (two "kind" "message")) : Has P w K mg base CX0 "compared" 3 ["store", "operator", "x", "y"] (spCompared c) := by
  have Sc := sc_compared
  refine has_of A Sc (fun vs H Q E h => ?_) (fun cdv f A outer s H vs Q E hr h => ?_)
  · unfold spCompared at h; split at h; rfl; cases h
  · unfold spCompared at h
    split at h
    · obtain ⟨o, rfl, ho, h⟩ := h
      refine ⟨_, (pss_cons (ps_set (i := 4) Sc.nd rfl (.inl rfl) (pe_or (pe_and (fe_call H_is_integer (hr.mono (by walk_at "rm")) (by rfl) pass0 (pa_cons (fe_var 2) pa_nil)) (pe_one (fe_call H_is_integer (hr.mono (by walk_at "rm")) (by rfl) pass0 (pa_cons (fe_var 3) pa_nil)))) (pe_one (pe_and (pe_callB (call_fIsiA T.kit) (by rfl) T.no_isinstance (by decide +kernel) (pa_cons (fe_var 2) (pa_cons (fe_ty (n := "str") (by rfl) T.no_str (by decide +kernel)) pa_nil))) (pe_one (pe_callB (call_fIsiA T.kit) (by rfl) T.no_isinstance (by decide +kernel) (pa_cons (fe_var 3) (pa_cons (fe_ty (n := "str") (by rfl) T.no_str (by decide +kernel)) pa_nil))))))))
      (pss_cons (ps_if (pt_not (pt_val (fe_var 4))) (pss_one (fs_raise rfl takes0 E_ScriptError (by decide) (hr.mono (by walk_at "rm")) (by rfl) (pa_cons pe_str (pa_cons (fe_joined (pf_cons pe_str (pf_cons (fe_fmt pe_dead) (pf_cons pe_str (pf_cons (fe_fmt pe_dead) PF_nil))))) pa_nil)))) pss_nil)
      (pss_cons (ps_if (pt_cmpR (op_fEq hr.units) (fe_var 1) pe_str (nomark _)) (pss_one (ps_ret (pe_cmpR op_fLt (fe_var 2) (fe_var 3) (nomark _)))) pss_nil)
      (pss_cons (ps_if (pt_cmpR (op_fEq hr.units) (fe_var 1) pe_str (nomark _)) (pss_one (ps_ret (pe_cmpR op_fLe (fe_var 2) (fe_var 3) (nomark _)))) pss_nil)
      (pss_cons (ps_if (pt_cmpR (op_fEq hr.units) (fe_var 1) pe_str (nomark _)) (pss_one (ps_ret (pe_cmpR op_fGt (fe_var 2) (fe_var 3) (nomark _)))) pss_nil)
      (pss_one (ps_ret (pe_cmpR op_fGe (fe_var 2) (fe_var 3) (nomark _))))))))), ?_⟩
      walk_at "fx0"
      cases o
      all_goals first
        | exact ho.elim
        | (simp only [Op.s, opne, spIsInt, binO] at h ⊢
           repeat (first | walk_at "oxs" | simp only [spIsInt, opne])
           exact h)
    · cases h
def spEqI : Sp := fun vs H Q _ => match vs with
  | [.int a, .int b] => Q (.bl (decide (a = b))) H
  | _ => False
theorem ok_equal (A : At K mg "equal" "equal" s_equal ["x", "y"]) (T : Txt K mg c) : Has P w K mg base CX0 "equal" 1 ["x", "y"] spEqI := by
  have Sc := sc_equal
  refine has_of A Sc (fun vs H Q E h => ?_) (fun cdv f A outer s H vs Q E hr h => ?_)
  · unfold spEqI at h; split at h; rfl; cases h
  · unfold spEqI at h
    split at h
    · refine ⟨_, (pss_cons (ps_if (PW.pt (pw_or (pt_cmpR op_fIsN (fe_var 0) pe_non (nomark _)) (pw_or1 (pt_cmpR op_fIsN (fe_var 1) pe_non (nomark _))))) (pss_one (ps_ret (pe_and (pe_cmpR op_fIsN (fe_var 0) pe_non (nomark _)) (pe_one (pe_cmpR op_fIsN (fe_var 1) pe_non (nomark _)))))) pss_nil)
      (pss_cons (ps_if (PW.pt (pw_or (pt_val (pe_callB (call_fIsiA T.kit) (by rfl) T.no_isinstance (by decide +kernel) (pa_cons (fe_var 0) (pa_cons (fe_ty (n := "bool") (by rfl) T.no_bool (by decide +kernel)) pa_nil)))) (pw_or1 (pt_val (pe_callB (call_fIsiA T.kit) (by rfl) T.no_isinstance (by decide +kernel) (pa_cons (fe_var 1) (pa_cons (fe_ty (n := "bool") (by rfl) T.no_bool (by decide +kernel)) pa_nil))))))) (pss_one (ps_ret (pe_and (pe_callB (call_fIsiA T.kit) (by rfl) T.no_isinstance (by decide +kernel) (pa_cons (fe_var 0) (pa_cons (fe_ty (n := "bool") (by rfl) T.no_bool (by decide +kernel)) pa_nil))) (pe_and (pe_callB (call_fIsiA T.kit) (by rfl) T.no_isinstance (by decide +kernel) (pa_cons (fe_var 1) (pa_cons (fe_ty (n := "bool") (by rfl) T.no_bool (by decide +kernel)) pa_nil))) (pe_one (pe_cmpR (op_fEq hr.units) (fe_var 0) (fe_var 1) (nomark _))))))) pss_nil)
      (pss_cons (ps_if (PW.pt (pw_or (pt_val (pe_callB (call_fIsiO T.kit) (by rfl) T.no_isinstance (by decide +kernel) (pa_cons (fe_var 0) (pa_cons (pe_glob (v := .ref c.Ref) (by rfl) T.mg_Ref rfl) pa_nil)))) (pw_or1 (pt_val (pe_callB (call_fIsiO T.kit) (by rfl) T.no_isinstance (by decide +kernel) (pa_cons (fe_var 1) (pa_cons (pe_glob (v := .ref c.Ref) (by rfl) T.mg_Ref rfl) pa_nil))))))) (pss_one (ps_ret (pe_and (pe_callB (call_fIsiO T.kit) (by rfl) T.no_isinstance (by decide +kernel) (pa_cons (fe_var 0) (pa_cons (pe_glob (v := .ref c.Ref) (by rfl) T.mg_Ref rfl) pa_nil))) (pe_and (pe_callB (call_fIsiO T.kit) (by rfl) T.no_isinstance (by decide +kernel) (pa_cons (fe_var 1) (pa_cons (pe_glob (v := .ref c.Ref) (by rfl) T.mg_Ref rfl) pa_nil))) (pe_one (pe_cmpR (op_fEq hr.units) (fe_fld (fe_var 0) T.pl_number rfl) (fe_fld (fe_var 1) T.pl_number rfl) (nomark _))))))) pss_nil)
      (pss_cons (ps_if (PW.pt (pw_or (pt_val (pe_callB (call_fIsiO T.kit) (by rfl) T.no_isinstance (by decide +kernel) (pa_cons (fe_var 0) (pa_cons (pe_glob (v := .ref c.Builtin) (by rfl) T.mg_Builtin rfl) pa_nil)))) (pw_or1 (pt_val (pe_callB (call_fIsiO T.kit) (by rfl) T.no_isinstance (by decide +kernel) (pa_cons (fe_var 1) (pa_cons (pe_glob (v := .ref c.Builtin) (by rfl) T.mg_Builtin rfl) pa_nil))))))) (pss_one (ps_ret (pe_and (pe_callB (call_fIsiO T.kit) (by rfl) T.no_isinstance (by decide +kernel) (pa_cons (fe_var 0) (pa_cons (pe_glob (v := .ref c.Builtin) (by rfl) T.mg_Builtin rfl) pa_nil))) (pe_and (pe_callB (call_fIsiO T.kit) (by rfl) T.no_isinstance (by decide +kernel) (pa_cons (fe_var 1) (pa_cons (pe_glob (v := .ref c.Builtin) (by rfl) T.mg_Builtin rfl) pa_nil))) (pe_one (pe_cmpR (op_fEq hr.units) (fe_fld (fe_var 0) T.pl_name rfl) (fe_fld (fe_var 1) T.pl_name rfl) (nomark _))))))) pss_nil)
      (pss_one (ps_ret (pe_cmpR (op_fEq hr.units) (fe_var 0) (fe_var 1) (nomark _)))))))), ?_⟩
      walk_at "fx0"
      repeat (walk_at "oxs")
      exact h
    · cases h
def spBinary (c : Cs) : Sp := fun vs H Q E => match vs with
  | [.ref _, .str z, .int a, .int b] => ∃ o, z = Op.s o ∧ Fit a ∧ Fit b ∧ resK c (binO o a b) H Q E
  | _ => False
theorem ok_binary (A : At K mg "binary" "binary" s_binary ["store", "operator", "x", "y"]) (T : Txt K mg c) (TD : TxD w K mg) (H_equal : Has P w K mg base CX0 "equal" 1 ["x", "y"] spEqI) (H_added : Has P w K mg base (L2.CX P w) "added" 4 ["store", "x", "y"] (spAdded c))
    (H_reckoned : Has P w K mg base (L2.CX P w) "reckoned" 4 ["store", "operator", "x", "y"] (spReck c)) (H_compared : Has P w K mg base CX0 "compared" 3 ["store", "operator", "x", "y"] (spCompared c)) : Has P w K mg base (L2.CX P w) "binary" 5 ["store", "operator", "x", "y"] (spBinary c) := by
  have Sc := sc_binary
  refine hasX_of A Sc (fun vs H Q E h => ?_) (fun cdv f A outer s H vs Q E hr h => ?_)
  · unfold spBinary at h; split at h; rfl; cases h
  · unfold spBinary at h
    split at h
    · obtain ⟨o, rfl, fa, fb, h⟩ := h
      refine ⟨_, (pss_cons (ps_if (pt_cmpR (op_fEq hr.units) (fe_var 1) pe_str (nomark _)) (pss_one (ps_ret (fe_call H_equal (hr.mono (by walk_at "rm")) (by rfl) pass0 (pa_cons (fe_var 2) (pa_cons (fe_var 3) pa_nil))))) pss_nil)
      (pss_cons (ps_if (pt_cmpR (op_fEq hr.units) (fe_var 1) pe_str (nomark _)) (pss_one (ps_ret (pe_not (fe_call H_equal (hr.mono (by walk_at "rm")) (by rfl) pass0 (pa_cons (fe_var 2) (pa_cons (fe_var 3) pa_nil)))))) pss_nil)
      (pss_cons (ps_if (pt_cmpR (op_fEq hr.units) (fe_var 1) pe_str (nomark _)) (pss_one (ps_ret pe_dead)) pss_nil)
      (pss_cons (ps_if (pt_cmpR (op_fEq hr.units) (fe_var 1) pe_str (nomark _)) (pss_one (ps_ret (fe_callX H_added (hr.mono (by walk_at "rm")) (by rfl) tk_of (pa_cons (fe_var 0) (pa_cons (fe_var 2) (pa_cons (fe_var 3) pa_nil)))))) pss_nil)
      (pss_cons (ps_if (pt_cmpR op_fInD (fe_var 1) (fe_gdict (by rfl) TD.d_VERBS) (by with_unfolding_all rfl)) (pss_one (ps_ret (fe_callX H_reckoned (hr.mono (by walk_at "rm")) (by rfl) tk_of (pa_cons (fe_var 0) (pa_cons (fe_var 1) (pa_cons (fe_var 2) (pa_cons (fe_var 3) pa_nil))))))) pss_nil)
      (pss_one (ps_ret (fe_call H_compared (hr.mono (by walk_at "rm")) (by rfl) pass0 (pa_cons (fe_var 0) (pa_cons (fe_var 1) (pa_cons (fe_var 2) (pa_cons (fe_var 3) pa_nil)))))))))))), ?_⟩
      walk_at "fx0"
      cases o
      all_goals
        simp only [Op.s, opne]
        repeat (first | walk_at "oxs" | simp only [spEqI, spAdded, opne])
        first
          | exact h
          | (intro d D
             refine ⟨_, D, _, rfl, ?_⟩
             repeat (first | walk_at "oxs")
             first
               | exact ⟨.sub, rfl, trivial, fa, fb, h⟩
               | exact ⟨.mul, rfl, trivial, fa, fb, h⟩
               | exact ⟨.div, rfl, trivial, fa, fb, h⟩
               | exact ⟨.mod, rfl, trivial, fa, fb, h⟩
               | exact ⟨.lt, rfl, trivial, h⟩
               | exact ⟨.le, rfl, trivial, h⟩
               | exact ⟨.gt, rfl, trivial, h⟩
               | exact ⟨.ge, rfl, trivial, h⟩)
    · cases h
def spUnary : Sp := fun vs H Q _ => match vs with
  | [.ref _, .str z, .int a] => (z = "not" ∧ Q (.bl false) H) ∨ (z = "-" ∧ Q (.int (-a)) H)
  | _ => False
def spTrue : Sp := fun vs H Q _ => match vs with
  | [.int _] => Q (.bl true) H
  | _ => False
theorem ok_true (A : At K mg "is_true" "is_true" s_is_true ["value"]) (T : Txt K mg c) : Has P w K mg base CX0 "is_true" 1 ["value"] spTrue := by
  have Sc := sc_is_true
  refine has_of A Sc (fun vs H Q E h => ?_) (fun cdv f A outer s H vs Q E hr h => ?_)
  · unfold spTrue at h; split at h; rfl; cases h
  · unfold spTrue at h
    split at h
    · refine ⟨_, (pss_one (ps_ret (pe_and (pe_cmpR op_fNotN (fe_var 0) pe_non (nomark _)) (pe_one (pe_cmpR op_fNotB (fe_var 0) pe_bl (nomark _)))))), ?_⟩
      walk_at "fx0"
      repeat (walk_at "oxs")
      exact h
    · cases h
theorem ok_unary (A : At K mg "unary" "unary" s_unary ["store", "operator", "x"]) (T : Txt K mg c) (H_is_true : Has P w K mg base CX0 "is_true" 1 ["value"] spTrue) (H_is_integer : Has P w K mg base CX0 "is_integer" 1 ["value"] spIsInt)
    (E_ScriptError : HasE P w K mg base c.ScriptError "ScriptError" 2 (two "kind" "message")) : Has P w K mg base CX0 "unary" 3 ["store", "operator", "x"] spUnary := by
  have Sc := sc_unary
  refine has_of A Sc (fun vs H Q E h => ?_) (fun cdv f A outer s H vs Q E hr h => ?_)
  · unfold spUnary at h; split at h; rfl; cases h
  · unfold spUnary at h
    split at h
    · refine ⟨_, (pss_cons (ps_if (pt_cmpR (op_fEq hr.units) (fe_var 1) pe_str (nomark _)) (pss_one (ps_ret (pe_not (fe_call H_is_true (hr.mono (by walk_at "rm")) (by rfl) pass0 (pa_cons (fe_var 2) pa_nil))))) pss_nil)
      (pss_cons (ps_if (pt_not (pt_val (fe_call H_is_integer (hr.mono (by walk_at "rm")) (by rfl) pass0 (pa_cons (fe_var 2) pa_nil)))) (pss_one (fs_raise rfl takes0 E_ScriptError (by decide) (hr.mono (by walk_at "rm")) (by rfl) (pa_cons pe_str (pa_cons (fe_joined (pf_cons pe_str (pf_cons (fe_fmt pe_dead) PF_nil))) pa_nil)))) pss_nil)
      (pss_one (ps_ret (pe_un un_fNeg (fe_var 2)))))), ?_⟩
      walk_at "fx0"
      rcases h with ⟨rfl, h⟩ | ⟨rfl, h⟩
      all_goals
        repeat (first | walk_at "oxs" | simp only [spTrue, spIsInt, opne])
        exact h
    · cases h
end

section
variable {P : Program} {w : World} {K : PySem.W.Frag} {mg : Str → Option Value} {base : Heap} {c : Cs}
def spGreat : Sp := fun vs H Q _ => match vs with
  | [] => Q (.int big_GREATEST) H
  | _ => False
def Great (i : Nat) (σ : L2.St) (H : Hp) (H0 : Hp) : Prop := H = H0 ∧ ∃ v, σ = [some (.int (10 ^ (30 * i))), v]
theorem great_mul {i : Nat} (h : i < 10) : IntMulOk ((10 : Int) ^ (30 * i)) 1000000000000000000000000000000 ∧ (10 : Int) ^ (30 * i) * 1000000000000000000000000000000 = 10 ^ (30 * (i + 1)) := by
  have : i = 0 ∨ i = 1 ∨ i = 2 ∨ i = 3 ∨ i = 4 ∨ i = 5 ∨ i = 6 ∨ i = 7 ∨ i = 8 ∨ i = 9 := by omega
  rcases this with rfl | rfl | rfl | rfl | rfl | rfl | rfl | rfl | rfl | rfl <;> exact ⟨(wide_mul (a := 1000) (b := 100) (by decide +kernel) (by decide +kernel) (by decide) (by decide) (by decide)).ok, by decide +kernel⟩
theorem ok_great (A : At K mg "_law_greatest" "_law_greatest" s_law_greatest []) (T : Txt K mg c) : Has P w K mg base CX0 "_law_greatest" 1 [] spGreat := by
  have Sc := sc_law_greatest
  refine has_of A Sc (fun vs H Q E h => ?_) (fun cdv f A outer s H vs Q E hr h => ?_)
  · unfold spGreat at h; split at h; rfl; cases h
  · unfold spGreat at h
    split at h
    · refine ⟨_, (pss_cons (ps_set (i := 0) Sc.nd rfl (.inl rfl) pe_int)
      (pss_cons (ps_for PassesOwn.never rfl (pi_range1 (by rfl) T.no_range (pa_cons pe_int pa_nil)) (pg_name (i := 1) Sc.nd rfl (.inl rfl)) (pss_one (ps_set (i := 0) Sc.nd rfl (.inl rfl) (pe_op op_fMul (fe_var 0) pe_int))))
      (pss_one (ps_ret (fe_var 0))))), ?_⟩
      walk_at "fx0"
      walk_at "ox"
      refine cut_ fun N hN => for_ ?_
      walk_at "ox"
      refine ⟨by decide, by decide, ?_⟩
      refine loop_range (fun i σ H' => Great i σ H' H) ⟨rfl, none, rfl⟩ ?_ ?_
      · rintro i σ H' hi ⟨rfl, v, rfl⟩
        obtain ⟨h1, h2⟩ := great_mul (i := i) (by omega)
        walk_at "ox"
        refine ⟨h1, ?_⟩
        rw [h2]
        exact ⟨rfl, _, rfl⟩
      · rintro σ H' ⟨rfl, v, rfl⟩
        refine hN _ _ ?_
        walk_at "ox"
        rw [G_val] at h
        exact h
    · cases h
def spNum (K : PySem.W.Frag) : Sp := fun vs H Q _ => match vs with
  | [.ref s] => ∃ H0 sc ns, Dr K H0 s sc ns H ∧ ∀ H1 n, Keep [s] H H1 → Dr K H0 s sc ns H1 → Fit n → Q (.int n) H1
  | _ => False
theorem pow20 {n d : Int} {i : Nat} (h : i < 15) (h0 : 0 ≤ n) (h1 : n < 10 ^ (20 * (i + 1))) (d0 : 0 ≤ d) (d1 : d < 100000000000000000000) :
    IntMulOk n 100000000000000000000 ∧ 0 ≤ n * 100000000000000000000 + d ∧ n * 100000000000000000000 + d < 10 ^ (20 * (i + 1 + 1)) := by
  have e : (10 : Int) ^ (20 * (i + 1 + 1)) = 10 ^ (20 * (i + 1)) * 100000000000000000000 := by
    rw [show 20 * (i + 1 + 1) = 20 * (i + 1) + 20 by omega, Int.pow_add]
    rfl
  have b : (10 : Int) ^ (20 * (i + 1)) ≤ 10 ^ 300 := by
    have : i = 0 ∨ i = 1 ∨ i = 2 ∨ i = 3 ∨ i = 4 ∨ i = 5 ∨ i = 6 ∨ i = 7 ∨ i = 8 ∨ i = 9 ∨ i = 10 ∨ i = 11 ∨ i = 12 ∨ i = 13 ∨ i = 14 := by omega
    rcases this with rfl | rfl | rfl | rfl | rfl | rfl | rfl | rfl | rfl | rfl | rfl | rfl | rfl | rfl | rfl <;> decide +kernel
  have b2 : ((10 : Int) ^ 300).natAbs < 2 ^ 1000 := by decide +kernel
  generalize (10 : Int) ^ 300 = g at b b2
  generalize (10 : Int) ^ (20 * (i + 1)) = p at e b h1
  refine ⟨(wide_mul (a := 1000) (b := 100) (by omega) (by decide +kernel) (by decide) (by decide) (by decide)).ok, by omega, by rw [e]; omega⟩
def NumI (K : PySem.W.Frag) (H0 H : Hp) (s sc : Addr) (ns : List Int) (k : V) (i : Nat) (σ : L2.St) (H' : Hp) : Prop := Keep [s] H H' ∧ Dr K H0 s sc ns H' ∧ ∃ n v, σ = [some (.ref s), some k, some (.int n), v] ∧ 0 ≤ n ∧ n < 10 ^ (20 * (i + 1))
set_option maxHeartbeats 4000000 in
theorem ok_num (A : At K mg "_law_number" "_law_number" s_law_number ["state"]) (T : Txt K mg c) (H_law_draw : Has P w K mg base CX0 "_law_draw" 2 ["state", "many"] (spDraw K)) (H_law_greatest : Has P w K mg base CX0 "_law_greatest" 1 [] spGreat) : Has P w K mg base CX0 "_law_number" 3 ["state"] (spNum K) := by
  have Sc := sc_law_number
  refine has_of A Sc (fun vs H Q E h => ?_) (fun cdv f A outer s H vs Q E hr h => ?_)
  · unfold spNum at h; split at h; rfl; cases h
  · unfold spNum at h
    split at h
    · rename_i s
      obtain ⟨H0, sc, ns, D, h⟩ := h
      refine ⟨_, (pss_cons (ps_set (i := 1) Sc.nd rfl (.inl rfl) (fe_call H_law_draw (hr.mono (by walk_at "rm")) (by rfl) pass0 (pa_cons (fe_var 0) (pa_cons pe_int pa_nil))))
      (pss_cons (ps_set (i := 2) Sc.nd rfl (.inl rfl) (fe_call H_law_draw (hr.mono (by walk_at "rm")) (by rfl) pass0 (pa_cons (fe_var 0) (pa_cons pe_int pa_nil))))
      (pss_cons (ps_if (pt_cmpR (op_fEq hr.units) (fe_var 1) pe_int (nomark _)) (pss_one (ps_set (i := 2) Sc.nd rfl (.inl rfl) (pe_op op_fSub (pe_op op_fSub (fe_call0 H_law_greatest (hr.mono (by walk_at "rm")) (by rfl) pass0) pe_int) (fe_call H_law_draw (hr.mono (by walk_at "rm")) (by rfl) pass0 (pa_cons (fe_var 0) (pa_cons pe_int pa_nil)))))) (pss_one (ps_if (pt_cmpR (op_fEq hr.units) (fe_var 1) pe_int (nomark _)) (pss_cons (ps_for PassesOwn.never rfl (pi_range1 (by rfl) T.no_range (pa_cons (pe_op op_fAdd pe_int (fe_call H_law_draw (hr.mono (by walk_at "rm")) (by rfl) pass0 (pa_cons (fe_var 0) (pa_cons pe_int pa_nil)))) pa_nil)) (pg_name (i := 3) Sc.nd rfl (.inl rfl)) (pss_one (ps_set (i := 2) Sc.nd rfl (.inl rfl) (pe_op op_fAdd (pe_op op_fMul (fe_var 2) pe_int) (fe_call H_law_draw (hr.mono (by walk_at "rm")) (by rfl) pass0 (pa_cons (fe_var 0) (pa_cons pe_int pa_nil)))))))
      (pss_one (ps_set (i := 2) Sc.nd rfl (.inl rfl) (pe_op op_fMod (pe_callTy call_fInt (by rfl) T.no_int (by decide +kernel) (pa_cons (fe_var 2) pa_nil)) (fe_call0 H_law_greatest (hr.mono (by walk_at "rm")) (by rfl) pass0))))) (pss_one (ps_if (pt_cmpR (op_fEq hr.units) (fe_var 1) pe_int (nomark _)) (pss_one (ps_set (i := 2) Sc.nd rfl (.inl rfl) (fe_call H_law_draw (hr.mono (by walk_at "rm")) (by rfl) pass0 (pa_cons (fe_var 0) (pa_cons pe_int pa_nil))))) (pss_one (ps_if (pt_cmpR (op_fEq hr.units) (fe_var 1) pe_int (nomark _)) (pss_one (ps_set (i := 2) Sc.nd rfl (.inl rfl) pe_int)) pss_nil)))))))
      (pss_cons (ps_if (pt_cmpR (op_fEq hr.units) (fe_call H_law_draw (hr.mono (by walk_at "rm")) (by rfl) pass0 (pa_cons (fe_var 0) (pa_cons pe_int pa_nil))) pe_int (nomark _)) (pss_one (ps_set (i := 2) Sc.nd rfl (.inl rfl) (pe_un un_fNeg (fe_var 2)))) pss_nil)
      (pss_one (ps_ret (fe_var 2))))))), ?_⟩
      have hG := G_pos
      walk_at "fx0"
      walk_at "ox"
      refine ⟨H0, sc, ns, D, by omega, by omega, fun H1 k k1 D1 k0 kk => ?_⟩
      walk_at "ox"
      refine ⟨H0, sc, ns, D1, by omega, by omega, fun H2 n k2 D2 n0 nn => ?_⟩
      walk_at "ox"
      have k12 := k1.trans k2
      refine cut_ fun N hN => ifs_ ?_
      have fin : ∀ (n : Int) (v : Option V) (H3 : Hp), Fit n → Keep [s] H H3 → Dr K H0 s sc ns H3 → N [some (.ref s), some (.int k), some (.int n), v] H3 := by
        intro n v H3 fn k3 D3
        refine hN _ _ ?_
        walk_at "ox"
        refine cut_ fun N hN => ifs_ ?_
        walk_at "ox"
        refine ⟨H0, sc, ns, D3, by omega, by omega, fun H4 d k4 D4 d0 dd => ?_⟩
        walk_at "ox"
        split
        · refine hN _ _ ?_
          walk_at "ox"
          exact h _ _ (k3.trans k4) D4 (by unfold Fit at *; omega)
        · refine hN _ _ ?_
          walk_at "ox"
          exact h _ _ (k3.trans k4) D4 fn
      walk_at "ox"
      split
      · walk_at "ox"
        refine ⟨H0, sc, ns, D2, by omega, by omega, fun H4 d k4 D4 d0 dd => ?_⟩
        walk_at "ox"
        exact fin _ _ _ (by unfold Fit at *; omega) (k12.trans k4) D4
      · refine ifs_ ?_
        walk_at "ox"
        split
        · refine cut_ fun N2 hN2 => for_ ?_
          walk_at "ox"
          refine ⟨H0, sc, ns, D2, by omega, by omega, fun H4 d k4 D4 d0 dd => ?_⟩
          walk_at "ox"
          refine ⟨by omega, by omega, ?_⟩
          refine loop_range (NumI K H0 H s sc ns (.int k)) ⟨k12.trans k4, D4, n, none, rfl, n0, by omega⟩ ?_ ?_
          · rintro i σ H5 hi ⟨k5, D5, m, v, rfl, m0, m1⟩
            walk_at "ox"
            obtain ⟨p1, p2, p3⟩ := pow20 (d := 0) (by omega) m0 m1 (by omega) (by omega)
            refine ⟨p1, H0, sc, ns, D5, by omega, by omega, fun H6 d k6 D6 d0 dd => ?_⟩
            walk_at "ox"
            obtain ⟨p1, p2, p3⟩ := pow20 (d := d) (by omega) m0 m1 d0 dd
            exact ⟨k5.trans k6, D6, _, _, rfl, p2, p3⟩
          · rintro σ H5 ⟨k5, D5, m, v, rfl, m0, m1⟩
            refine hN2 _ _ ?_
            walk_at "ox"
            refine ⟨by omega, ?_⟩
            have g0 := emod_lo m (m := big_GREATEST) (by omega)
            have g1 := emod_hi m (m := big_GREATEST) (by omega)
            exact fin _ _ _ (by unfold Fit; omega) k5 D5
        · refine ifs_ ?_
          walk_at "ox"
          split
          · refine ⟨H0, sc, ns, D2, by omega, by omega, fun H4 d k4 D4 d0 dd => ?_⟩
            exact fin _ _ _ (by unfold Fit; omega) (k12.trans k4) D4
          · refine ifs_ ?_
            walk_at "ox"
            split
            · exact fin _ _ _ (by unfold Fit; omega) k12 D2
            · exact fin _ _ _ (by unfold Fit; omega) k12 D2
    · cases h
end

section
variable {P : Program} {w : World} {K : PySem.W.Frag} {mg : Str → Option Value} {base : Heap} {c : Cs}
def spLInt : Sp := fun vs H Q _ => match vs with
  | [.int _] => Q (.bl true) H
  | _ => False
theorem ok_lint (A : At K mg "_law_is_integer" "_law_is_integer" s_law_is_integer ["told"]) (T : Txt K mg c) : Has P w K mg base CX0 "_law_is_integer" 1 ["told"] spLInt := by
  have Sc := sc_law_is_integer
  refine has_of A Sc (fun vs H Q E h => ?_) (fun cdv f A outer s H vs Q E hr h => ?_)
  · unfold spLInt at h; split at h; rfl; cases h
  · unfold spLInt at h
    split at h
    · refine ⟨_, (pss_one (ps_ret (pe_and (pe_callB (call_fIsiA T.kit) (by rfl) T.no_isinstance (by decide +kernel) (pa_cons (fe_var 0) (pa_cons (fe_ty (n := "int") (by rfl) T.no_int (by decide +kernel)) pa_nil))) (pe_one (pe_not (pe_callB (call_fIsiA T.kit) (by rfl) T.no_isinstance (by decide +kernel) (pa_cons (fe_var 0) (pa_cons (fe_ty (n := "bool") (by rfl) T.no_bool (by decide +kernel)) pa_nil)))))))), ?_⟩
      walk_at "fx0"
      repeat (walk_at "oxs")
      exact h
    · cases h
def tupR : Rs → List V
  | .val v => [.str "told", v]
  | .err k m => [.str "raised", .str k, .str m]
def newT (xs : List V) (H : Hp) (Q : VK) : Prop := ∀ p H1, H p = none → Same H H1 → H1 p = some (.tup xs) → Q (.ref p) H1
def spTold : Sp := fun vs H Q _ => match vs with
  | [.str z, .int a, .int b] => ∃ o, z = Op.s o ∧ Fit a ∧ Fit b ∧ newT (tupR (binO o a b)) H Q
  | _ => False
set_option maxHeartbeats 4000000 in
theorem ok_told (A : At K mg "_law_told" "_law_told" s_law_told ["operator", "x", "y"]) (T : Txt K mg c) (M_Store : HasC P w K mg base CX0 c.Store "Store" 3 ["self", "lines"] (spStore K c)) (H_binary : Has P w K mg base (L2.CX P w) "binary" 5 ["store", "operator", "x", "y"] (spBinary c)) : Has P w K mg base CX0 "_law_told" 6 ["operator", "x", "y"] spTold := by
  have Sc := sc_law_told
  refine has_of A Sc (fun vs H Q E h => ?_) (fun cdv f A outer s H vs Q E hr h => ?_)
  · unfold spTold at h; split at h; rfl; cases h
  · unfold spTold at h
    split at h
    · rename_i z a b
      obtain ⟨o, rfl, fa, fb, h⟩ := h
      refine ⟨_, (pss_cons (ps_set (i := 3) Sc.nd rfl (.inl rfl) (fe_make (k := _) M_Store (hr.mono (by walk_at "rm")) (by rfl) pass0 (pa_cons (fe_lst pa_nil) pa_nil)))
      (pss_cons (ps_try_as (i := 5) rfl rfl Sc.nd rfl rfl ⟨by rfl, by decide, .inl T.mg_ScriptError⟩ takes0
      (fun W0 _ _ tk0 _ => (pss_one (ps_set (i := 4) Sc.nd rfl (.inl rfl) (fe_callX H_binary (hr.mono (by walk_at "rm")) (by rfl) tk0 (pa_cons (fe_var 3) (pa_cons (fe_var 0) (pa_cons (fe_var 1) (pa_cons (fe_var 2) pa_nil))))))))
      (fun a0 oe0 cls0 d0 pn0 hz0 hf0 => (pss_cons (ps_if (PW.pt (pw_or (pt_not (pt_val (pe_callB (call_fIsE T.xf T.ob hz0 hf0) (by rfl) T.no_isinstance (by decide +kernel) (pa_cons (fe_var 5) (pa_cons (pe_glob (v := .ref c.LivequillError) (by rfl) T.mg_LivequillError rfl) pa_nil))))) (pw_or1 (pt_val (pe_callB (call_fIsE T.xf T.ob hz0 hf0) (by rfl) T.no_isinstance (by decide +kernel) (pa_cons (fe_var 5) (pa_cons (pe_glob (v := .ref c.Waiting) (by rfl) T.mg_Waiting rfl) pa_nil))))))) (pss_one (ps_ret (fe_tup (pa_cons pe_str pa_nil)))) pss_nil)
      (pss_one (ps_ret (fe_tup (pa_cons pe_str (pa_cons (fe_xf T.xpl_kind hz0 hf0 (fe_var 5) rfl) (pa_cons (fe_xf T.xpl_message hz0 hf0 (fe_var 5) rfl) pa_nil)))))))))
      (pss_cons (ps_if (PW.pt (pw_or (pt_cmpR (op_fNe hr.units) (pe_callB call_fLen (by rfl) T.no_len (by decide +kernel) (pa_cons (fe_fld (fe_var 3) T.pl_things rfl) pa_nil)) pe_int (nomark _)) (pw_or1 (pt_cmpR (op_fNe hr.units) (pe_callB call_fLen (by rfl) T.no_len (by decide +kernel) (pa_cons (fe_fld (fe_var 3) T.pl_output rfl) pa_nil)) pe_int (nomark _))))) (pss_one (ps_ret (fe_tup (pa_cons pe_str pa_nil)))) pss_nil)
      (pss_one (ps_ret (fe_tup (pa_cons pe_str (pa_cons (fe_var 4) pa_nil)))))))), ?_⟩
      walk_at "fx0"
      walk_at "ox"
      intro p H1 np sp ep
      refine ⟨_, rl_l ep, ?_⟩
      intro y tl ol ll k md H2 St
      obtain ⟨dx, ey⟩ := St.ey
      walk_at "ox"
      refine ⟨o, rfl, fa, fb, ?_⟩
      revert h
      generalize binO o a b = r
      intro h
      cases r with
      | val v =>
        unfold resK
        walk_at "ox"
        repeat (first | walk_at "oxs" | simp only [ey])
        refine ⟨_, rl_l St.et, ?_⟩
        repeat (first | walk_at "oxs" | simp only [ey])
        refine ⟨_, rl_l St.eo, ?_⟩
        repeat (first | walk_at "oxs" | simp only [ey])
        exact fun p' H' np' s' e' => h p' H' ((sp.trans St.sm).free np') ((sp.trans St.sm).trans s') e'
      | err k m =>
        unfold resK Out
        intro d H3 nd s3 ed
        unfold WE wAs
        refine ⟨_, T.em_ScriptError_ScriptError, fun _ a0 na0 => ?_, fun z => by cases z⟩
        repeat (first | walk_at "oxs" | simp only [ed])
        refine ⟨_, T.ko_ScriptError_LivequillError, ?_⟩
        rw [if_neg (by decide)]
        refine ⟨_, T.ko_ScriptError_Waiting, ?_⟩
        rw [if_neg (by decide)]
        repeat (first | walk_at "oxs" | simp only [ed])
        exact fun p' H' np' s' e' => h p' H' (((sp.trans St.sm).trans s3).free np') (((sp.trans St.sm).trans s3).trans s') e'
    · cases h
theorem fmod_fit {a b : Int} (hb : b ≠ 0) (fb : Fit b) : Fit (a - b * Int.fdiv a b) := by
  have e : a - b * Int.fdiv a b = Int.fmod a b := by
    have := Int.mul_fdiv_add_fmod a b
    omega
  rw [e]
  unfold Fit at *
  rcases Int.lt_or_lt_of_ne hb with h | h
  · have h1 : Int.fmod a b = - Int.fmod (-a) (-b) := by rw [Int.neg_fmod_neg]; omega
    have h2 := Int.fmod_nonneg_of_pos (-a) (b := -b) (by omega)
    have h3 := Int.fmod_lt_of_pos (-a) (b := -b) (by omega)
    omega
  · have h2 := Int.fmod_nonneg_of_pos a (b := b) (by omega)
    have h3 := Int.fmod_lt_of_pos a (b := b) (by omega)
    omega
def spDue : Sp := fun vs H Q _ => match vs with
  | [.str z, .int a, .int b] => ∃ o, z = Op.s o ∧ (match o with | .add => True | .sub => True | .mul => True | .div => True | .mod => True | _ => False) ∧ Fit a ∧ Fit b ∧ newT (tupR (binO o a b)) H Q
  | _ => False
theorem in_div (o : Op) : inV (.str o.s) [.str "/", .str "mod"] = (match o with | .div => true | .mod => true | _ => false) := by cases o <;> decide +kernel
theorem due_end {r : Int} {H1 : Hp} {Q : VK} (h : newT (tupR (bnd r)) H1 Q) : if -big_GREATEST < r then (if ¬ r < big_GREATEST then newT [.str "raised", .str "OverflowError", .str "the integer is too large"] H1 Q else newT [.str "told", .int r] H1 Q)
    else newT [.str "raised", .str "OverflowError", .str "the integer is too large"] H1 Q := by
  unfold bnd at h
  split
  · rename_i h1
    split
    · rename_i h2
      rw [if_neg (fun z => h2 z.2)] at h
      exact h
    · rename_i h2
      rw [if_pos ⟨h1, Classical.not_not.mp h2⟩] at h
      exact h
  · rename_i h1
    rw [if_neg (fun z => h1 z.1)] at h
    exact h
set_option maxHeartbeats 4000000 in
theorem ok_due (A : At K mg "_law_due" "_law_due" s_law_due ["operator", "x", "y"]) (T : Txt K mg c) (H_law_greatest : Has P w K mg base CX0 "_law_greatest" 1 [] spGreat) : Has P w K mg base CX0 "_law_due" 2 ["operator", "x", "y"] spDue := by
  have Sc := sc_law_due
  refine has_of A Sc (fun vs H Q E h => ?_) (fun cdv f A outer s H vs Q E hr h => ?_)
  · unfold spDue at h; split at h; rfl; cases h
  · unfold spDue at h
    split at h
    · rename_i z a b
      obtain ⟨o, rfl, ho, fa, fb, h⟩ := h
      refine ⟨_, (pss_cons (ps_if (PW.pt (pw_and (pt_cmpR op_fIn (fe_var 0) (fe_tup (pa_cons pe_str (pa_cons pe_str pa_nil))) (by with_unfolding_all rfl)) (pw_and1 (pt_cmpR (op_fEq hr.units) (fe_var 2) pe_int (nomark _))))) (pss_one (ps_ret (fe_tup (pa_cons pe_str (pa_cons pe_str (pa_cons pe_str pa_nil)))))) pss_nil)
      (pss_cons (ps_set (i := 3) Sc.nd rfl (.inl rfl) (pe_op op_fAdd (fe_var 1) (fe_var 2)))
      (pss_cons (ps_if (pt_cmpR (op_fEq hr.units) (fe_var 0) pe_str (nomark _)) (pss_one (ps_set (i := 3) Sc.nd rfl (.inl rfl) (pe_op op_fSub (fe_var 1) (fe_var 2)))) (pss_one (ps_if (pt_cmpR (op_fEq hr.units) (fe_var 0) pe_str (nomark _)) (pss_one (ps_set (i := 3) Sc.nd rfl (.inl rfl) (pe_op op_fMul (fe_var 1) (fe_var 2)))) (pss_one (ps_if (pt_cmpR (op_fEq hr.units) (fe_var 0) pe_str (nomark _)) (pss_one (ps_set (i := 3) Sc.nd rfl (.inl rfl) (pe_op op_fDivZ (fe_var 1) (fe_var 2)))) (pss_one (ps_if (pt_cmpR (op_fEq hr.units) (fe_var 0) pe_str (nomark _)) (pss_one (ps_set (i := 3) Sc.nd rfl (.inl rfl) (pe_op op_fSub (fe_var 1) (pe_op op_fMul (fe_var 2) (pe_op op_fDivZ (fe_var 1) (fe_var 2)))))) pss_nil)))))))
      (pss_cons (ps_if (pt_not (pt_chain op_fLt op_fLt (pe_un un_fNeg (fe_call0 H_law_greatest (hr.mono (by walk_at "rm")) (by rfl) pass0)) (fe_var 3) (fe_call0 H_law_greatest (hr.mono (by walk_at "rm")) (by rfl) pass0))) (pss_one (ps_ret (fe_tup (pa_cons pe_str (pa_cons pe_str (pa_cons pe_str pa_nil)))))) pss_nil)
      (pss_one (ps_ret (fe_tup (pa_cons pe_str (pa_cons (fe_var 3) pa_nil))))))))), ?_⟩
      walk_at "fx0"
      have hm := Fit.mul fa fb
      walk_at "ox"
      refine cut_ fun N hN => ifs_ ?_
      walk_at "ox"
      intro t H1 nt s1 et
      refine ⟨_, rl_t et, rfl, ?_⟩
      rw [in_div]
      have fin : (match o with | .div => b ≠ 0 | .mod => b ≠ 0 | _ => True) → N [some (V.str o.s), some (V.int a), some (V.int b), none] H1 := by
        intro hz
        refine hN _ _ ?_
        clear hN N
        have key : ∀ r : Int, binO o a b = bnd r → (∀ p H2, H1 p = none → Same H1 H2 → H2 p = some (.tup (tupR (bnd r))) → Q (.ref p) H2) := by
          intro r er p H2 np s2 e2
          rw [← er] at e2
          exact h p H2 (s1.free np) (s1.trans s2) e2
        have fm : o = .mod → binO o a b = bnd (a - b * Int.fdiv a b) := by
          rintro rfl
          have q := fmod_fit (a := a) hz fb
          show (if b = 0 then Rs.err "ZeroDivisionError" "division by zero" else Rs.val (.int (a - b * Int.fdiv a b))) = _
          unfold bnd
          rw [if_neg hz, if_pos (show -big_GREATEST < a - b * Int.fdiv a b ∧ a - b * Int.fdiv a b < big_GREATEST from q)]
        have fd : o = .div → binO o a b = bnd (Int.fdiv a b) := by
          rintro rfl
          show (if b = 0 then Rs.err "ZeroDivisionError" "division by zero" else bnd (Int.fdiv a b)) = _
          rw [if_neg hz]
        cases o
        all_goals first
          | exact ho.elim
          | (simp only [Op.s, opne]
             repeat (first | walk_at "oxs" | simp only [opne, spGreat])
             first
               | refine ⟨⟨hz, fb.log⟩, Fit.mul fb (fa.div hz), ?_⟩
               | refine ⟨⟨hz, fb.log⟩, ?_⟩
               | refine ⟨hm, ?_⟩
               | skip
             repeat (first | walk_at "oxs" | simp only [opne, spGreat])
             first
               | exact due_end (key _ rfl)
               | exact due_end (key _ (fd rfl))
               | exact due_end (key _ (fm rfl)))
      cases o
      all_goals first
        | exact ho.elim
        | (simp only [Op.s, binO, bnd] at h fin
           repeat (walk_at "oxs")
           first
             | exact fin trivial
             | (split
                · rename_i hz
                  rw [if_pos hz] at h
                  exact fun p H2 np s2 e2 => h p H2 (s1.free np) (s1.trans s2) e2
                · rename_i hz
                  exact fin hz))
    · cases h
def spCmp : Sp := fun vs H Q _ => match vs with
  | [.str z, .int a, .int b] => ∃ o t, z = Op.s o ∧ binO o a b = .val (.bl t) ∧ Q (.bl t) H
  | _ => False
theorem bnd_bl {n : Int} {t : Bool} : bnd n ≠ .val (.bl t) := by
  unfold bnd
  split <;> intro h <;> cases h
theorem ok_cmp (A : At K mg "_law_compared" "_law_compared" s_law_compared ["operator", "x", "y"]) (T : Txt K mg c) : Has P w K mg base CX0 "_law_compared" 1 ["operator", "x", "y"] spCmp := by
  have Sc := sc_law_compared
  refine has_of A Sc (fun vs H Q E h => ?_) (fun cdv f A outer s H vs Q E hr h => ?_)
  · unfold spCmp at h; split at h; rfl; cases h
  · unfold spCmp at h
    split at h
    · rename_i z a b
      obtain ⟨o, t, rfl, hb, h⟩ := h
      refine ⟨_, (pss_cons (ps_if (pt_cmpR (op_fEq hr.units) (fe_var 0) pe_str (nomark _)) (pss_one (ps_ret (pe_cmpR op_fLt (fe_var 1) (fe_var 2) (nomark _)))) pss_nil)
      (pss_cons (ps_if (pt_cmpR (op_fEq hr.units) (fe_var 0) pe_str (nomark _)) (pss_one (ps_ret (pe_cmpR op_fLe (fe_var 1) (fe_var 2) (nomark _)))) pss_nil)
      (pss_cons (ps_if (pt_cmpR (op_fEq hr.units) (fe_var 0) pe_str (nomark _)) (pss_one (ps_ret (pe_cmpR op_fGt (fe_var 1) (fe_var 2) (nomark _)))) pss_nil)
      (pss_cons (ps_if (pt_cmpR (op_fEq hr.units) (fe_var 0) pe_str (nomark _)) (pss_one (ps_ret (pe_cmpR op_fGe (fe_var 1) (fe_var 2) (nomark _)))) pss_nil)
      (pss_one (ps_ret (pe_cmpR (op_fEq hr.units) (pe_cmpR (op_fEq hr.units) (fe_var 1) (fe_var 2) (nomark _)) (pe_cmpR (op_fEq hr.units) (fe_var 0) pe_str (nomark _)) (nomark _)))))))), ?_⟩
      walk_at "fx0"
      cases o
      all_goals first
        | (exfalso; exact bnd_bl hb)
        | (exfalso
           by_cases hz : b = 0
           · rw [show binO _ a b = if b = 0 then _ else _ from rfl, if_pos hz] at hb
             cases hb
           · rw [show binO _ a b = if b = 0 then _ else _ from rfl, if_neg hz] at hb
             first | exact bnd_bl hb | cases hb)
        | (cases hb
           simp only [Op.s, opne]
           repeat (first | walk_at "oxs" | simp only [opne])
           first
             | exact h
             | (rw [show ∀ t : Bool, decide (t = decide True) = t by decide]; exact h)
             | (rw [show ∀ t : Bool, decide (t = decide False) = !t by decide]; exact h))
    · cases h
end

section
variable {P : Program} {w : World} {K : PySem.W.Frag} {mg : Str → Option Value} {base : Heap} {c : Cs}
def spLaw (K : PySem.W.Frag) : Sp := fun vs H Q _ => ∃ (a : Addr) (ns : List Int), vs = [.ref a] ∧ SqL K H a (ns.map V.int) ∧ ns.length ≤ 63 ∧ (∀ z ∈ ns, Builtin.Int.intBits z ≤ 1048576) ∧ ∀ H', Q (.bl true) H'
theorem bnd_cases (n : Int) : (∃ m, bnd n = .val (.int m)) ∨ ∃ k m, bnd n = .err k m := by
  unfold bnd
  split
  · exact .inl ⟨_, rfl⟩
  · exact .inr ⟨_, _, rfl⟩
theorem binO_ar (o : Op) (a b : Int) (ho : match o with | .add => True | .sub => True | .mul => True | .div => True | .mod => True | _ => False) : (∃ n, binO o a b = .val (.int n)) ∨ ∃ k m, binO o a b = .err k m := by
  cases o <;> first
    | exact ho.elim
    | exact bnd_cases _
    | (unfold binO
       dsimp only
       split
       · exact .inr ⟨_, _, rfl⟩
       · first | exact bnd_cases _ | exact .inl ⟨_, rfl⟩)
def LawI (K : PySem.W.Frag) (H : Hp) (s a : Addr) (ns : List Int) (i : Nat) (σ : L2.St) (H' : Hp) : Prop := Dr K H s a ns H' ∧ ∃ v2 v3 v4 v5 v6, σ = [some (.ref a), some (.ref s), v2, v3, v4, v5, v6]
set_option maxHeartbeats 16000000 in
theorem law_has {fa : Addr} {fd : FuncData} (F : Fun K "law" "law" s_law fa fd) (T : Txt K mg c) (H_law_begin : Has P w K mg base CX0 "_law_begin" 1 ["script", "k"] (spBegin K)) (H_law_draw : Has P w K mg base CX0 "_law_draw" 2 ["state", "many"] (spDraw K)) (H_law_number : Has P w K mg base CX0 "_law_number" 3 ["state"] (spNum K)) (H_law_greatest : Has P w K mg base CX0 "_law_greatest" 1 [] spGreat)
    (H_law_told : Has P w K mg base CX0 "_law_told" 6 ["operator", "x", "y"] spTold) (H_law_due : Has P w K mg base CX0 "_law_due" 2 ["operator", "x", "y"] spDue) (H_law_compared : Has P w K mg base CX0 "_law_compared" 1 ["operator", "x", "y"] spCmp) (H_law_is_integer : Has P w K mg base CX0 "_law_is_integer" 1 ["told"] spLInt)
    (H_unary : Has P w K mg base CX0 "unary" 3 ["store", "operator", "x"] spUnary) (M_Store : HasC P w K mg base CX0 c.Store "Store" 3 ["self", "lines"] (spStore K c)) : FnOk P w K mg base CX0 7 fa fd ["script"] (spLaw K) := by
  have Sc := sc_law
  refine F.ok Sc (fun vs H Q E h => ?_) (fun cdv A outer s H vs Q E hr h => ?_)
  · obtain ⟨a, ns, rfl, _⟩ := h; rfl
  · obtain ⟨a, ns, rfl, hS, hn, hb, k⟩ := h
    refine ⟨_, (pss_cons (ps_set (i := 1) Sc.nd rfl (.inl rfl) (fe_call H_law_begin (hr.mono (by walk_at "rm")) (by rfl) pass0 (pa_cons (fe_var 0) (pa_cons pe_int pa_nil))))
      (pss_cons (ps_for PassesOwn.never rfl (pi_range1 (by rfl) T.no_range (pa_cons (pe_callB (call_fMin rfl) (by rfl) T.no_min (by decide +kernel) (pa_cons pe_int (pa_cons (pe_callB (call_fMax rfl) (by rfl) T.no_max (by decide +kernel) (pa_cons pe_int (pa_cons (pe_callB call_fLen (by rfl) T.no_len (by decide +kernel) (pa_cons (fe_var 0) pa_nil)) pa_nil))) pa_nil))) pa_nil)) (pg_name (i := 2) Sc.nd rfl (.inl rfl)) (pss_cons (ps_set (i := 3) Sc.nd rfl (.inl rfl) (fe_call H_law_number (hr.mono (by walk_at "rm")) (by rfl) pass0 (pa_cons (fe_var 1) pa_nil)))
      (pss_cons (ps_set (i := 4) Sc.nd rfl (.inl rfl) (fe_call H_law_number (hr.mono (by walk_at "rm")) (by rfl) pass0 (pa_cons (fe_var 1) pa_nil)))
      (pss_cons (ps_if (pt_cmpR (op_fEq hr.units) (fe_call H_law_draw (hr.mono (by walk_at "rm")) (by rfl) pass0 (pa_cons (fe_var 1) (pa_cons pe_int pa_nil))) pe_int (nomark _)) (pss_cons (ps_set (i := 4) Sc.nd rfl (.inl rfl) (pe_op op_fSub (pe_op op_fAdd (fe_var 3) (fe_call H_law_draw (hr.mono (by walk_at "rm")) (by rfl) pass0 (pa_cons (fe_var 1) (pa_cons pe_int pa_nil)))) pe_int))
      (pss_one (ps_if (pt_not (pt_chain op_fLt op_fLt (pe_un un_fNeg (fe_call0 H_law_greatest (hr.mono (by walk_at "rm")) (by rfl) pass0)) (fe_var 4) (fe_call0 H_law_greatest (hr.mono (by walk_at "rm")) (by rfl) pass0))) (pss_one (ps_set (i := 4) Sc.nd rfl (.inl rfl) (fe_var 3))) pss_nil))) pss_nil)
      (pss_cons (ps_for PassesOwn.never rfl (pi_tup (fe_tup (pa_cons pe_str (pa_cons pe_str (pa_cons pe_str (pa_cons pe_str (pa_cons pe_str pa_nil))))))) (pg_name (i := 5) Sc.nd rfl (.inl rfl)) (pss_cons (ps_set (i := 6) Sc.nd rfl (.inl rfl) (fe_call H_law_told (hr.mono (by walk_at "rm")) (by rfl) pass0 (pa_cons (fe_var 5) (pa_cons (fe_var 3) (pa_cons (fe_var 4) pa_nil)))))
      (pss_one (ps_if (PW.pt (pw_or (pt_cmpR (op_fNe hr.units) (fe_var 6) (fe_call H_law_due (hr.mono (by walk_at "rm")) (by rfl) pass0 (pa_cons (fe_var 5) (pa_cons (fe_var 3) (pa_cons (fe_var 4) pa_nil)))) (nomark _)) (pw_or1 (PW.pt (pw_and (pt_cmpR (op_fEq hr.units) (pe_ix ix_fx (fe_var 6) pe_int (fun _ _ => rfl)) pe_str (nomark _)) (pw_and1 (pt_not (pt_val (fe_call H_law_is_integer (hr.mono (by walk_at "rm")) (by rfl) pass0 (pa_cons (pe_ix ix_fx (fe_var 6) pe_int (fun _ _ => rfl)) pa_nil)))))))))) (pss_one (ps_ret pe_bl)) pss_nil))))
      (pss_cons (ps_for PassesOwn.never rfl (pi_tup (fe_tup (pa_cons pe_str (pa_cons pe_str (pa_cons pe_str (pa_cons pe_str (pa_cons pe_str (pa_cons pe_str pa_nil)))))))) (pg_name (i := 5) Sc.nd rfl (.inl rfl)) (pss_cons (ps_set (i := 6) Sc.nd rfl (.inl rfl) (fe_call H_law_told (hr.mono (by walk_at "rm")) (by rfl) pass0 (pa_cons (fe_var 5) (pa_cons (fe_var 3) (pa_cons (fe_var 4) pa_nil)))))
      (pss_one (ps_if (PW.pt (pw_or (pt_cmpR (op_fNe hr.units) (pe_ix ix_fx (fe_var 6) pe_int (fun _ _ => rfl)) pe_str (nomark _)) (pw_or (pt_not (pt_val (pe_callB (call_fIsiA T.kit) (by rfl) T.no_isinstance (by decide +kernel) (pa_cons (pe_ix ix_fx (fe_var 6) pe_int (fun _ _ => rfl)) (pa_cons (fe_ty (n := "bool") (by rfl) T.no_bool (by decide +kernel)) pa_nil))))) (pw_or1 (pt_cmpR (op_fNe hr.units) (pe_ix ix_fx (fe_var 6) pe_int (fun _ _ => rfl)) (fe_call H_law_compared (hr.mono (by walk_at "rm")) (by rfl) pass0 (pa_cons (fe_var 5) (pa_cons (fe_var 3) (pa_cons (fe_var 4) pa_nil)))) (nomark _)))))) (pss_one (ps_ret pe_bl)) pss_nil))))
      (pss_cons (ps_set (i := 6) Sc.nd rfl (.inl rfl) (fe_call H_unary (hr.mono (by walk_at "rm")) (by rfl) pass0 (pa_cons (fe_make (k := _) M_Store (hr.mono (by walk_at "rm")) (by rfl) pass0 (pa_cons (fe_lst pa_nil) pa_nil)) (pa_cons pe_str (pa_cons (fe_var 3) pa_nil)))))
      (pss_one (ps_if (PW.pt (pw_or (pt_not (pt_val (fe_call H_law_is_integer (hr.mono (by walk_at "rm")) (by rfl) pass0 (pa_cons (fe_var 6) pa_nil)))) (pw_or (pt_cmpR (op_fNe hr.units) (fe_var 6) (pe_un un_fNeg (fe_var 3)) (nomark _)) (pw_or1 (pt_cmpR op_fNotB (fe_call H_unary (hr.mono (by walk_at "rm")) (by rfl) pass0 (pa_cons (fe_make (k := _) M_Store (hr.mono (by walk_at "rm")) (by rfl) pass0 (pa_cons (fe_lst pa_nil) pa_nil)) (pa_cons pe_str (pa_cons (fe_var 3) pa_nil)))) pe_bl (nomark _)))))) (pss_one (ps_ret pe_bl)) pss_nil)))))))))
      (pss_one (ps_ret pe_bl)))), ?_⟩
    walk_at "fx0"
    walk_at "ox"
    refine ⟨by decide, ?_⟩
    intro s H2 ns2 sm2 es
    have D : Dr K H s a ns H2 := ⟨⟨0, 0, es, by decide, by decide⟩, hS, sm2, ns2, hn⟩
    walk_at "ox"
    refine cut_ fun N hN => for_ ?_
    walk_at "ox"
    refine ⟨_, .inl (sm2.seq hS), ?_⟩
    rw [List.length_map]
    have hn0 : (0 : Int) ≤ ns.length := by omega
    generalize hm : (if (if (ns.length : Int) > 3 then (ns.length : Int) else 3) < 12 then (if (ns.length : Int) > 3 then (ns.length : Int) else 3) else 12) = m
    have hm9 : 0 ≤ m ∧ m ≤ 12 := by
      rw [← hm]
      split <;> split <;> omega
    refine ⟨by omega, by omega, ?_⟩
    refine loop_range (LawI K H s a ns) ⟨D, none, none, none, none, none, rfl⟩ ?_ ?_
    · rintro i σ H' hi ⟨D1, v2, v3, v4, v5, v6, rfl⟩
      walk_at "ox"
      refine ⟨H, a, ns, D1, fun H3 x k3 D3 fx => ?_⟩
      walk_at "ox"
      refine ⟨H, a, ns, D3, fun H4 y k4 D4 fy => ?_⟩
      refine cut_ fun N1 hN1 => ifs_ ?_
      have fin : ∀ (y : Int) (v5 v6 : Option V) (H5 : Hp), Fit y → Dr K H s a ns H5 → N1 [some (.ref a), some (.ref s), some (.int i), some (.int x), some (.int y), v5, v6] H5 := by
        intro y v5 v6 H5 fy D5
        refine hN1 _ _ ?_
        clear hN1 N1
        walk_at "ox"
        refine cut_ fun N1 hN1 => for_ ?_
        walk_at "ox"
        intro t H6 nt s6 et
        refine ⟨⟨_, SqT.of et⟩, ?_⟩
        refine loop_tup [.str "+", .str "-", .str "*", .str "/", .str "mod"] (fun j σ H' => Same H6 H' ∧ ∃ v5 v6, σ = [some (.ref a), some (.ref s), some (.int i), some (.int x), some (.int y), v5, v6]) ⟨Same.refl _, v5, v6, rfl⟩ ?_ ?_ ?_
        · rintro j σ H7 hj ⟨s7, v5, v6, rfl⟩
          exact SqT.of (s7 _ _ et)
        · rintro j z σ H7 hz ⟨s7, v5, v6, rfl⟩
          have ho : ∃ o : Op, z = .str o.s ∧ (match o with | .add => True | .sub => True | .mul => True | .div => True | .mod => True | _ => False) := by
            have := List.mem_of_getElem? hz
            simp only [List.mem_cons, List.not_mem_nil, or_false] at this
            rcases this with rfl | rfl | rfl | rfl | rfl
            · exact ⟨.add, rfl, trivial⟩
            · exact ⟨.sub, rfl, trivial⟩
            · exact ⟨.mul, rfl, trivial⟩
            · exact ⟨.div, rfl, trivial⟩
            · exact ⟨.mod, rfl, trivial⟩
          obtain ⟨o, rfl, ho⟩ := ho
          walk_at "ox"
          refine ⟨o, rfl, fx, fy, fun p H8 np s8 ep => ?_⟩
          repeat (walk_at "oxs")
          refine ⟨o, rfl, ho, fx, fy, fun q H9 nq s9 eq => ?_⟩
          have fin2 : Same H6 H9 ∧ ∃ v6 v7, ([some (.ref a), some (.ref s), some (.int i), some (.int x), some (.int y), some (.str o.s), some (.ref p)] : List (Option V)) = [some (.ref a), some (.ref s), some (.int i), some (.int x), some (.int y), v6, v7] := ⟨(s7.trans s8).trans s9, _, _, rfl⟩
          have ep9 := s9 _ _ ep
          rcases binO_ar o x y ho with ⟨n, e⟩ | ⟨k', m', e⟩ <;> rw [e] at ep9 eq
          · repeat (walk_at "oxs")
            refine ⟨_, .tup (SqT.of ep9) (dpAll_sc rfl), _, .tup (SqT.of eq) (dpAll_sc rfl), tup_okd rfl, tup_okd rfl, ?_⟩
            rw [tup_eqv rfl, if_neg (by decide)]
            refine ⟨_, rl_t ep9, _, rfl, ?_⟩
            repeat (walk_at "oxs")
            refine ⟨_, rl_t ep9, _, rfl, ?_⟩
            repeat (first | walk_at "oxs" | simp only [spLInt])
            exact ⟨fin2.1, _, rfl⟩
          · repeat (walk_at "oxs")
            refine ⟨_, .tup (SqT.of ep9) (dpAll_sc rfl), _, .tup (SqT.of eq) (dpAll_sc rfl), tup_okd rfl, tup_okd rfl, ?_⟩
            rw [tup_eqv rfl, if_neg (by decide)]
            refine ⟨_, rl_t ep9, _, rfl, ?_⟩
            repeat (first | walk_at "oxs" | simp only [opne])
            exact ⟨fin2.1, _, rfl⟩
        · rintro σ H7 ⟨s7, v5, v6, rfl⟩
          refine hN1 _ _ ?_
          clear hN1 N1
          walk_at "ox"
          refine cut_ fun N1 hN1 => for_ ?_
          walk_at "ox"
          intro t H8 nt s8 et
          refine ⟨⟨_, SqT.of et⟩, ?_⟩
          refine loop_tup [.str "<", .str "<=", .str ">", .str ">=", .str "==", .str "!="] (fun j σ H' => Same H8 H' ∧ ∃ v5 v6, σ = [some (.ref a), some (.ref s), some (.int i), some (.int x), some (.int y), v5, v6]) ⟨Same.refl _, v5, v6, rfl⟩ ?_ ?_ ?_
          · rintro j σ H9 hj ⟨s9, v5, v6, rfl⟩
            exact SqT.of (s9 _ _ et)
          · rintro j z σ H9 hz ⟨s9, v5, v6, rfl⟩
            have ho : ∃ (o : Op) (t : Bool), z = .str o.s ∧ binO o x y = .val (.bl t) := by
              have := List.mem_of_getElem? hz
              simp only [List.mem_cons, List.not_mem_nil, or_false] at this
              rcases this with rfl | rfl | rfl | rfl | rfl | rfl
              · exact ⟨.lt, _, rfl, rfl⟩
              · exact ⟨.le, _, rfl, rfl⟩
              · exact ⟨.gt, _, rfl, rfl⟩
              · exact ⟨.ge, _, rfl, rfl⟩
              · exact ⟨.eq, _, rfl, rfl⟩
              · exact ⟨.ne, _, rfl, rfl⟩
            obtain ⟨o, t, rfl, ho⟩ := ho
            walk_at "ox"
            refine ⟨o, rfl, fx, fy, fun p Ha np sa ep => ?_⟩
            rw [ho] at ep
            walk_at "ox"
            refine ifs_ ?_
            walk_at "ox"
            refine ⟨_, rl_t ep, _, rfl, ?_⟩
            repeat (first | walk_at "oxs" | simp only [opne])
            refine ⟨_, rl_t ep, _, rfl, ?_⟩
            repeat (first | walk_at "oxs" | simp only [opne])
            refine ⟨_, rl_t ep, _, rfl, o, t, rfl, ho, ?_⟩
            repeat (first | walk_at "oxs" | simp only [opne])
            exact ⟨s9.trans sa, _, rfl⟩
          · rintro σ H9 ⟨s9, v5, v6, rfl⟩
            refine hN1 _ _ ?_
            clear hN1 N1
            walk_at "ox"
            intro l1 Ha nl1 sl1 el1
            refine ⟨_, rl_l el1, fun y1 tl ol ll k md Hb St => ?_⟩
            walk_at "ox"
            refine .inr ⟨rfl, ?_⟩
            walk_at "ox"
            repeat (first | walk_at "oxs" | simp only [spLInt])
            intro l2 Hc nl2 sl2 el2
            refine ⟨_, rl_l el2, fun y2 tl2 ol2 ll2 k2 md2 Hd St2 => ?_⟩
            refine .inl ⟨rfl, ?_⟩
            repeat (walk_at "oxs")
            exact ⟨D5.same ((((((s6.trans s7).trans s8).trans s9).trans sl1).trans St.sm).trans (sl2.trans St2.sm)), _, _, _, _, _, rfl⟩
      walk_at "ox"
      refine ⟨H, a, ns, D4, by omega, by omega, fun H5 d k5 D5 d0 dd => ?_⟩
      walk_at "ox"
      split
      · refine ⟨H, a, ns, D5, by omega, by omega, fun H6 d k6 D6 d0 dd => ?_⟩
        repeat (first | walk_at "oxs" | simp only [spGreat])
        split
        · rename_i h1
          split
          · exact fin _ _ _ _ fx D6
          · rename_i h2
            exact fin _ _ _ _ ⟨h1, Classical.not_not.mp h2⟩ D6
        · exact fin _ _ _ _ fx D6
      · exact fin _ _ _ _ fy D5
    · rintro σ H' ⟨D1, v2, v3, v4, v5, v6, rfl⟩
      refine hN _ _ ?_
      walk_at "ox"
      exact k _
end

section
variable {P : Program} {w : World} {K : PySem.W.Frag} {mg : Str → Option Value} {base : Heap} {c : Cs}
theorem law_fn {fa : Addr} {fd : FuncData} (F : Fun K "law" "law" s_law fa fd) (T : Txt K mg c) (TD : TxD w K mg)
    (a_ScriptError___init__ : AtE K c.ScriptError "ScriptError.__init__" s_ScriptError___init__ ["self", "kind", "message"])
    (a_Kin___init__ : AtM K c.Kin "__init__" "Kin.__init__" s_Kin___init__ ["self", "name", "parent"])
    (a_Store___init__ : AtM K c.Store "__init__" "Store.__init__" s_Store___init__ ["self", "lines"])
    (a_is_integer : At K mg "is_integer" "is_integer" s_is_integer ["value"])
    (a_is_true : At K mg "is_true" "is_true" s_is_true ["value"])
    (a_equal : At K mg "equal" "equal" s_equal ["x", "y"])
    (a_bounded : At K mg "bounded" "bounded" s_bounded ["number"])
    (a_added : At K mg "added" "added" s_added ["store", "x", "y"])
    (a_reckoned : At K mg "reckoned" "reckoned" s_reckoned ["store", "operator", "x", "y"])
    (a_compared : At K mg "compared" "compared" s_compared ["store", "operator", "x", "y"])
    (a_binary : At K mg "binary" "binary" s_binary ["store", "operator", "x", "y"])
    (a_unary : At K mg "unary" "unary" s_unary ["store", "operator", "x"])
    (a_law_cell : At K mg "_law_cell" "_law_cell" s_law_cell ["script", "k"])
    (a_law_begin : At K mg "_law_begin" "_law_begin" s_law_begin ["script", "k"])
    (a_law_draw : At K mg "_law_draw" "_law_draw" s_law_draw ["state", "many"])
    (a_law_is_integer : At K mg "_law_is_integer" "_law_is_integer" s_law_is_integer ["told"])
    (a_law_greatest : At K mg "_law_greatest" "_law_greatest" s_law_greatest [])
    (a_law_number : At K mg "_law_number" "_law_number" s_law_number ["state"])
    (a_law_told : At K mg "_law_told" "_law_told" s_law_told ["operator", "x", "y"])
    (a_law_due : At K mg "_law_due" "_law_due" s_law_due ["operator", "x", "y"])
    (a_law_compared : At K mg "_law_compared" "_law_compared" s_law_compared ["operator", "x", "y"]) :
    FnOk P w K mg base CX0 7 fa fd ["script"] (spLaw K) := by
  have E_ScriptError := mkE_ScriptError (P := P) (w := w) (base := base) a_ScriptError___init__ T 
  have M_Kin := mk_Kin (P := P) (w := w) (base := base) a_Kin___init__ T 
  have M_Store := ok_store (P := P) (w := w) (base := base) a_Store___init__ T M_Kin
  have H_is_integer := ok_isint (P := P) (w := w) (base := base) a_is_integer T 
  have H_is_true := ok_true (P := P) (w := w) (base := base) a_is_true T 
  have H_equal := ok_equal (P := P) (w := w) (base := base) a_equal T 
  have H_bounded := ok_bounded (P := P) (w := w) (base := base) a_bounded T E_ScriptError
  have H_added := ok_added (P := P) (w := w) (base := base) a_added T H_is_integer H_bounded E_ScriptError
  have H_reckoned := ok_reck (P := P) (w := w) (base := base) a_reckoned T TD H_is_integer H_bounded E_ScriptError
  have H_compared := ok_compared (P := P) (w := w) (base := base) a_compared T H_is_integer E_ScriptError
  have H_binary := ok_binary (P := P) (w := w) (base := base) a_binary T TD H_equal H_added H_reckoned H_compared
  have H_unary := ok_unary (P := P) (w := w) (base := base) a_unary T H_is_true H_is_integer E_ScriptError
  have H_law_cell := ok_cell (P := P) (w := w) (base := base) a_law_cell T 
  have H_law_begin := ok_begin (P := P) (w := w) (base := base) a_law_begin T 
  have H_law_draw := ok_draw (P := P) (w := w) (base := base) a_law_draw T H_law_cell
  have H_law_is_integer := ok_lint (P := P) (w := w) (base := base) a_law_is_integer T 
  have H_law_greatest := ok_great (P := P) (w := w) (base := base) a_law_greatest T 
  have H_law_number := ok_num (P := P) (w := w) (base := base) a_law_number T H_law_draw H_law_greatest
  have H_law_told := ok_told (P := P) (w := w) (base := base) a_law_told T M_Store H_binary
  have H_law_due := ok_due (P := P) (w := w) (base := base) a_law_due T H_law_greatest
  have H_law_compared := ok_cmp (P := P) (w := w) (base := base) a_law_compared T 
  exact law_has F T H_law_begin H_law_draw H_law_number H_law_greatest H_law_told H_law_due H_law_compared H_law_is_integer H_unary M_Store
end
theorem all_mk {P : Program} {w : World} {K : PySem.W.Frag} {h : Heap} {mg : Str → Option Value} {fa : Addr} {C_Ref C_Builtin C_Parts C_Table C_Instance C_Kin C_Store C_LivequillError C_ScriptError C_Waiting : Addr} (X : K.In h) (G : h.Ns mainGlobals mg) (hfa : mg "law" = some (.ref fa))
    (n_Ref : PySem.W.nsIn K mainGlobals "Ref" = some (some (.ref C_Ref)))
    (n_Builtin : PySem.W.nsIn K mainGlobals "Builtin" = some (some (.ref C_Builtin)))
    (n_Parts : PySem.W.nsIn K mainGlobals "Parts" = some (some (.ref C_Parts)))
    (n_Table : PySem.W.nsIn K mainGlobals "Table" = some (some (.ref C_Table)))
    (n_Instance : PySem.W.nsIn K mainGlobals "Instance" = some (some (.ref C_Instance)))
    (n_Kin : PySem.W.nsIn K mainGlobals "Kin" = some (some (.ref C_Kin)))
    (n_Store : PySem.W.nsIn K mainGlobals "Store" = some (some (.ref C_Store)))
    (n_LivequillError : PySem.W.nsIn K mainGlobals "LivequillError" = some (some (.ref C_LivequillError)))
    (n_ScriptError : PySem.W.nsIn K mainGlobals "ScriptError" = some (some (.ref C_ScriptError)))
    (n_Waiting : PySem.W.nsIn K mainGlobals "Waiting" = some (some (.ref C_Waiting)))
    (x_Ref : ClsFact K C_Ref)
    (x_Builtin : ClsFact K C_Builtin)
    (x_Parts : ClsFact K C_Parts)
    (x_Table : ClsFact K C_Table)
    (x_Instance : ClsFact K C_Instance)
    (x_Kin : ClsFact K C_Kin)
    (x_Store : ClsFact K C_Store)
    (x_LivequillError : ExcFact K C_LivequillError)
    (x_ScriptError : ExcFact K C_ScriptError)
    (x_Waiting : ExcFact K C_Waiting)
    (xn_kind_ScriptError : PySem.W.findIn K (.ref C_ScriptError) "kind" = some none)
    (xn_message_ScriptError : PySem.W.findIn K (.ref C_ScriptError) "message" = some none)
    (em_ScriptError_ScriptError : PySem.W.subIn K (.ref C_ScriptError) (.ref C_ScriptError) = some true)
    (ko_ScriptError_LivequillError : PySem.W.kitOne K (.ref C_ScriptError) (.ref C_LivequillError) = some true)
    (ko_ScriptError_Waiting : PySem.W.kitOne K (.ref C_ScriptError) (.ref C_Waiting) = some false)
    (ob : ObjFact K)
    (na_lines_Store : PySem.W.findIn K (.ref C_Store) "lines" = some none)
    (na_methods_Kin : PySem.W.findIn K (.ref C_Kin) "methods" = some none)
    (na_name_Builtin : PySem.W.findIn K (.ref C_Builtin) "name" = some none)
    (na_name_Kin : PySem.W.findIn K (.ref C_Kin) "name" = some none)
    (na_number_Ref : PySem.W.findIn K (.ref C_Ref) "number" = some none)
    (na_output_Store : PySem.W.findIn K (.ref C_Store) "output" = some none)
    (na_parent_Kin : PySem.W.findIn K (.ref C_Kin) "parent" = some none)
    (na_taken_Store : PySem.W.findIn K (.ref C_Store) "taken" = some none)
    (na_things_Store : PySem.W.findIn K (.ref C_Store) "things" = some none)
    (oo_Ref_Ref : PySem.W.kitOne K (.ref C_Ref) (.ref C_Ref) = some (decide (C_Ref = C_Ref)))
    (oo_Ref_Parts : PySem.W.kitOne K (.ref C_Ref) (.ref C_Parts) = some (decide (C_Ref = C_Parts)))
    (oo_Ref_Table : PySem.W.kitOne K (.ref C_Ref) (.ref C_Table) = some (decide (C_Ref = C_Table)))
    (oo_Ref_Instance : PySem.W.kitOne K (.ref C_Ref) (.ref C_Instance) = some (decide (C_Ref = C_Instance)))
    (oo_Ref_Kin : PySem.W.kitOne K (.ref C_Ref) (.ref C_Kin) = some (decide (C_Ref = C_Kin)))
    (oo_Ref_Builtin : PySem.W.kitOne K (.ref C_Ref) (.ref C_Builtin) = some (decide (C_Ref = C_Builtin)))
    (oo_Builtin_Ref : PySem.W.kitOne K (.ref C_Builtin) (.ref C_Ref) = some (decide (C_Builtin = C_Ref)))
    (oo_Builtin_Parts : PySem.W.kitOne K (.ref C_Builtin) (.ref C_Parts) = some (decide (C_Builtin = C_Parts)))
    (oo_Builtin_Table : PySem.W.kitOne K (.ref C_Builtin) (.ref C_Table) = some (decide (C_Builtin = C_Table)))
    (oo_Builtin_Instance : PySem.W.kitOne K (.ref C_Builtin) (.ref C_Instance) = some (decide (C_Builtin = C_Instance)))
    (oo_Builtin_Kin : PySem.W.kitOne K (.ref C_Builtin) (.ref C_Kin) = some (decide (C_Builtin = C_Kin)))
    (oo_Builtin_Builtin : PySem.W.kitOne K (.ref C_Builtin) (.ref C_Builtin) = some (decide (C_Builtin = C_Builtin)))
    (oo_Parts_Ref : PySem.W.kitOne K (.ref C_Parts) (.ref C_Ref) = some (decide (C_Parts = C_Ref)))
    (oo_Parts_Parts : PySem.W.kitOne K (.ref C_Parts) (.ref C_Parts) = some (decide (C_Parts = C_Parts)))
    (oo_Parts_Table : PySem.W.kitOne K (.ref C_Parts) (.ref C_Table) = some (decide (C_Parts = C_Table)))
    (oo_Parts_Instance : PySem.W.kitOne K (.ref C_Parts) (.ref C_Instance) = some (decide (C_Parts = C_Instance)))
    (oo_Parts_Kin : PySem.W.kitOne K (.ref C_Parts) (.ref C_Kin) = some (decide (C_Parts = C_Kin)))
    (oo_Parts_Builtin : PySem.W.kitOne K (.ref C_Parts) (.ref C_Builtin) = some (decide (C_Parts = C_Builtin)))
    (oo_Table_Ref : PySem.W.kitOne K (.ref C_Table) (.ref C_Ref) = some (decide (C_Table = C_Ref)))
    (oo_Table_Parts : PySem.W.kitOne K (.ref C_Table) (.ref C_Parts) = some (decide (C_Table = C_Parts)))
    (oo_Table_Table : PySem.W.kitOne K (.ref C_Table) (.ref C_Table) = some (decide (C_Table = C_Table)))
    (oo_Table_Instance : PySem.W.kitOne K (.ref C_Table) (.ref C_Instance) = some (decide (C_Table = C_Instance)))
    (oo_Table_Kin : PySem.W.kitOne K (.ref C_Table) (.ref C_Kin) = some (decide (C_Table = C_Kin)))
    (oo_Table_Builtin : PySem.W.kitOne K (.ref C_Table) (.ref C_Builtin) = some (decide (C_Table = C_Builtin)))
    (oo_Instance_Ref : PySem.W.kitOne K (.ref C_Instance) (.ref C_Ref) = some (decide (C_Instance = C_Ref)))
    (oo_Instance_Parts : PySem.W.kitOne K (.ref C_Instance) (.ref C_Parts) = some (decide (C_Instance = C_Parts)))
    (oo_Instance_Table : PySem.W.kitOne K (.ref C_Instance) (.ref C_Table) = some (decide (C_Instance = C_Table)))
    (oo_Instance_Instance : PySem.W.kitOne K (.ref C_Instance) (.ref C_Instance) = some (decide (C_Instance = C_Instance)))
    (oo_Instance_Kin : PySem.W.kitOne K (.ref C_Instance) (.ref C_Kin) = some (decide (C_Instance = C_Kin)))
    (oo_Instance_Builtin : PySem.W.kitOne K (.ref C_Instance) (.ref C_Builtin) = some (decide (C_Instance = C_Builtin)))
    (oo_Kin_Ref : PySem.W.kitOne K (.ref C_Kin) (.ref C_Ref) = some (decide (C_Kin = C_Ref)))
    (oo_Kin_Parts : PySem.W.kitOne K (.ref C_Kin) (.ref C_Parts) = some (decide (C_Kin = C_Parts)))
    (oo_Kin_Table : PySem.W.kitOne K (.ref C_Kin) (.ref C_Table) = some (decide (C_Kin = C_Table)))
    (oo_Kin_Instance : PySem.W.kitOne K (.ref C_Kin) (.ref C_Instance) = some (decide (C_Kin = C_Instance)))
    (oo_Kin_Kin : PySem.W.kitOne K (.ref C_Kin) (.ref C_Kin) = some (decide (C_Kin = C_Kin)))
    (oo_Kin_Builtin : PySem.W.kitOne K (.ref C_Kin) (.ref C_Builtin) = some (decide (C_Kin = C_Builtin)))
    (oo_Store_Ref : PySem.W.kitOne K (.ref C_Store) (.ref C_Ref) = some (decide (C_Store = C_Ref)))
    (oo_Store_Parts : PySem.W.kitOne K (.ref C_Store) (.ref C_Parts) = some (decide (C_Store = C_Parts)))
    (oo_Store_Table : PySem.W.kitOne K (.ref C_Store) (.ref C_Table) = some (decide (C_Store = C_Table)))
    (oo_Store_Instance : PySem.W.kitOne K (.ref C_Store) (.ref C_Instance) = some (decide (C_Store = C_Instance)))
    (oo_Store_Kin : PySem.W.kitOne K (.ref C_Store) (.ref C_Kin) = some (decide (C_Store = C_Kin)))
    (oo_Store_Builtin : PySem.W.kitOne K (.ref C_Store) (.ref C_Builtin) = some (decide (C_Store = C_Builtin)))
    (bo_NoneType_Ref : PySem.W.kitOne K (.type "NoneType") (.ref C_Ref) = some false)
    (bo_NoneType_Parts : PySem.W.kitOne K (.type "NoneType") (.ref C_Parts) = some false)
    (bo_NoneType_Table : PySem.W.kitOne K (.type "NoneType") (.ref C_Table) = some false)
    (bo_NoneType_Instance : PySem.W.kitOne K (.type "NoneType") (.ref C_Instance) = some false)
    (bo_NoneType_Kin : PySem.W.kitOne K (.type "NoneType") (.ref C_Kin) = some false)
    (bo_NoneType_Builtin : PySem.W.kitOne K (.type "NoneType") (.ref C_Builtin) = some false)
    (bo_bool_Ref : PySem.W.kitOne K (.type "bool") (.ref C_Ref) = some false)
    (bo_bool_Parts : PySem.W.kitOne K (.type "bool") (.ref C_Parts) = some false)
    (bo_bool_Table : PySem.W.kitOne K (.type "bool") (.ref C_Table) = some false)
    (bo_bool_Instance : PySem.W.kitOne K (.type "bool") (.ref C_Instance) = some false)
    (bo_bool_Kin : PySem.W.kitOne K (.type "bool") (.ref C_Kin) = some false)
    (bo_bool_Builtin : PySem.W.kitOne K (.type "bool") (.ref C_Builtin) = some false)
    (bo_int_Ref : PySem.W.kitOne K (.type "int") (.ref C_Ref) = some false)
    (bo_int_Parts : PySem.W.kitOne K (.type "int") (.ref C_Parts) = some false)
    (bo_int_Table : PySem.W.kitOne K (.type "int") (.ref C_Table) = some false)
    (bo_int_Instance : PySem.W.kitOne K (.type "int") (.ref C_Instance) = some false)
    (bo_int_Kin : PySem.W.kitOne K (.type "int") (.ref C_Kin) = some false)
    (bo_int_Builtin : PySem.W.kitOne K (.type "int") (.ref C_Builtin) = some false)
    (bo_str_Ref : PySem.W.kitOne K (.type "str") (.ref C_Ref) = some false)
    (bo_str_Parts : PySem.W.kitOne K (.type "str") (.ref C_Parts) = some false)
    (bo_str_Table : PySem.W.kitOne K (.type "str") (.ref C_Table) = some false)
    (bo_str_Instance : PySem.W.kitOne K (.type "str") (.ref C_Instance) = some false)
    (bo_str_Kin : PySem.W.kitOne K (.type "str") (.ref C_Kin) = some false)
    (bo_str_Builtin : PySem.W.kitOne K (.type "str") (.ref C_Builtin) = some false)
    (bo_list_Ref : PySem.W.kitOne K (.type "list") (.ref C_Ref) = some false)
    (bo_list_Parts : PySem.W.kitOne K (.type "list") (.ref C_Parts) = some false)
    (bo_list_Table : PySem.W.kitOne K (.type "list") (.ref C_Table) = some false)
    (bo_list_Instance : PySem.W.kitOne K (.type "list") (.ref C_Instance) = some false)
    (bo_list_Kin : PySem.W.kitOne K (.type "list") (.ref C_Kin) = some false)
    (bo_list_Builtin : PySem.W.kitOne K (.type "list") (.ref C_Builtin) = some false)
    (bo_tuple_Ref : PySem.W.kitOne K (.type "tuple") (.ref C_Ref) = some false)
    (bo_tuple_Parts : PySem.W.kitOne K (.type "tuple") (.ref C_Parts) = some false)
    (bo_tuple_Table : PySem.W.kitOne K (.type "tuple") (.ref C_Table) = some false)
    (bo_tuple_Instance : PySem.W.kitOne K (.type "tuple") (.ref C_Instance) = some false)
    (bo_tuple_Kin : PySem.W.kitOne K (.type "tuple") (.ref C_Kin) = some false)
    (bo_tuple_Builtin : PySem.W.kitOne K (.type "tuple") (.ref C_Builtin) = some false)
    (bo_dict_Ref : PySem.W.kitOne K (.type "dict") (.ref C_Ref) = some false)
    (bo_dict_Parts : PySem.W.kitOne K (.type "dict") (.ref C_Parts) = some false)
    (bo_dict_Table : PySem.W.kitOne K (.type "dict") (.ref C_Table) = some false)
    (bo_dict_Instance : PySem.W.kitOne K (.type "dict") (.ref C_Instance) = some false)
    (bo_dict_Kin : PySem.W.kitOne K (.type "dict") (.ref C_Kin) = some false)
    (bo_dict_Builtin : PySem.W.kitOne K (.type "dict") (.ref C_Builtin) = some false)
    (ob_Ref_bool : PySem.W.kitOne K (.ref C_Ref) (.type "bool") = some false)
    (ob_Ref_int : PySem.W.kitOne K (.ref C_Ref) (.type "int") = some false)
    (ob_Ref_str : PySem.W.kitOne K (.ref C_Ref) (.type "str") = some false)
    (ob_Ref_list : PySem.W.kitOne K (.ref C_Ref) (.type "list") = some false)
    (ob_Ref_tuple : PySem.W.kitOne K (.ref C_Ref) (.type "tuple") = some false)
    (ob_Ref_dict : PySem.W.kitOne K (.ref C_Ref) (.type "dict") = some false)
    (ob_Builtin_bool : PySem.W.kitOne K (.ref C_Builtin) (.type "bool") = some false)
    (ob_Builtin_int : PySem.W.kitOne K (.ref C_Builtin) (.type "int") = some false)
    (ob_Builtin_str : PySem.W.kitOne K (.ref C_Builtin) (.type "str") = some false)
    (ob_Builtin_list : PySem.W.kitOne K (.ref C_Builtin) (.type "list") = some false)
    (ob_Builtin_tuple : PySem.W.kitOne K (.ref C_Builtin) (.type "tuple") = some false)
    (ob_Builtin_dict : PySem.W.kitOne K (.ref C_Builtin) (.type "dict") = some false)
    (ob_Parts_bool : PySem.W.kitOne K (.ref C_Parts) (.type "bool") = some false)
    (ob_Parts_int : PySem.W.kitOne K (.ref C_Parts) (.type "int") = some false)
    (ob_Parts_str : PySem.W.kitOne K (.ref C_Parts) (.type "str") = some false)
    (ob_Parts_list : PySem.W.kitOne K (.ref C_Parts) (.type "list") = some false)
    (ob_Parts_tuple : PySem.W.kitOne K (.ref C_Parts) (.type "tuple") = some false)
    (ob_Parts_dict : PySem.W.kitOne K (.ref C_Parts) (.type "dict") = some false)
    (ob_Table_bool : PySem.W.kitOne K (.ref C_Table) (.type "bool") = some false)
    (ob_Table_int : PySem.W.kitOne K (.ref C_Table) (.type "int") = some false)
    (ob_Table_str : PySem.W.kitOne K (.ref C_Table) (.type "str") = some false)
    (ob_Table_list : PySem.W.kitOne K (.ref C_Table) (.type "list") = some false)
    (ob_Table_tuple : PySem.W.kitOne K (.ref C_Table) (.type "tuple") = some false)
    (ob_Table_dict : PySem.W.kitOne K (.ref C_Table) (.type "dict") = some false)
    (ob_Instance_bool : PySem.W.kitOne K (.ref C_Instance) (.type "bool") = some false)
    (ob_Instance_int : PySem.W.kitOne K (.ref C_Instance) (.type "int") = some false)
    (ob_Instance_str : PySem.W.kitOne K (.ref C_Instance) (.type "str") = some false)
    (ob_Instance_list : PySem.W.kitOne K (.ref C_Instance) (.type "list") = some false)
    (ob_Instance_tuple : PySem.W.kitOne K (.ref C_Instance) (.type "tuple") = some false)
    (ob_Instance_dict : PySem.W.kitOne K (.ref C_Instance) (.type "dict") = some false)
    (ob_Kin_bool : PySem.W.kitOne K (.ref C_Kin) (.type "bool") = some false)
    (ob_Kin_int : PySem.W.kitOne K (.ref C_Kin) (.type "int") = some false)
    (ob_Kin_str : PySem.W.kitOne K (.ref C_Kin) (.type "str") = some false)
    (ob_Kin_list : PySem.W.kitOne K (.ref C_Kin) (.type "list") = some false)
    (ob_Kin_tuple : PySem.W.kitOne K (.ref C_Kin) (.type "tuple") = some false)
    (ob_Kin_dict : PySem.W.kitOne K (.ref C_Kin) (.type "dict") = some false)
    (ob_Store_bool : PySem.W.kitOne K (.ref C_Store) (.type "bool") = some false)
    (ob_Store_int : PySem.W.kitOne K (.ref C_Store) (.type "int") = some false)
    (ob_Store_str : PySem.W.kitOne K (.ref C_Store) (.type "str") = some false)
    (ob_Store_list : PySem.W.kitOne K (.ref C_Store) (.type "list") = some false)
    (ob_Store_tuple : PySem.W.kitOne K (.ref C_Store) (.type "tuple") = some false)
    (ob_Store_dict : PySem.W.kitOne K (.ref C_Store) (.type "dict") = some false)
    (ne_Ref_Builtin : C_Ref ≠ C_Builtin)
    (ne_Ref_Parts : C_Ref ≠ C_Parts)
    (ne_Ref_Table : C_Ref ≠ C_Table)
    (ne_Ref_Instance : C_Ref ≠ C_Instance)
    (ne_Ref_Kin : C_Ref ≠ C_Kin)
    (ne_Ref_Store : C_Ref ≠ C_Store)
    (ne_Builtin_Parts : C_Builtin ≠ C_Parts)
    (ne_Builtin_Table : C_Builtin ≠ C_Table)
    (ne_Builtin_Instance : C_Builtin ≠ C_Instance)
    (ne_Builtin_Kin : C_Builtin ≠ C_Kin)
    (ne_Builtin_Store : C_Builtin ≠ C_Store)
    (ne_Parts_Table : C_Parts ≠ C_Table)
    (ne_Parts_Instance : C_Parts ≠ C_Instance)
    (ne_Parts_Kin : C_Parts ≠ C_Kin)
    (ne_Parts_Store : C_Parts ≠ C_Store)
    (ne_Table_Instance : C_Table ≠ C_Instance)
    (ne_Table_Kin : C_Table ≠ C_Kin)
    (ne_Table_Store : C_Table ≠ C_Store)
    (ne_Instance_Kin : C_Instance ≠ C_Kin)
    (ne_Instance_Store : C_Instance ≠ C_Store)
    (ne_Kin_Store : C_Kin ≠ C_Store)
    (gd_VERBS : GDictF K w "VERBS" [("+", some (.str "add")), ("-", some (.str "subtract")), ("*", some (.str "multiply")), ("/", some (.str "divide")), ("mod", some (.str "divide")), ("<", none), ("<=", none), (">", none), (">=", none)])
    (f0 : EFact K C_ScriptError  "ScriptError.__init__" s_ScriptError___init__) (f1 : MFact K C_Kin "__init__" "Kin.__init__" s_Kin___init__) (f2 : MFact K C_Store "__init__" "Store.__init__" s_Store___init__) (f3 : FnFact K "is_integer" "is_integer" s_is_integer) (f4 : FnFact K "is_true" "is_true" s_is_true) (f5 : FnFact K "equal" "equal" s_equal) (f6 : FnFact K "bounded" "bounded" s_bounded) (f7 : FnFact K "added" "added" s_added) (f8 : FnFact K "reckoned" "reckoned" s_reckoned) (f9 : FnFact K "compared" "compared" s_compared) (f10 : FnFact K "binary" "binary" s_binary) (f11 : FnFact K "unary" "unary" s_unary) (f12 : FnFact K "_law_cell" "_law_cell" s_law_cell) (f13 : FnFact K "_law_begin" "_law_begin" s_law_begin) (f14 : FnFact K "_law_draw" "_law_draw" s_law_draw) (f15 : FnFact K "_law_is_integer" "_law_is_integer" s_law_is_integer) (f16 : FnFact K "_law_greatest" "_law_greatest" s_law_greatest) (f17 : FnFact K "_law_number" "_law_number" s_law_number) (f18 : FnFact K "_law_told" "_law_told" s_law_told) (f19 : FnFact K "_law_due" "_law_due" s_law_due) (f20 : FnFact K "_law_compared" "_law_compared" s_law_compared) (f21 : FnFact K "law" "law" s_law)
    (z_abs : PySem.W.nsIn K mainGlobals "abs" = some none) (z_bool : PySem.W.nsIn K mainGlobals "bool" = some none) (z_int : PySem.W.nsIn K mainGlobals "int" = some none) (z_isinstance : PySem.W.nsIn K mainGlobals "isinstance" = some none) (z_len : PySem.W.nsIn K mainGlobals "len" = some none) (z_list : PySem.W.nsIn K mainGlobals "list" = some none) (z_max : PySem.W.nsIn K mainGlobals "max" = some none) (z_min : PySem.W.nsIn K mainGlobals "min" = some none) (z_range : PySem.W.nsIn K mainGlobals "range" = some none) (z_str : PySem.W.nsIn K mainGlobals "str" = some none) (z_tuple : PySem.W.nsIn K mainGlobals "tuple" = some none)
    (q_ERROR : ∃ t, PySem.W.nsIn K mainGlobals "ERROR" = some (some (.str "Error" t))) (q_GREATEST : ∃ t, PySem.W.nsIn K mainGlobals "GREATEST" = some (some (.int big_GREATEST t))) :
    ∃ fd : FuncData, (∀ (s : Shared) (v : Value), BindsTo s fd ⟨[v], []⟩ [("script", v)]) ∧ ∀ base : Heap, K.In base → base.Ns mainGlobals mg → FnOk P w K mg base CX0 7 fa fd ["script"] (spLaw K) := by
  have T : Txt K mg ⟨C_Ref, C_Builtin, C_Parts, C_Table, C_Instance, C_Kin, C_Store, C_LivequillError, C_ScriptError, C_Waiting⟩ := ⟨PySem.W.mg_none_of X G z_abs,
    PySem.W.mg_none_of X G z_bool,
    PySem.W.mg_none_of X G z_int,
    PySem.W.mg_none_of X G z_isinstance,
    PySem.W.mg_none_of X G z_len,
    PySem.W.mg_none_of X G z_list,
    PySem.W.mg_none_of X G z_max,
    PySem.W.mg_none_of X G z_min,
    PySem.W.mg_none_of X G z_range,
    PySem.W.mg_none_of X G z_str,
    PySem.W.mg_none_of X G z_tuple,
    (let ⟨t, h⟩ := q_ERROR; ⟨t, PySem.W.mg_of X G h⟩),
    (let ⟨t, h⟩ := q_GREATEST; ⟨t, PySem.W.mg_of X G h⟩),
    PySem.W.mg_of X G n_Ref,
    x_Ref.cls,
    ⟨x_Ref.mks, x_Ref.kp, PySem.W.mg_of X G n_Ref⟩,
    PySem.W.mg_of X G n_Builtin,
    x_Builtin.cls,
    ⟨x_Builtin.mks, x_Builtin.kp, PySem.W.mg_of X G n_Builtin⟩,
    PySem.W.mg_of X G n_Parts,
    x_Parts.cls,
    ⟨x_Parts.mks, x_Parts.kp, PySem.W.mg_of X G n_Parts⟩,
    PySem.W.mg_of X G n_Table,
    x_Table.cls,
    ⟨x_Table.mks, x_Table.kp, PySem.W.mg_of X G n_Table⟩,
    PySem.W.mg_of X G n_Instance,
    x_Instance.cls,
    ⟨x_Instance.mks, x_Instance.kp, PySem.W.mg_of X G n_Instance⟩,
    PySem.W.mg_of X G n_Kin,
    x_Kin.cls,
    ⟨x_Kin.mks, x_Kin.kp, PySem.W.mg_of X G n_Kin⟩,
    PySem.W.mg_of X G n_Store,
    x_Store.cls,
    ⟨x_Store.mks, x_Store.kp, PySem.W.mg_of X G n_Store⟩,
    (all_cons ⟨x_Store.cls, na_lines_Store⟩ all_nil),
    (all_cons ⟨x_Kin.cls, na_methods_Kin⟩ all_nil),
    (all_cons ⟨x_Builtin.cls, na_name_Builtin⟩ (all_cons ⟨x_Kin.cls, na_name_Kin⟩ all_nil)),
    (all_cons ⟨x_Ref.cls, na_number_Ref⟩ all_nil),
    (all_cons ⟨x_Store.cls, na_output_Store⟩ all_nil),
    (all_cons ⟨x_Kin.cls, na_parent_Kin⟩ all_nil),
    (all_cons ⟨x_Store.cls, na_taken_Store⟩ all_nil),
    (all_cons ⟨x_Store.cls, na_things_Store⟩ all_nil),
    (all_cons ⟨x_ScriptError.xf, xn_kind_ScriptError⟩ all_nil),
    (all_cons ⟨x_ScriptError.xf, xn_message_ScriptError⟩ all_nil),
    (all_cons x_LivequillError (all_cons x_ScriptError (all_cons x_Waiting all_nil))),
    PySem.W.mg_of X G n_LivequillError,
    PySem.W.mg_of X G n_ScriptError,
    PySem.W.mg_of X G n_Waiting,
    xn_kind_ScriptError,
    xn_message_ScriptError,
    PySem.W.exm_ref x_ScriptError.exC x_ScriptError.hdC x_ScriptError.tyC em_ScriptError_ScriptError,
    ko_ScriptError_LivequillError,
    ko_ScriptError_Waiting,
    ob,
    ⟨(all_cons (x_Ref.ocls ob) (all_cons (x_Builtin.ocls ob) (all_cons (x_Parts.ocls ob) (all_cons (x_Table.ocls ob) (all_cons (x_Instance.ocls ob) (all_cons (x_Kin.ocls ob) (all_cons (x_Store.ocls ob) all_nil))))))), (all_cons (all_cons oo_Ref_Ref (all_cons oo_Ref_Parts (all_cons oo_Ref_Table (all_cons oo_Ref_Instance (all_cons oo_Ref_Kin (all_cons oo_Ref_Builtin all_nil)))))) (all_cons (all_cons oo_Builtin_Ref (all_cons oo_Builtin_Parts (all_cons oo_Builtin_Table (all_cons oo_Builtin_Instance (all_cons oo_Builtin_Kin (all_cons oo_Builtin_Builtin all_nil)))))) (all_cons (all_cons oo_Parts_Ref (all_cons oo_Parts_Parts (all_cons oo_Parts_Table (all_cons oo_Parts_Instance (all_cons oo_Parts_Kin (all_cons oo_Parts_Builtin all_nil)))))) (all_cons (all_cons oo_Table_Ref (all_cons oo_Table_Parts (all_cons oo_Table_Table (all_cons oo_Table_Instance (all_cons oo_Table_Kin (all_cons oo_Table_Builtin all_nil)))))) (all_cons (all_cons oo_Instance_Ref (all_cons oo_Instance_Parts (all_cons oo_Instance_Table (all_cons oo_Instance_Instance (all_cons oo_Instance_Kin (all_cons oo_Instance_Builtin all_nil)))))) (all_cons (all_cons oo_Kin_Ref (all_cons oo_Kin_Parts (all_cons oo_Kin_Table (all_cons oo_Kin_Instance (all_cons oo_Kin_Kin (all_cons oo_Kin_Builtin all_nil)))))) (all_cons (all_cons oo_Store_Ref (all_cons oo_Store_Parts (all_cons oo_Store_Table (all_cons oo_Store_Instance (all_cons oo_Store_Kin (all_cons oo_Store_Builtin all_nil)))))) all_nil))))))), (all_cons (all_cons bo_NoneType_Ref (all_cons bo_NoneType_Parts (all_cons bo_NoneType_Table (all_cons bo_NoneType_Instance (all_cons bo_NoneType_Kin (all_cons bo_NoneType_Builtin all_nil)))))) (all_cons (all_cons bo_bool_Ref (all_cons bo_bool_Parts (all_cons bo_bool_Table (all_cons bo_bool_Instance (all_cons bo_bool_Kin (all_cons bo_bool_Builtin all_nil)))))) (all_cons (all_cons bo_int_Ref (all_cons bo_int_Parts (all_cons bo_int_Table (all_cons bo_int_Instance (all_cons bo_int_Kin (all_cons bo_int_Builtin all_nil)))))) (all_cons (all_cons bo_str_Ref (all_cons bo_str_Parts (all_cons bo_str_Table (all_cons bo_str_Instance (all_cons bo_str_Kin (all_cons bo_str_Builtin all_nil)))))) (all_cons (all_cons bo_list_Ref (all_cons bo_list_Parts (all_cons bo_list_Table (all_cons bo_list_Instance (all_cons bo_list_Kin (all_cons bo_list_Builtin all_nil)))))) (all_cons (all_cons bo_tuple_Ref (all_cons bo_tuple_Parts (all_cons bo_tuple_Table (all_cons bo_tuple_Instance (all_cons bo_tuple_Kin (all_cons bo_tuple_Builtin all_nil)))))) (all_cons (all_cons bo_dict_Ref (all_cons bo_dict_Parts (all_cons bo_dict_Table (all_cons bo_dict_Instance (all_cons bo_dict_Kin (all_cons bo_dict_Builtin all_nil)))))) all_nil))))))), (all_cons (all_cons ob_Ref_bool (all_cons ob_Ref_int (all_cons ob_Ref_str (all_cons ob_Ref_list (all_cons ob_Ref_tuple (all_cons ob_Ref_dict all_nil)))))) (all_cons (all_cons ob_Builtin_bool (all_cons ob_Builtin_int (all_cons ob_Builtin_str (all_cons ob_Builtin_list (all_cons ob_Builtin_tuple (all_cons ob_Builtin_dict all_nil)))))) (all_cons (all_cons ob_Parts_bool (all_cons ob_Parts_int (all_cons ob_Parts_str (all_cons ob_Parts_list (all_cons ob_Parts_tuple (all_cons ob_Parts_dict all_nil)))))) (all_cons (all_cons ob_Table_bool (all_cons ob_Table_int (all_cons ob_Table_str (all_cons ob_Table_list (all_cons ob_Table_tuple (all_cons ob_Table_dict all_nil)))))) (all_cons (all_cons ob_Instance_bool (all_cons ob_Instance_int (all_cons ob_Instance_str (all_cons ob_Instance_list (all_cons ob_Instance_tuple (all_cons ob_Instance_dict all_nil)))))) (all_cons (all_cons ob_Kin_bool (all_cons ob_Kin_int (all_cons ob_Kin_str (all_cons ob_Kin_list (all_cons ob_Kin_tuple (all_cons ob_Kin_dict all_nil)))))) (all_cons (all_cons ob_Store_bool (all_cons ob_Store_int (all_cons ob_Store_str (all_cons ob_Store_list (all_cons ob_Store_tuple (all_cons ob_Store_dict all_nil)))))) all_nil)))))))⟩,
    ⟨eq_false ne_Ref_Builtin, eq_false ne_Ref_Parts, eq_false ne_Ref_Table, eq_false ne_Ref_Instance, eq_false ne_Ref_Kin, eq_false ne_Ref_Store, eq_false (fun h => ne_Ref_Builtin h.symm), eq_false ne_Builtin_Parts, eq_false ne_Builtin_Table, eq_false ne_Builtin_Instance, eq_false ne_Builtin_Kin, eq_false ne_Builtin_Store, eq_false (fun h => ne_Ref_Parts h.symm), eq_false (fun h => ne_Builtin_Parts h.symm), eq_false ne_Parts_Table, eq_false ne_Parts_Instance, eq_false ne_Parts_Kin, eq_false ne_Parts_Store, eq_false (fun h => ne_Ref_Table h.symm), eq_false (fun h => ne_Builtin_Table h.symm), eq_false (fun h => ne_Parts_Table h.symm), eq_false ne_Table_Instance, eq_false ne_Table_Kin, eq_false ne_Table_Store, eq_false (fun h => ne_Ref_Instance h.symm), eq_false (fun h => ne_Builtin_Instance h.symm), eq_false (fun h => ne_Parts_Instance h.symm), eq_false (fun h => ne_Table_Instance h.symm), eq_false ne_Instance_Kin, eq_false ne_Instance_Store, eq_false (fun h => ne_Ref_Kin h.symm), eq_false (fun h => ne_Builtin_Kin h.symm), eq_false (fun h => ne_Parts_Kin h.symm), eq_false (fun h => ne_Table_Kin h.symm), eq_false (fun h => ne_Instance_Kin h.symm), eq_false ne_Kin_Store, eq_false (fun h => ne_Ref_Store h.symm), eq_false (fun h => ne_Builtin_Store h.symm), eq_false (fun h => ne_Parts_Store h.symm), eq_false (fun h => ne_Table_Store h.symm), eq_false (fun h => ne_Instance_Store h.symm), eq_false (fun h => ne_Kin_Store h.symm)⟩⟩
  have TD : TxD w K mg := ⟨gd_VERBS.get X G⟩
  have a0 : AtE K C_ScriptError "ScriptError.__init__" s_ScriptError___init__ ["self", "kind", "message"] := AtE.of f0 fun _ _ _ _ _ _ us hl => match us, hl with | [_, _, _], _ => rfl
  have a1 : AtM K C_Kin "__init__" "Kin.__init__" s_Kin___init__ ["self", "name", "parent"] := AtM.of f1 fun _ _ _ _ _ _ us hl => match us, hl with | [_, _, _], _ => rfl
  have a2 : AtM K C_Store "__init__" "Store.__init__" s_Store___init__ ["self", "lines"] := AtM.of f2 fun _ _ _ _ _ _ us hl => match us, hl with | [_, _], _ => rfl
  have a3 : At K mg "is_integer" "is_integer" s_is_integer ["value"] := At.of X G f3 fun _ _ _ _ _ _ us hl => match us, hl with | [_], _ => rfl
  have a4 : At K mg "is_true" "is_true" s_is_true ["value"] := At.of X G f4 fun _ _ _ _ _ _ us hl => match us, hl with | [_], _ => rfl
  have a5 : At K mg "equal" "equal" s_equal ["x", "y"] := At.of X G f5 fun _ _ _ _ _ _ us hl => match us, hl with | [_, _], _ => rfl
  have a6 : At K mg "bounded" "bounded" s_bounded ["number"] := At.of X G f6 fun _ _ _ _ _ _ us hl => match us, hl with | [_], _ => rfl
  have a7 : At K mg "added" "added" s_added ["store", "x", "y"] := At.of X G f7 fun _ _ _ _ _ _ us hl => match us, hl with | [_, _, _], _ => rfl
  have a8 : At K mg "reckoned" "reckoned" s_reckoned ["store", "operator", "x", "y"] := At.of X G f8 fun _ _ _ _ _ _ us hl => match us, hl with | [_, _, _, _], _ => rfl
  have a9 : At K mg "compared" "compared" s_compared ["store", "operator", "x", "y"] := At.of X G f9 fun _ _ _ _ _ _ us hl => match us, hl with | [_, _, _, _], _ => rfl
  have a10 : At K mg "binary" "binary" s_binary ["store", "operator", "x", "y"] := At.of X G f10 fun _ _ _ _ _ _ us hl => match us, hl with | [_, _, _, _], _ => rfl
  have a11 : At K mg "unary" "unary" s_unary ["store", "operator", "x"] := At.of X G f11 fun _ _ _ _ _ _ us hl => match us, hl with | [_, _, _], _ => rfl
  have a12 : At K mg "_law_cell" "_law_cell" s_law_cell ["script", "k"] := At.of X G f12 fun _ _ _ _ _ _ us hl => match us, hl with | [_, _], _ => rfl
  have a13 : At K mg "_law_begin" "_law_begin" s_law_begin ["script", "k"] := At.of X G f13 fun _ _ _ _ _ _ us hl => match us, hl with | [_, _], _ => rfl
  have a14 : At K mg "_law_draw" "_law_draw" s_law_draw ["state", "many"] := At.of X G f14 fun _ _ _ _ _ _ us hl => match us, hl with | [_, _], _ => rfl
  have a15 : At K mg "_law_is_integer" "_law_is_integer" s_law_is_integer ["told"] := At.of X G f15 fun _ _ _ _ _ _ us hl => match us, hl with | [_], _ => rfl
  have a16 : At K mg "_law_greatest" "_law_greatest" s_law_greatest [] := At.of X G f16 fun _ _ _ _ _ _ us hl => match us, hl with | [], _ => rfl
  have a17 : At K mg "_law_number" "_law_number" s_law_number ["state"] := At.of X G f17 fun _ _ _ _ _ _ us hl => match us, hl with | [_], _ => rfl
  have a18 : At K mg "_law_told" "_law_told" s_law_told ["operator", "x", "y"] := At.of X G f18 fun _ _ _ _ _ _ us hl => match us, hl with | [_, _, _], _ => rfl
  have a19 : At K mg "_law_due" "_law_due" s_law_due ["operator", "x", "y"] := At.of X G f19 fun _ _ _ _ _ _ us hl => match us, hl with | [_, _, _], _ => rfl
  have a20 : At K mg "_law_compared" "_law_compared" s_law_compared ["operator", "x", "y"] := At.of X G f20 fun _ _ _ _ _ _ us hl => match us, hl with | [_, _, _], _ => rfl
  obtain ⟨f, oc, od, an, sl, kV, dc, pm, cd, ct, a, l, cc, k⟩ := f21.ex
  have e := hfa.symm.trans (PySem.W.mg_of X G a)
  cases e
  have F1 := fun_mk (st := s_law) l cc k
  have al : At K mg "law" "law" s_law ["script"] := ⟨_, _, F1, F1.binds fun _ _ _ _ _ _ us hl => match us, hl with | [_], _ => rfl, PySem.W.mg_of X G a⟩
  refine ⟨PySem.W.fnOf "law" "law" (defArgs s_law) (defBody s_law) (defScope s_law) .none kV dc pm an cd ct, fun s v => .of_eq rfl, fun base _ _ => ?_⟩
  exact law_fn F1 T TD a0 a1 a2 a3 a4 a5 a6 a7 a8 a9 a10 a11 a12 a13 a14 a15 a16 a17 a18 a19 a20
end My
open PySem PySem.W PyProof.Rows
set_option maxRecDepth 100000 in
set_option maxHeartbeats 0 in
theorem PySem.Challenge.cw_livequill_k17_operators_of_integers_holds : PySem.Challenge.rw_livequill_k17_operators_of_integers.Holds := by
  w_on; o_law; k_head; (case hw => w_witness2)
  k_fill
  refine L2.walk_ofB (l := PySem.Challenge.rw_livequill_k17_operators_of_integers) (n := 63) (k := 7) (x := "script") (CX := fun _ => L2.CX0) (sp := fun w => My.spLaw _) rfl (by decide) rfl ⟨rfl, by decide, by decide⟩ (fun w h Y => PySem.W.kIn_of Y) ?F (fun _ _ a ns hl hb _ hS => ⟨a, ns, rfl, hS, hl, hb, fun _ => rfl⟩) (fun _ _ _ _ _ h => h)
  case F =>
    intro w mg fa h KX G hmg
    refine' My.all_mk KX G hmg ?n_Ref ?n_Builtin ?n_Parts ?n_Table ?n_Instance ?n_Kin ?n_Store ?n_LivequillError ?n_ScriptError ?n_Waiting (Fx.ClsFact.mk ?pg_Ref ?hd_Ref ?po_Ref ?sa_Ref ?ci_Ref ?mr_Ref ?mk_Ref ?kp_Ref) (Fx.ClsFact.mk ?pg_Builtin ?hd_Builtin ?po_Builtin ?sa_Builtin ?ci_Builtin ?mr_Builtin ?mk_Builtin ?kp_Builtin) (Fx.ClsFact.mk ?pg_Parts ?hd_Parts ?po_Parts ?sa_Parts ?ci_Parts ?mr_Parts ?mk_Parts ?kp_Parts) (Fx.ClsFact.mk ?pg_Table ?hd_Table ?po_Table ?sa_Table ?ci_Table ?mr_Table ?mk_Table ?kp_Table) (Fx.ClsFact.mk ?pg_Instance ?hd_Instance ?po_Instance ?sa_Instance ?ci_Instance ?mr_Instance ?mk_Instance ?kp_Instance) (Fx.ClsFact.mk ?pg_Kin ?hd_Kin ?po_Kin ?sa_Kin ?ci_Kin ?mr_Kin ?mk_Kin ?kp_Kin) (Fx.ClsFact.mk ?pg_Store ?hd_Store ?po_Store ?sa_Store ?ci_Store ?mr_Store ?mk_Store ?kp_Store) (Fx.ExcFact.of ?xl_LivequillError ?xr_LivequillError ?xsa_LivequillError ?xga_LivequillError ?xgg_LivequillError ?xexC_LivequillError ?xtyC_LivequillError ?xkC_LivequillError ?xhdC_LivequillError ?xci_LivequillError ?xmr_LivequillError) (Fx.ExcFact.of ?xl_ScriptError ?xr_ScriptError ?xsa_ScriptError ?xga_ScriptError ?xgg_ScriptError ?xexC_ScriptError ?xtyC_ScriptError ?xkC_ScriptError ?xhdC_ScriptError ?xci_ScriptError ?xmr_ScriptError) (Fx.ExcFact.of ?xl_Waiting ?xr_Waiting ?xsa_Waiting ?xga_Waiting ?xgg_Waiting ?xexC_Waiting ?xtyC_Waiting ?xkC_Waiting ?xhdC_Waiting ?xci_Waiting ?xmr_Waiting) ?xn_kind_ScriptError ?xn_message_ScriptError ?em_ScriptError_ScriptError ?ko_ScriptError_LivequillError ?ko_ScriptError_Waiting (Fx.ObjFact.mk ?ob_gd ?ob_tk) ?na_lines_Store ?na_methods_Kin ?na_name_Builtin ?na_name_Kin ?na_number_Ref ?na_output_Store ?na_parent_Kin ?na_taken_Store ?na_things_Store ?oo_Ref_Ref ?oo_Ref_Parts ?oo_Ref_Table ?oo_Ref_Instance ?oo_Ref_Kin ?oo_Ref_Builtin ?oo_Builtin_Ref ?oo_Builtin_Parts ?oo_Builtin_Table ?oo_Builtin_Instance ?oo_Builtin_Kin ?oo_Builtin_Builtin ?oo_Parts_Ref ?oo_Parts_Parts ?oo_Parts_Table ?oo_Parts_Instance ?oo_Parts_Kin ?oo_Parts_Builtin ?oo_Table_Ref ?oo_Table_Parts ?oo_Table_Table ?oo_Table_Instance ?oo_Table_Kin ?oo_Table_Builtin ?oo_Instance_Ref ?oo_Instance_Parts ?oo_Instance_Table ?oo_Instance_Instance ?oo_Instance_Kin ?oo_Instance_Builtin ?oo_Kin_Ref ?oo_Kin_Parts ?oo_Kin_Table ?oo_Kin_Instance ?oo_Kin_Kin ?oo_Kin_Builtin ?oo_Store_Ref ?oo_Store_Parts ?oo_Store_Table ?oo_Store_Instance ?oo_Store_Kin ?oo_Store_Builtin ?bo_NoneType_Ref ?bo_NoneType_Parts ?bo_NoneType_Table ?bo_NoneType_Instance ?bo_NoneType_Kin ?bo_NoneType_Builtin ?bo_bool_Ref ?bo_bool_Parts ?bo_bool_Table ?bo_bool_Instance ?bo_bool_Kin ?bo_bool_Builtin ?bo_int_Ref ?bo_int_Parts ?bo_int_Table ?bo_int_Instance ?bo_int_Kin ?bo_int_Builtin ?bo_str_Ref ?bo_str_Parts ?bo_str_Table ?bo_str_Instance ?bo_str_Kin ?bo_str_Builtin ?bo_list_Ref ?bo_list_Parts ?bo_list_Table ?bo_list_Instance ?bo_list_Kin ?bo_list_Builtin ?bo_tuple_Ref ?bo_tuple_Parts ?bo_tuple_Table ?bo_tuple_Instance ?bo_tuple_Kin ?bo_tuple_Builtin ?bo_dict_Ref ?bo_dict_Parts ?bo_dict_Table ?bo_dict_Instance ?bo_dict_Kin ?bo_dict_Builtin ?ob_Ref_bool ?ob_Ref_int ?ob_Ref_str ?ob_Ref_list ?ob_Ref_tuple ?ob_Ref_dict ?ob_Builtin_bool ?ob_Builtin_int ?ob_Builtin_str ?ob_Builtin_list ?ob_Builtin_tuple ?ob_Builtin_dict ?ob_Parts_bool ?ob_Parts_int ?ob_Parts_str ?ob_Parts_list ?ob_Parts_tuple ?ob_Parts_dict ?ob_Table_bool ?ob_Table_int ?ob_Table_str ?ob_Table_list ?ob_Table_tuple ?ob_Table_dict ?ob_Instance_bool ?ob_Instance_int ?ob_Instance_str ?ob_Instance_list ?ob_Instance_tuple ?ob_Instance_dict ?ob_Kin_bool ?ob_Kin_int ?ob_Kin_str ?ob_Kin_list ?ob_Kin_tuple ?ob_Kin_dict ?ob_Store_bool ?ob_Store_int ?ob_Store_str ?ob_Store_list ?ob_Store_tuple ?ob_Store_dict ?ne_Ref_Builtin ?ne_Ref_Parts ?ne_Ref_Table ?ne_Ref_Instance ?ne_Ref_Kin ?ne_Ref_Store ?ne_Builtin_Parts ?ne_Builtin_Table ?ne_Builtin_Instance ?ne_Builtin_Kin ?ne_Builtin_Store ?ne_Parts_Table ?ne_Parts_Instance ?ne_Parts_Kin ?ne_Parts_Store ?ne_Table_Instance ?ne_Table_Kin ?ne_Table_Store ?ne_Instance_Kin ?ne_Instance_Store ?ne_Kin_Store (Fx.GDictF.of ?gn_VERBS ?gl_VERBS ?gk_VERBS ?gw_VERBS (Fx.all_cons (Fx.ent_str ?ge0_VERBS) (Fx.all_cons (Fx.ent_str ?ge1_VERBS) (Fx.all_cons (Fx.ent_str ?ge2_VERBS) (Fx.all_cons (Fx.ent_str ?ge3_VERBS) (Fx.all_cons (Fx.ent_str ?ge4_VERBS) (Fx.all_cons (Fx.ent_none ?ge5_VERBS) (Fx.all_cons (Fx.ent_none ?ge6_VERBS) (Fx.all_cons (Fx.ent_none ?ge7_VERBS) (Fx.all_cons (Fx.ent_none ?ge8_VERBS) Fx.all_nil)))))))))) (Fx.EFact.of ?a0 ?l0 ?c0 ?k0 ?i0) (Fx.MFact.of ?a1 ?l1 ?c1 ?k1 ?i1) (Fx.MFact.of ?a2 ?l2 ?c2 ?k2 ?i2) (Fx.FnFact.of ?a3 ?l3 ?c3 ?k3) (Fx.FnFact.of ?a4 ?l4 ?c4 ?k4) (Fx.FnFact.of ?a5 ?l5 ?c5 ?k5) (Fx.FnFact.of ?a6 ?l6 ?c6 ?k6) (Fx.FnFact.of ?a7 ?l7 ?c7 ?k7) (Fx.FnFact.of ?a8 ?l8 ?c8 ?k8) (Fx.FnFact.of ?a9 ?l9 ?c9 ?k9) (Fx.FnFact.of ?a10 ?l10 ?c10 ?k10) (Fx.FnFact.of ?a11 ?l11 ?c11 ?k11) (Fx.FnFact.of ?a12 ?l12 ?c12 ?k12) (Fx.FnFact.of ?a13 ?l13 ?c13 ?k13) (Fx.FnFact.of ?a14 ?l14 ?c14 ?k14) (Fx.FnFact.of ?a15 ?l15 ?c15 ?k15) (Fx.FnFact.of ?a16 ?l16 ?c16 ?k16) (Fx.FnFact.of ?a17 ?l17 ?c17 ?k17) (Fx.FnFact.of ?a18 ?l18 ?c18 ?k18) (Fx.FnFact.of ?a19 ?l19 ?c19 ?k19) (Fx.FnFact.of ?a20 ?l20 ?c20 ?k20) (Fx.FnFact.of ?a21 ?l21 ?c21 ?k21) ?z_abs ?z_bool ?z_int ?z_isinstance ?z_len ?z_list ?z_max ?z_min ?z_range ?z_str ?z_tuple (Fx.gstr_of ?q_ERROR) (Fx.gint_of ?q_GREATEST)
    (case n_Ref => k_is)
    (case n_Builtin => k_is)
    (case n_Parts => k_is)
    (case n_Table => k_is)
    (case n_Instance => k_is)
    (case n_Kin => k_is)
    (case n_Store => k_is)
    (case n_LivequillError => k_is)
    (case n_ScriptError => k_is)
    (case n_Waiting => k_is)
    (case pg_Ref => k_is); (case hd_Ref => k_is); (case po_Ref => k_is); (case sa_Ref => k_is); (case ci_Ref => k_is); (case mr_Ref => k_is); (case mk_Ref => k_is); (case kp_Ref => k_is)
    (case pg_Builtin => k_is); (case hd_Builtin => k_is); (case po_Builtin => k_is); (case sa_Builtin => k_is); (case ci_Builtin => k_is); (case mr_Builtin => k_is); (case mk_Builtin => k_is); (case kp_Builtin => k_is)
    (case pg_Parts => k_is); (case hd_Parts => k_is); (case po_Parts => k_is); (case sa_Parts => k_is); (case ci_Parts => k_is); (case mr_Parts => k_is); (case mk_Parts => k_is); (case kp_Parts => k_is)
    (case pg_Table => k_is); (case hd_Table => k_is); (case po_Table => k_is); (case sa_Table => k_is); (case ci_Table => k_is); (case mr_Table => k_is); (case mk_Table => k_is); (case kp_Table => k_is)
    (case pg_Instance => k_is); (case hd_Instance => k_is); (case po_Instance => k_is); (case sa_Instance => k_is); (case ci_Instance => k_is); (case mr_Instance => k_is); (case mk_Instance => k_is); (case kp_Instance => k_is)
    (case pg_Kin => k_is); (case hd_Kin => k_is); (case po_Kin => k_is); (case sa_Kin => k_is); (case ci_Kin => k_is); (case mr_Kin => k_is); (case mk_Kin => k_is); (case kp_Kin => k_is)
    (case pg_Store => k_is); (case hd_Store => k_is); (case po_Store => k_is); (case sa_Store => k_is); (case ci_Store => k_is); (case mr_Store => k_is); (case mk_Store => k_is); (case kp_Store => k_is)
    (case xl_LivequillError => k_is); (case xr_LivequillError => decide +kernel); (case xsa_LivequillError => k_is); (case xga_LivequillError => k_is); (case xgg_LivequillError => k_is); (case xexC_LivequillError => k_is); (case xtyC_LivequillError => k_is); (case xkC_LivequillError => k_is); (case xhdC_LivequillError => k_is); (case xci_LivequillError => k_is); (case xmr_LivequillError => k_is)
    (case xl_ScriptError => k_is); (case xr_ScriptError => decide +kernel); (case xsa_ScriptError => k_is); (case xga_ScriptError => k_is); (case xgg_ScriptError => k_is); (case xexC_ScriptError => k_is); (case xtyC_ScriptError => k_is); (case xkC_ScriptError => k_is); (case xhdC_ScriptError => k_is); (case xci_ScriptError => k_is); (case xmr_ScriptError => k_is)
    (case xl_Waiting => k_is); (case xr_Waiting => decide +kernel); (case xsa_Waiting => k_is); (case xga_Waiting => k_is); (case xgg_Waiting => k_is); (case xexC_Waiting => k_is); (case xtyC_Waiting => k_is); (case xkC_Waiting => k_is); (case xhdC_Waiting => k_is); (case xci_Waiting => k_is); (case xmr_Waiting => k_is)
    (case xn_kind_ScriptError => k_is)
    (case xn_message_ScriptError => k_is)
    (case em_ScriptError_ScriptError => k_is)
    (case ko_ScriptError_LivequillError => first | kit_is | k_is)
    (case ko_ScriptError_Waiting => first | kit_is | k_is)
    (case ob_gd => k_is); (case ob_tk => k_is)
    (case na_lines_Store => k_is)
    (case na_methods_Kin => k_is)
    (case na_name_Builtin => k_is)
    (case na_name_Kin => k_is)
    (case na_number_Ref => k_is)
    (case na_output_Store => k_is)
    (case na_parent_Kin => k_is)
    (case na_taken_Store => k_is)
    (case na_things_Store => k_is)
    (case oo_Ref_Ref => kit_is)
    (case oo_Ref_Parts => kit_is)
    (case oo_Ref_Table => kit_is)
    (case oo_Ref_Instance => kit_is)
    (case oo_Ref_Kin => kit_is)
    (case oo_Ref_Builtin => kit_is)
    (case oo_Builtin_Ref => kit_is)
    (case oo_Builtin_Parts => kit_is)
    (case oo_Builtin_Table => kit_is)
    (case oo_Builtin_Instance => kit_is)
    (case oo_Builtin_Kin => kit_is)
    (case oo_Builtin_Builtin => kit_is)
    (case oo_Parts_Ref => kit_is)
    (case oo_Parts_Parts => kit_is)
    (case oo_Parts_Table => kit_is)
    (case oo_Parts_Instance => kit_is)
    (case oo_Parts_Kin => kit_is)
    (case oo_Parts_Builtin => kit_is)
    (case oo_Table_Ref => kit_is)
    (case oo_Table_Parts => kit_is)
    (case oo_Table_Table => kit_is)
    (case oo_Table_Instance => kit_is)
    (case oo_Table_Kin => kit_is)
    (case oo_Table_Builtin => kit_is)
    (case oo_Instance_Ref => kit_is)
    (case oo_Instance_Parts => kit_is)
    (case oo_Instance_Table => kit_is)
    (case oo_Instance_Instance => kit_is)
    (case oo_Instance_Kin => kit_is)
    (case oo_Instance_Builtin => kit_is)
    (case oo_Kin_Ref => kit_is)
    (case oo_Kin_Parts => kit_is)
    (case oo_Kin_Table => kit_is)
    (case oo_Kin_Instance => kit_is)
    (case oo_Kin_Kin => kit_is)
    (case oo_Kin_Builtin => kit_is)
    (case oo_Store_Ref => kit_is)
    (case oo_Store_Parts => kit_is)
    (case oo_Store_Table => kit_is)
    (case oo_Store_Instance => kit_is)
    (case oo_Store_Kin => kit_is)
    (case oo_Store_Builtin => kit_is)
    (case bo_NoneType_Ref => kit_is)
    (case bo_NoneType_Parts => kit_is)
    (case bo_NoneType_Table => kit_is)
    (case bo_NoneType_Instance => kit_is)
    (case bo_NoneType_Kin => kit_is)
    (case bo_NoneType_Builtin => kit_is)
    (case bo_bool_Ref => kit_is)
    (case bo_bool_Parts => kit_is)
    (case bo_bool_Table => kit_is)
    (case bo_bool_Instance => kit_is)
    (case bo_bool_Kin => kit_is)
    (case bo_bool_Builtin => kit_is)
    (case bo_int_Ref => kit_is)
    (case bo_int_Parts => kit_is)
    (case bo_int_Table => kit_is)
    (case bo_int_Instance => kit_is)
    (case bo_int_Kin => kit_is)
    (case bo_int_Builtin => kit_is)
    (case bo_str_Ref => kit_is)
    (case bo_str_Parts => kit_is)
    (case bo_str_Table => kit_is)
    (case bo_str_Instance => kit_is)
    (case bo_str_Kin => kit_is)
    (case bo_str_Builtin => kit_is)
    (case bo_list_Ref => kit_is)
    (case bo_list_Parts => kit_is)
    (case bo_list_Table => kit_is)
    (case bo_list_Instance => kit_is)
    (case bo_list_Kin => kit_is)
    (case bo_list_Builtin => kit_is)
    (case bo_tuple_Ref => kit_is)
    (case bo_tuple_Parts => kit_is)
    (case bo_tuple_Table => kit_is)
    (case bo_tuple_Instance => kit_is)
    (case bo_tuple_Kin => kit_is)
    (case bo_tuple_Builtin => kit_is)
    (case bo_dict_Ref => kit_is)
    (case bo_dict_Parts => kit_is)
    (case bo_dict_Table => kit_is)
    (case bo_dict_Instance => kit_is)
    (case bo_dict_Kin => kit_is)
    (case bo_dict_Builtin => kit_is)
    (case ob_Ref_bool => kit_is)
    (case ob_Ref_int => kit_is)
    (case ob_Ref_str => kit_is)
    (case ob_Ref_list => kit_is)
    (case ob_Ref_tuple => kit_is)
    (case ob_Ref_dict => kit_is)
    (case ob_Builtin_bool => kit_is)
    (case ob_Builtin_int => kit_is)
    (case ob_Builtin_str => kit_is)
    (case ob_Builtin_list => kit_is)
    (case ob_Builtin_tuple => kit_is)
    (case ob_Builtin_dict => kit_is)
    (case ob_Parts_bool => kit_is)
    (case ob_Parts_int => kit_is)
    (case ob_Parts_str => kit_is)
    (case ob_Parts_list => kit_is)
    (case ob_Parts_tuple => kit_is)
    (case ob_Parts_dict => kit_is)
    (case ob_Table_bool => kit_is)
    (case ob_Table_int => kit_is)
    (case ob_Table_str => kit_is)
    (case ob_Table_list => kit_is)
    (case ob_Table_tuple => kit_is)
    (case ob_Table_dict => kit_is)
    (case ob_Instance_bool => kit_is)
    (case ob_Instance_int => kit_is)
    (case ob_Instance_str => kit_is)
    (case ob_Instance_list => kit_is)
    (case ob_Instance_tuple => kit_is)
    (case ob_Instance_dict => kit_is)
    (case ob_Kin_bool => kit_is)
    (case ob_Kin_int => kit_is)
    (case ob_Kin_str => kit_is)
    (case ob_Kin_list => kit_is)
    (case ob_Kin_tuple => kit_is)
    (case ob_Kin_dict => kit_is)
    (case ob_Store_bool => kit_is)
    (case ob_Store_int => kit_is)
    (case ob_Store_str => kit_is)
    (case ob_Store_list => kit_is)
    (case ob_Store_tuple => kit_is)
    (case ob_Store_dict => kit_is)
    (case ne_Ref_Builtin => decide)
    (case ne_Ref_Parts => decide)
    (case ne_Ref_Table => decide)
    (case ne_Ref_Instance => decide)
    (case ne_Ref_Kin => decide)
    (case ne_Ref_Store => decide)
    (case ne_Builtin_Parts => decide)
    (case ne_Builtin_Table => decide)
    (case ne_Builtin_Instance => decide)
    (case ne_Builtin_Kin => decide)
    (case ne_Builtin_Store => decide)
    (case ne_Parts_Table => decide)
    (case ne_Parts_Instance => decide)
    (case ne_Parts_Kin => decide)
    (case ne_Parts_Store => decide)
    (case ne_Table_Instance => decide)
    (case ne_Table_Kin => decide)
    (case ne_Table_Store => decide)
    (case ne_Instance_Kin => decide)
    (case ne_Instance_Store => decide)
    (case ne_Kin_Store => decide)
    (case gn_VERBS => k_is); (case gl_VERBS => k_is); (case gk_VERBS => k_keys); (case gw_VERBS => decide); (case ge0_VERBS => k_is); (case ge1_VERBS => k_is); (case ge2_VERBS => k_is); (case ge3_VERBS => k_is); (case ge4_VERBS => k_is); (case ge5_VERBS => k_is); (case ge6_VERBS => k_is); (case ge7_VERBS => k_is); (case ge8_VERBS => k_is)
    (case a0 => k_is); (case l0 => k_is); (case c0 => k_is); (case k0 => k_is); (case i0 => k_is)
    (case a1 => k_is); (case l1 => k_is); (case c1 => k_is); (case k1 => k_is); (case i1 => k_is)
    (case a2 => k_is); (case l2 => k_is); (case c2 => k_is); (case k2 => k_is); (case i2 => k_is)
    (case a3 => k_is); (case l3 => k_is); (case c3 => k_is); (case k3 => k_is)
    (case a4 => k_is); (case l4 => k_is); (case c4 => k_is); (case k4 => k_is)
    (case a5 => k_is); (case l5 => k_is); (case c5 => k_is); (case k5 => k_is)
    (case a6 => k_is); (case l6 => k_is); (case c6 => k_is); (case k6 => k_is)
    (case a7 => k_is); (case l7 => k_is); (case c7 => k_is); (case k7 => k_is)
    (case a8 => k_is); (case l8 => k_is); (case c8 => k_is); (case k8 => k_is)
    (case a9 => k_is); (case l9 => k_is); (case c9 => k_is); (case k9 => k_is)
    (case a10 => k_is); (case l10 => k_is); (case c10 => k_is); (case k10 => k_is)
    (case a11 => k_is); (case l11 => k_is); (case c11 => k_is); (case k11 => k_is)
    (case a12 => k_is); (case l12 => k_is); (case c12 => k_is); (case k12 => k_is)
    (case a13 => k_is); (case l13 => k_is); (case c13 => k_is); (case k13 => k_is)
    (case a14 => k_is); (case l14 => k_is); (case c14 => k_is); (case k14 => k_is)
    (case a15 => k_is); (case l15 => k_is); (case c15 => k_is); (case k15 => k_is)
    (case a16 => k_is); (case l16 => k_is); (case c16 => k_is); (case k16 => k_is)
    (case a17 => k_is); (case l17 => k_is); (case c17 => k_is); (case k17 => k_is)
    (case a18 => k_is); (case l18 => k_is); (case c18 => k_is); (case k18 => k_is)
    (case a19 => k_is); (case l19 => k_is); (case c19 => k_is); (case k19 => k_is)
    (case a20 => k_is); (case l20 => k_is); (case c20 => k_is); (case k20 => k_is)
    (case a21 => k_is); (case l21 => k_is); (case c21 => k_is); (case k21 => k_is)
    (case z_abs => k_is); (case z_bool => k_is); (case z_int => k_is); (case z_isinstance => k_is); (case z_len => k_is); (case z_list => k_is); (case z_max => k_is); (case z_min => k_is); (case z_range => k_is); (case z_str => k_is); (case z_tuple => k_is)
    (case q_ERROR => k_is)
    (case q_GREATEST => k_is)
