import PyProof.Rows.All
import Wide.All
import OpenK.AllK
import Wide.FinOn
import HandS.ForMost
import HandS.StrMore
import HandS.Wide
import HandS.IsInst
import HandS.Flow
import HandS.Codes
import HandS.Deep
import HandS.EndBits
import HandS.Walk
import KE.DataEq
import HandS.OwnEq
import HandS.Comp
import HandS.Property
import KE.KIsAll
import KE.KExcIs
import HandS.Exc
import HandS.ExcOwn
import HandS.ExcInit
import HandS.ExcField
import HandS.ExcIs
import HandS.TryOnly
import HandS.TryMany
import HandS.CallSlots
import HandS.WordsExc
import HandS.Small
import HandS.FStr
import HandS.More
import PySem.Challenge.RW_livequill_k19_equality_and_truth
set_option Elab.async false
set_option linter.all false
set_option maxRecDepth 100000
/-! Fx: readings that compute: every operation is one function of its values, whatever their kinds. -/
namespace Fx
open PySem PySem.Spec PyProof.Rows L2

/-! ### weakening -/
section
variable {X : Cx}
theorem pe_wk {e : Expr} {t t' : TE} (h : PE X e t) (w : ∀ σ H Q, t' σ H Q → t σ H Q) : PE X e t' := ⟨fun pins s σ H Q I q => h.run pins s σ H Q I (w σ H Q q)⟩
theorem pt_wk {e : Expr} {t t' : TT} (h : PT X e t) (w : ∀ σ H Q, t' σ H Q → t σ H Q) : PT X e t' := ⟨fun pins s σ H Q I q => h.run pins s σ H Q I (w σ H Q q)⟩
theorem ps_wk {e : Stmt} {t t' : TS} (h : PS X e t) (w : ∀ D σ H, t' D σ H → t D σ H) : PS X e t' := ⟨fun pins s σ H D I q => h.run pins s σ H D I (w D σ H q)⟩
theorem op_wk {f : Value → Value → Sem Value} {r r' : R2} (h : OpR X f r) (w : ∀ x y H Q, r' x y H Q → r x y H Q) : OpR X f r' := fun pins s σ H x y v u Q I rx ry q => h pins s σ H x y v u Q I rx ry (w x y H Q q)
theorem call_wk {f : Value} {r r' : List V → Hp → VK → Prop} (h : CallR X f r) (w : ∀ xs H Q, r' xs H Q → r xs H Q) : CallR X f r' := fun pins s σ H xs us Q I rx q => h pins s σ H xs us Q I rx (w xs H Q q)

/-! ### names -/
def fVar (i : Nat) : TE := fun σ H Q => match σ[i]? with
  | some (some v) => Q v H
  | _ => False
theorem fe_var (i : Nat) {x : Str} {pos : Pos} (hN : X.N[i]? = some x := by rfl) (hv : Vis X.env.scope x := by first | exact Or.inl rfl | exact Or.inr (Or.inl rfl) | exact Or.inr (Or.inr rfl)) (hd : (x == ("__debug__" : Str)) = false := by decide)
    (hcd : (x == ("__classdict__" : Str)) = false := by decide) : PE X (.Name x pos) (fVar i) := pe_wk (pe_var hN hv hd hcd) fun σ H Q q => by
  unfold fVar at q
  split at q
  · exact ⟨_, by assumption, q⟩
  · exact q.elim

theorem same_new {H : Hp} {p : Addr} {o : HO} (h : H p = none) : Same H (upd H p o) := fun b x e => by
  rw [upd_ne (ne_of_none e h)]
  exact e
/-- a new tuple, a new list: behind it a heap that has it and keeps the rest -/
def fTup (t : TA) : TE := fun σ H Q => t σ H fun xs H1 => xs.length ≤ 100000 ∧ ∀ p H2, H1 p = none → Same H1 H2 → H2 p = some (.tup xs) → Q (.ref p) H2
def fLst (t : TA) : TE := fun σ H Q => t σ H fun xs H1 => xs.length ≤ 100000 ∧ ∀ p H2, H1 p = none → Same H1 H2 → H2 p = some (.lst xs) → Q (.ref p) H2
theorem line5 {n : Nat} (h : n ≤ 100000) : n ≤ sizeLine := Nat.le_trans h (by decide)
section
variable {es : List Expr} {t : TA} {pos : Pos}
theorem fe_tup {x1} (h : PA X es t) : PE X (.Tuple es x1 pos) (fTup t) := by
  refine ⟨fun pins s σ H Q I hq => ?_⟩
  refine wpAny_Tuple_spliced (thn (h.run pos pins s σ H _ I hq) fun us s1 ⟨xs, H1, I1, r, z, q⟩ => ⟨by rw [← r.length]; exact line5 z, ?_⟩)
  have hf : H1 s1.heap.objs.size = none := I1.hok.fresh (Nat.le_refl _)
  refine ⟨.ref s1.heap.objs.size, upd H1 s1.heap.objs.size (.tup xs), I1.laid (t' := s1.toks) (fun b u e => Heap.get?_push_of_some _ e) (Nat.le_refl _) ?_, rfl, q _ _ hf (same_new hf) upd_same⟩
  exact ⟨line5 z, us, r, ⟨_, Heap.get?_push_size _ rfl, rfl, _, rfl⟩⟩
theorem fe_lst (h : PA X es t) : PE X (.List es pos) (fLst t) := by
  refine ⟨fun pins s σ H Q I hq => ?_⟩
  refine wpAny_List_spliced (thn (h.run pos pins s σ H _ I hq) fun us s1 ⟨xs, H1, I1, r, z, q⟩ => ⟨by rw [← r.length]; exact line5 z, ?_⟩)
  have hf : H1 s1.heap.objs.size = none := I1.hok.fresh (Nat.le_refl _)
  refine ⟨.ref s1.heap.objs.size, upd H1 s1.heap.objs.size (.lst xs), I1.laid (t' := s1.toks) (fun b u e => Heap.get?_push_of_some _ e) (Nat.le_refl _) ?_, rfl, q _ _ hf (same_new hf) upd_same⟩
  exact ⟨line5 z, us, 0, r, Heap.get?_push_size _ rfl⟩
end
/-! ### a list or a tuple that is read -/
def Rl (K : PySem.W.Frag) (H : Hp) (a : Addr) (xs : List V) : Prop := SqL K H a xs ∨ SqT K H a xs
theorem rl_l {K : PySem.W.Frag} {H : Hp} {a : Addr} {xs : List V} (h : H a = some (.lst xs)) : Rl K H a xs := .inl (SqL.of h)
theorem rl_t {K : PySem.W.Frag} {H : Hp} {a : Addr} {xs : List V} (h : H a = some (.tup xs)) : Rl K H a xs := .inr (SqT.of h)

/-! ### operators by values -/
def fAdd (K : PySem.W.Frag) : R2 := fun x y H Q => match x, y with
  | .int i, .int j => Q (.int (i + j)) H
  | .str a, .str b => a.length + b.length ≤ sizeLine ∧ Q (.str (a ++ b)) H
  | .ref l, .ref b => match H l, H b with
    | some (.lst xs), some (.lst zs) => xs.length + zs.length ≤ sizeLine ∧ ∀ p H1, H p = none → Same H H1 → H1 p = some (.lst (xs ++ zs)) → Q (.ref p) H1
    | _, _ => False
  | _, _ => False
theorem op_fAdd : OpR X (binaryOp .Add) (fAdd X.K) := by
  intro pins s σ H x y v u Q I rx ry h
  cases x <;> cases y <;> first
    | exact False.elim h
    | exact op_add pins s σ H _ _ v u Q I rx ry ⟨_, _, rfl, rfl, h⟩
    | exact op_add_str pins s σ H _ _ v u Q I rx ry ⟨_, _, rfl, rfl, h⟩
    | (dsimp only [fAdd] at h
       split at h
       · exact op_cat pins s σ H _ _ v u Q I rx ry ⟨_, _, _, _, rfl, rfl, by assumption, by assumption, h.1, fun p np => h.2 p _ np (same_new np) upd_same⟩
       · exact h.elim)
def fSub : R2 := fun x y H Q => match x, y with
  | .int i, .int j => Q (.int (i - j)) H
  | _, _ => False
theorem op_fSub : OpR X (binaryOp .Sub) fSub := by
  intro pins s σ H x y v u Q I rx ry h
  cases x <;> cases y <;> first
    | exact False.elim h
    | exact op_sub pins s σ H _ _ v u Q I rx ry ⟨_, _, rfl, rfl, h⟩
def fMul : R2 := fun x y H Q => match x, y with
  | .int i, .int j => IntMulOk i j ∧ Q (.int (i * j)) H
  | .str a, .int j => MulOk a j ∧ Q (.str (Txt.mul a j)) H
  | .ref l, .int k => rRep (.ref l) (.int k) H Q
  | _, _ => False
theorem op_fMul : OpR X (binaryOp .Mult) fMul := by
  intro pins s σ H x y v u Q I rx ry h
  match x, y, rx, ry, h with
  | .int i, .int j, ⟨t, e⟩, ⟨t', e'⟩, ⟨hm, q⟩ =>
    subst e e'
    exact mul_int ⟨.int _, H, I.tok _, ⟨_, rfl⟩, q⟩ hm
  | .str a, .int j, ⟨t, e⟩, ⟨t', e'⟩, ⟨hm, q⟩ =>
    subst e e'
    exact SB.mul hm fun t' k => ⟨.str _, H, I.tok _, ⟨_, rfl⟩, q⟩
  | .ref l, .int k, rx, ry, h => exact op_rep pins s σ H _ _ v u Q I rx ry h
def fDiv : R2 := fun x y H Q => match x, y with
  | .int i, .int j => CDivW i j ∧ Q (.int (i / j)) H
  | _, _ => False
theorem op_fDiv : OpR X (binaryOp .FloorDiv) fDiv := by
  intro pins s σ H x y v u Q I rx ry h
  cases x <;> cases y <;> first
    | exact False.elim h
    | exact op_fdivW pins s σ H _ _ v u Q I rx ry ⟨_, _, rfl, rfl, h⟩
def fMod : R2 := fun x y H Q => match x, y with
  | .int i, .int j => 0 < j ∧ Q (.int (i % j)) H
  | _, _ => False
theorem op_fMod : OpR X (binaryOp .Mod) fMod := by
  intro pins s σ H x y v u Q I rx ry h
  cases x <;> cases y <;> first
    | exact False.elim h
    | exact op_mod pins s σ H _ _ v u Q I rx ry ⟨_, _, rfl, rfl, h⟩
def fNeg : V → Hp → VK → Prop := fun x H Q => match x with
  | .int i => Q (.int (-i)) H
  | _ => False
theorem un_fNeg : UnR X (unaryOp .USub) fNeg := by
  intro pins s σ H x v Q I rx h
  cases x <;> first
    | exact False.elim h
    | exact un_neg pins s σ H _ v Q I rx ⟨_, rfl, h⟩
/-- data that == may look at -/
def okd (d : PyData) : Bool := d.plain && decide (d.depth ≤ 64)
/-- == of scalars as such, of lists and tuples as data -/
def fEq (K : PySem.W.Frag) (neg : Bool) : R2 := fun x y H Q =>
  if scal x y = true then Q (.bl (if neg = true then !decide (x = y) else decide (x = y))) H
  else ∃ d e, Dp K H x d ∧ Dp K H y e ∧ okd d = true ∧ okd e = true ∧ Q (.bl (if neg = true then !PyData.eqv d e else PyData.eqv d e)) H
theorem op_fEq (hu : X.A.units + 64 < cLine) : OpR X (compareOp .Eq) (fEq X.K false) := by
  intro pins s σ H x y v u Q I rx ry h
  unfold fEq at h
  split at h
  · exact op_eq pins s σ H x y v u Q I rx ry ⟨by assumption, h⟩
  · obtain ⟨d, e, hd, he, sd, se, q⟩ := h
    obtain ⟨as, r1⟩ := Dp.reads I d x v hd rx
    obtain ⟨bs, r2⟩ := Dp.reads I e y u he ry
    have sd := Bool.and_eq_true_iff.mp sd
    have se := Bool.and_eq_true_iff.mp se
    have d1 := of_decide_eq_true sd.2
    exact SeqAt.eq_plain r1 r2 sd.1 se.1 (by omega) ⟨.bl _, H, I, rfl, q⟩
theorem op_fNe (hu : X.A.units + 64 < cLine) : OpR X (compareOp .NotEq) (fEq X.K true) := by
  intro pins s σ H x y v u Q I rx ry h
  unfold fEq at h
  split at h
  · exact op_ne pins s σ H x y v u Q I rx ry ⟨by assumption, h⟩
  · obtain ⟨d, e, hd, he, sd, se, q⟩ := h
    obtain ⟨as, r1⟩ := Dp.reads I d x v hd rx
    obtain ⟨bs, r2⟩ := Dp.reads I e y u he ry
    have sd := Bool.and_eq_true_iff.mp sd
    have se := Bool.and_eq_true_iff.mp se
    have d1 := of_decide_eq_true sd.2
    exact SeqAt.ne_plain r1 r2 sd.1 se.1 (by omega) ⟨.bl _, H, I, rfl, q⟩
def fLt : R2 := fun x y H Q => match x, y with
  | .int i, .int j => Q (.bl (decide (i < j))) H
  | .str i, .str j => Q (.bl (decide (i.cps.toList < j.cps.toList))) H
  | _, _ => False
theorem op_fLt : OpR X (compareOp .Lt) fLt := by
  intro pins s σ H x y v u Q I rx ry h
  cases x <;> cases y <;> first
    | exact False.elim h
    | exact op_lt pins s σ H _ _ v u Q I rx ry ⟨_, _, rfl, rfl, h⟩
    | exact op_lt_str pins s σ H _ _ v u Q I rx ry ⟨_, _, rfl, rfl, h⟩
def fLe : R2 := fun x y H Q => match x, y with
  | .int i, .int j => Q (.bl (decide (i ≤ j))) H
  | .str i, .str j => Q (.bl (!decide (j.cps.toList < i.cps.toList))) H
  | _, _ => False
theorem op_fLe : OpR X (compareOp .LtE) fLe := by
  intro pins s σ H x y v u Q I rx ry h
  cases x <;> cases y <;> first
    | exact False.elim h
    | exact op_le pins s σ H _ _ v u Q I rx ry ⟨_, _, rfl, rfl, h⟩
    | exact op_le_str pins s σ H _ _ v u Q I rx ry ⟨_, _, rfl, rfl, h⟩
def fGt : R2 := fun x y H Q => match x, y with
  | .int i, .int j => Q (.bl (decide (j < i))) H
  | .str i, .str j => Q (.bl (decide (j.cps.toList < i.cps.toList))) H
  | _, _ => False
theorem op_fGt : OpR X (compareOp .Gt) fGt := by
  intro pins s σ H x y v u Q I rx ry h
  cases x <;> cases y <;> first
    | exact False.elim h
    | exact op_gt pins s σ H _ _ v u Q I rx ry ⟨_, _, rfl, rfl, h⟩
    | exact op_gt_str pins s σ H _ _ v u Q I rx ry ⟨_, _, rfl, rfl, h⟩
def fGe : R2 := fun x y H Q => match x, y with
  | .int i, .int j => Q (.bl (decide (j ≤ i))) H
  | .str i, .str j => Q (.bl (!decide (i.cps.toList < j.cps.toList))) H
  | _, _ => False
theorem op_fGe : OpR X (compareOp .GtE) fGe := by
  intro pins s σ H x y v u Q I rx ry h
  cases x <;> cases y <;> first
    | exact False.elim h
    | exact op_ge pins s σ H _ _ v u Q I rx ry ⟨_, _, rfl, rfl, h⟩
    | exact op_ge_str pins s σ H _ _ v u Q I rx ry ⟨_, _, rfl, rfl, h⟩
/-- x in y: one sign in a text; a text in a text; a flat value in a list or tuple of flat values -/
def fIn (K : PySem.W.Frag) (neg : Bool) : R2 := fun x y H Q => match x, y with
  | .str a, .str b => match a.cps.toList with
    | [c] => Q (.bl (if neg = true then !decide (c ∈ b.cps.toList) else decide (c ∈ b.cps.toList))) H
    | _ => Q (.bl (if neg = true then !(!(Builtin.Str.occurrences b a 0 b.length 1).isEmpty) else !(Builtin.Str.occurrences b a 0 b.length 1).isEmpty)) H
  | x, .ref p => ∃ xs, Rl K H p xs ∧ flatV x = true ∧ xs.all flatV = true ∧ Q (.bl (if neg = true then !inV x xs else inV x xs)) H
  | _, _ => False
theorem str_one {a : Str} {c : Nat} (h : a.cps.toList = [c]) : a = ⟨#[c]⟩ := by
  obtain ⟨⟨l⟩⟩ := a
  have h' : l = [c] := h
  subst h'
  rfl
theorem op_fIn : OpR X (compareOp .In) (fIn X.K false) := by
  intro pins s σ H x y v u Q I rx ry h
  cases y with
  | str b =>
    cases x with
    | str a =>
      dsimp only [fIn] at h
      split at h
      · rename_i c e
        cases str_one e
        exact op_in_sign pins s σ H _ _ v u Q I rx ry ⟨_, _, rfl, rfl, h⟩
      · exact op_in_str pins s σ H _ _ v u Q I rx ry ⟨_, _, rfl, rfl, h⟩
    | _ => exact False.elim h
  | ref p =>
    have h' : ∃ xs, Rl X.K H p xs ∧ flatV x = true ∧ xs.all flatV = true ∧ Q (.bl (if false = true then !inV x xs else inV x xs)) H := by
      cases x <;> exact h
    obtain ⟨xs, h1, h2, h3, h4⟩ := h'
    exact op_in_seq pins s σ H _ _ v u Q I rx ry ⟨p, xs, rfl, h1, h2, h3, h4⟩
  | _ => cases x <;> exact False.elim h
theorem op_fNotIn : OpR X (compareOp .NotIn) (fIn X.K true) := by
  intro pins s σ H x y v u Q I rx ry h
  cases y with
  | str b =>
    cases x with
    | str a =>
      dsimp only [fIn] at h
      split at h
      · rename_i c e
        cases str_one e
        exact op_notIn_sign pins s σ H _ _ v u Q I rx ry ⟨_, _, rfl, rfl, h⟩
      · exact op_notin_str pins s σ H _ _ v u Q I rx ry ⟨_, _, rfl, rfl, h⟩
    | _ => exact False.elim h
  | ref p =>
    have h' : ∃ xs, Rl X.K H p xs ∧ flatV x = true ∧ xs.all flatV = true ∧ Q (.bl (if true = true then !inV x xs else inV x xs)) H := by
      cases x <;> exact h
    obtain ⟨xs, h1, h2, h3, h4⟩ := h'
    exact op_notIn_seq pins s σ H _ _ v u Q I rx ry ⟨p, xs, rfl, h1, h2, h3, h4⟩
  | _ => cases x <;> exact False.elim h
/-- is, with None on the right -/
def fIsN : R2 := fun x y H Q => y = .non ∧ Q (.bl (decide (x = .non))) H
def fNotN : R2 := fun x y H Q => y = .non ∧ Q (.bl (!decide (x = .non))) H
theorem op_fIsN : OpR X (compareOp .Is) fIsN := op_isN
theorem op_fNotN : OpR X (compareOp .IsNot) fNotN := op_notN
/-- x[i] -/
def fIx (K : PySem.W.Frag) : R2 := fun x y H Q => match x, y with
  | .str z, .int i => z.length ≤ sizeLine ∧ ∃ c, atI z.cps.toList i = some c ∧ Q (.str ⟨#[c]⟩) H
  | .ref p, .int i => ∃ xs, Rl K H p xs ∧ ∃ v, atI xs i = some v ∧ Q v H
  | _, _ => False
theorem ix_fx : IxR X (fIx X.K) := by
  intro e1 e2 pins s σ H x y v u Q I rx ry h hs
  cases x <;> cases y <;> first
    | exact False.elim h
    | (obtain ⟨h1, c, h2, h3⟩ := h
       exact ix_str e1 e2 pins s σ H _ _ v u Q I rx ry ⟨_, _, c, rfl, rfl, h1, h2, h3⟩ hs)
    | (obtain ⟨xs, h1, w, h2, h3⟩ := h
       rcases h1 with h1 | h1
       · exact ix_list e1 e2 pins s σ H _ _ v u Q I rx ry ⟨_, xs, _, w, rfl, rfl, h1, h2, h3⟩ hs
       · exact ix_tup e1 e2 pins s σ H _ _ v u Q I rx ry ⟨_, xs, _, w, rfl, rfl, h1, h2, h3⟩ hs)
/-- x[lo:hi] of a text, of a list -/
def fSl (K : PySem.W.Frag) : V → Option Int → Option Int → Hp → VK → Prop := fun x lo hi H Q => match x with
  | .str z => z.length ≤ sizeLine ∧ Q (.str (cutS z lo hi)) H
  | .ref a => ∃ xs, SqL K H a xs ∧ ∀ p H1, H p = none → Same H H1 → H1 p = some (.lst (cutV xs lo hi)) → Q (.ref p) H1
  | _ => False
theorem sl_fx : SlR X (fSl X.K) := by
  intro pins s σ H x v vl vu lo hi sl Q I rx hs pl pu h
  cases x <;> first
    | exact False.elim h
    | exact sl_str pins s σ H _ v vl vu lo hi sl Q I rx hs pl pu ⟨_, rfl, h⟩
    | (obtain ⟨xs, h1, h2⟩ := h
       exact sl_list pins s σ H _ v vl vu lo hi sl Q I rx hs pl pu ⟨_, xs, rfl, h1, fun p np => h2 p _ np (same_new np) upd_same⟩)
/-- o[i] = v of a list -/
def fSet : TSet := fun o i v H Q => match o, i with
  | .ref p, .int k => match H p with
    | some (.lst xs) => ∃ j, ixN xs.length k = some j ∧ Q (upd H p (.lst (xs.set j v)))
    | _ => False
  | _, _ => False
theorem set_fx : PSet X fSet := by
  intro pins s σ H o i v ov iv u Q I ro ri rv h
  cases o <;> cases i <;> first
    | exact False.elim h
    | (dsimp only [fSet] at h
       split at h
       · obtain ⟨j, h2, h3⟩ := h
         exact set_list pins s σ H _ _ v ov iv u Q I ro ri rv ⟨_, _, _, j, rfl, rfl, by assumption, h2, h3⟩
       · exact h.elim)
/-- name += e -/
def fIAdd : TIp := fun x y H Q => match x, y with
  | .int i, .int j => Q (.int (i + j)) H
  | .str a, .str b => a.length + b.length ≤ sizeLine ∧ Q (.str (a ++ b)) H
  | _, _ => False
theorem ip_fAdd : PIp X .Add fIAdd := by
  intro pins s σ H x y v u Q I rx ry h
  cases x <;> cases y <;> first
    | exact False.elim h
    | exact ip_add pins s σ H _ _ v u Q I rx ry ⟨_, _, rfl, rfl, h⟩
    | exact iop_add_str pins s σ H _ _ v u Q I rx ry ⟨_, _, rfl, rfl, h⟩
def fISub : TIp := fun x y H Q => match x, y with
  | .int i, .int j => Q (.int (i - j)) H
  | _, _ => False
theorem ip_fSub : PIp X .Sub fISub := by
  intro pins s σ H x y v u Q I rx ry h
  cases x <;> cases y <;> first
    | exact False.elim h
    | exact ip_sub pins s σ H _ _ v u Q I rx ry ⟨_, _, rfl, rfl, h⟩
/-! ### built-in calls -/
def fLen (K : PySem.W.Frag) : List V → Hp → VK → Prop := fun xs H Q => match xs with
  | [.str z] => z.length ≤ sizeLine ∧ Q (.int z.length) H
  | [.ref p] => ∃ ys, Rl K H p ys ∧ Q (.int ys.length) H
  | _ => False
theorem call_fLen : CallR X (.builtin "len") (fLen X.K) := by
  intro pins s σ H xs us Q I r h
  match xs, r, h with
  | [.str z], r, h => exact call_len_str pins s σ H _ us Q I r ⟨z, rfl, h⟩
  | [.ref p], r, h =>
    obtain ⟨ys, h1, h2⟩ := h
    exact call_len_seq pins s σ H _ us Q I r ⟨p, ys, rfl, h1, h2⟩
/-- len of a dict -/
def fLenD : List V → Hp → VK → Prop := fun xs H Q => match xs with
  | [.ref p] => ∃ kvs, H p = some (.dK kvs) ∧ Q (.int kvs.length) H
  | _ => False
theorem call_fLenD : CallR X (.builtin "len") fLenD := by
  intro pins s σ H xs us Q I r h
  match xs, r, h with
  | [.ref p], r, h =>
    obtain ⟨kvs, h1, h2⟩ := h
    exact call_lenD pins s σ H _ us Q I r ⟨p, kvs, rfl, h1, h2⟩
def fInt : List V → Hp → VK → Prop := fun xs H Q => match xs with
  | [.int i] => Q (.int i) H
  | [.bl k] => Q (.int (if k then 1 else 0)) H
  | [.str a] => ∃ n, PySem.intText? a = some n ∧ a.length ≤ 640 ∧ Q (.int n) H
  | _ => False
theorem call_fInt : CallR X (.type "int") fInt := by
  intro pins s σ H xs us Q I r h
  match xs, r, h with
  | [.int i], r, h => exact call_int1 pins s σ H _ us Q I r (.inl ⟨i, rfl, h⟩)
  | [.bl k], r, h => exact call_int1 pins s σ H _ us Q I r (.inr ⟨k, rfl, h⟩)
  | [.str a], r, h =>
    obtain ⟨n, h1, h2, h3⟩ := h
    exact call_int_str pins s σ H _ us Q I r ⟨a, n, rfl, h1, h2, h3⟩
def fStr : List V → Hp → VK → Prop := fun xs H Q => match xs with
  | [.int i] => i.natAbs.log2 < 1920 ∧ Q (.str (toString i)) H
  | _ => False
theorem call_fStr : CallR X (.type "str") fStr := by
  intro pins s σ H xs us Q I r h
  match xs, r, h with
  | [.int i], r, h => exact call_str_int pins s σ H _ us Q I r ⟨i, rfl, h⟩
def fAbs : List V → Hp → VK → Prop := fun xs H Q => match xs with
  | [.int i] => Q (.int (if i < 0 then -i else i)) H
  | _ => False
theorem call_fAbs : CallR X (.builtin "abs") fAbs := by
  intro pins s σ H xs us Q I r h
  match xs, r, h with
  | [.int i], r, h => exact call_abs pins s σ H _ us Q I r ⟨i, rfl, h⟩
def fMax : List V → Hp → VK → Prop := fun xs H Q => match xs with
  | [.int i, .int j] => Q (.int (if j > i then j else i)) H
  | _ => False
theorem call_fMax (hc : X.calm = true) : CallR X (.builtin "max") fMax := by
  intro pins s σ H xs us Q I r h
  match xs, r, h with
  | [.int i, .int j], r, h => exact call_max2 hc pins s σ H _ us Q I r ⟨i, j, rfl, h⟩
def fMin : List V → Hp → VK → Prop := fun xs H Q => match xs with
  | [.int i, .int j] => Q (.int (if j < i then j else i)) H
  | _ => False
theorem call_fMin (hc : X.calm = true) : CallR X (.builtin "min") fMin := by
  intro pins s σ H xs us Q I r h
  match xs, r, h with
  | [.int i, .int j], r, h => exact call_min2 hc pins s σ H _ us Q I r ⟨i, j, rfl, h⟩
def fOrd : List V → Hp → VK → Prop := fun xs H Q => match xs with
  | [.str x] => ∃ c, x.cps.toList = [c] ∧ Q (.int (c : Nat)) H
  | _ => False
theorem call_fOrd : CallR X (.builtin "ord") fOrd := by
  intro pins s σ H xs us Q I r h
  match xs, r, h with
  | [.str x], r, h =>
    obtain ⟨c, h1, h2⟩ := h
    cases str_one h1
    exact call_ord pins s σ H _ us Q I r ⟨_, rfl, rfl, h2⟩
def fChr : List V → Hp → VK → Prop := fun xs H Q => match xs with
  | [.int i] => (0 ≤ i ∧ i ≤ 1114111) ∧ Q (.str ⟨#[i.toNat]⟩) H
  | _ => False
theorem call_fChr : CallR X (.builtin "chr") fChr := by
  intro pins s σ H xs us Q I r h
  match xs, r, h with
  | [.int i], r, h => exact call_chr pins s σ H _ us Q I r ⟨i, rfl, h.1.1, h.1.2, h.2⟩
/-- list(x): a new list -/
def fListOf (K : PySem.W.Frag) : List V → Hp → VK → Prop := fun xs H Q => match xs with
  | [.ref p] => ∃ ys, Rl K H p ys ∧ ∀ l H1, H l = none → Same H H1 → H1 l = some (.lst ys) → Q (.ref l) H1
  | _ => False
theorem call_fListOf : CallR X (.type "list") (fListOf X.K) := by
  intro pins s σ H xs us Q I r h
  match xs, r, h with
  | [.ref p], r, h =>
    obtain ⟨ys, h1, h2⟩ := h
    exact call_list_of pins s σ H _ us Q I r ⟨p, ys, rfl, h1, fun l nl => h2 l _ nl (same_new nl) upd_same⟩
/-! ### isinstance of a built-in class -/
/-- a value's built-in class (by the abstract heap), where it is plain -/
def tyOf (H : Hp) : V → Option String
  | .non => some "NoneType"
  | .bl _ => some "bool"
  | .int _ => some "int"
  | .str _ => some "str"
  | .ref a => match H a with
    | some (.lst _) => some "list"
    | some (.tup _) => some "tuple"
    | some (.dK _) => some "dict"
    | some (.dT _) => some "dict"
    | _ => none
  | _ => none
theorem tyX_of {K : PySem.W.Frag} {H : Hp} {x : V} {t : String} (h : tyOf H x = some t) : TyX K H x (.type t) := by
  cases x with
  | non => cases h; exact .base .non
  | bl b => cases h; exact .base (.bl b)
  | int b => cases h; exact .base (.int b)
  | str b => cases h; exact .base (.str b)
  | ref a =>
    dsimp only [tyOf] at h
    split at h <;> first
      | (cases h; exact .base (.lst (by assumption)))
      | (cases h; exact .base (.tup (by assumption)))
      | (cases h; exact .base (.dK (by assumption)))
      | (cases h; exact .base (.dT (by assumption)))
      | cases h
  | _ => cases h
/-- one of some built-in classes -/
def kitBs (t : String) : List V → Option Bool
  | [] => some false
  | .ty n :: cs => match kitB t n, kitBs t cs with
    | some b, some r => some (b || r)
    | _, _ => none
  | _ => none
theorem kitBs_any {K : PySem.W.Frag} {t : String} : ∀ {cs : List V} {r : Bool}, kitBs t cs = some r → ∃ us, Paired ClsV cs us ∧ PySem.W.kitAny K (.type t) us = some r
  | [], r, h => by cases h; exact ⟨[], .nil, kitAny_nil⟩
  | c :: cs, r, h => by
    cases c <;> first
      | cases h
      | (rename_i n
         unfold kitBs at h
         split at h
         · rename_i b r' e e2
           cases h
           obtain ⟨us, p, q⟩ := kitBs_any e2
           refine ⟨_, .cons (.ty n) p, kitAny_cons (kit_ty e) (fun hb => ?_) fun hb => ?_⟩
           · rw [hb]; exact q
           · rw [hb]; rfl
         · cases h)
theorem kitBv : kitB "NoneType" "bool" = some false ∧ kitB "NoneType" "int" = some false ∧ kitB "NoneType" "str" = some false ∧ kitB "NoneType" "list" = some false ∧ kitB "NoneType" "tuple" = some false ∧ kitB "NoneType" "dict" = some false ∧ kitB "bool" "bool" = some true ∧ kitB "bool" "int" = some true ∧ kitB "bool" "str" = some false ∧ kitB "bool" "list" = some false ∧ kitB "bool" "tuple" = some false ∧ kitB "bool" "dict" = some false ∧ kitB "int" "bool" = some false ∧ kitB "int" "int" = some true ∧ kitB "int" "str" = some false ∧ kitB "int" "list" = some false ∧ kitB "int" "tuple" = some false ∧ kitB "int" "dict" = some false ∧ kitB "str" "bool" = some false ∧ kitB "str" "int" = some false ∧ kitB "str" "str" = some true ∧ kitB "str" "list" = some false ∧ kitB "str" "tuple" = some false ∧ kitB "str" "dict" = some false ∧ kitB "list" "bool" = some false ∧ kitB "list" "int" = some false ∧ kitB "list" "str" = some false ∧ kitB "list" "list" = some true ∧ kitB "list" "tuple" = some false ∧ kitB "list" "dict" = some false ∧ kitB "tuple" "bool" = some false ∧ kitB "tuple" "int" = some false ∧ kitB "tuple" "str" = some false ∧ kitB "tuple" "list" = some false ∧ kitB "tuple" "tuple" = some true ∧ kitB "tuple" "dict" = some false ∧ kitB "dict" "bool" = some false ∧ kitB "dict" "int" = some false ∧ kitB "dict" "str" = some false ∧ kitB "dict" "list" = some false ∧ kitB "dict" "tuple" = some false ∧ kitB "dict" "dict" = some true := by decide +kernel
/-- isinstance(x, T), T a built-in class, or a new tuple of such -/
def fIsi : List V → Hp → VK → Prop := fun xs H Q => match xs with
  | [x, .ty n] => ∃ t, tyOf H x = some t ∧ ∃ b, kitB t n = some b ∧ Q (.bl b) H
  | [x, .ref p] => match H p with
    | some (.tup cs) => ∃ t, tyOf H x = some t ∧ ∃ b, kitBs t cs = some b ∧ Q (.bl b) H
    | _ => False
  | _ => False
theorem call_fIsi : CallR X (.builtin "isinstance") fIsi := by
  intro pins s σ H xs us Q I r h
  match xs, r, h with
  | [x, .ty n], r, h =>
    obtain ⟨t, h1, b, h2, h3⟩ := h
    exact call_isi pins s σ H _ us Q I r ⟨x, .ty n, _, _, b, rfl, .ty n, tyX_of h1, kit_ty h2, h3⟩
  | [x, .ref p], r, h =>
    dsimp only [fIsi] at h
    split at h
    · obtain ⟨t, h1, b, h2, h3⟩ := h
      obtain ⟨ws, h4, h5⟩ := kitBs_any h2
      exact call_isiT pins s σ H _ us Q I r ⟨x, p, _, _, ws, b, rfl, by assumption, h4, tyX_of h1, h5, h3⟩
    · exact h.elim
/-! ### methods of built-in types -/
def isLst : V → Hp → Prop := fun x H => match x with
  | .ref p => match H p with
    | some (.lst _) => True
    | _ => False
  | _ => False
theorem isLst_ty {K : PySem.W.Frag} {x : V} {H : Hp} (h : isLst x H) : tyV K "list" x H := by
  unfold isLst at h
  split at h
  · split at h
    · exact .inl ⟨rfl, _, SqL.of (by assumption)⟩
    · exact h.elim
  · exact h.elim
def isDct : V → Hp → Prop := fun x H => match x with
  | .ref p => match H p with
    | some (.dK _) => True
    | _ => False
  | _ => False
theorem isDct_ty {K : PySem.W.Frag} {x : V} {H : Hp} (h : isDct x H) : tyV K "dict" x H := by
  unfold isDct at h
  split at h
  · split at h
    · exact .inr (.inr (.inl ⟨rfl, .inl ⟨_, by assumption⟩⟩))
    · exact h.elim
  · exact h.elim
def isStr : V → Hp → Prop := fun x _ => match x with
  | .str _ => True
  | _ => False
theorem isStr_ty {K : PySem.W.Frag} {x : V} {H : Hp} (h : isStr x H) : tyV K "str" x H := by
  cases x <;> first | exact rfl | exact False.elim h
section
variable {o e : Expr} {es : List Expr} {to te : TE} {t : TA} {apos cpos : Pos} {T id : String} {name : Str} {r : V → List V → Hp → VK → Prop} {ty : V → Hp → Prop}
def fBM0 (ty : V → Hp → Prop) (r : V → List V → Hp → VK → Prop) (to : TE) : TE := fun σ H Q => to σ H fun x H1 => ty x H1 ∧ r x [] H1 Q
def fBM (ty : V → Hp → Prop) (r : V → List V → Hp → VK → Prop) (to : TE) (t : TA) : TE := fun σ H Q => to σ H fun x H1 => ty x H1 ∧ t σ H1 fun xs H2 => r x xs H2 Q
theorem fe_bm0 (pa : PlainAttrs T) (slot : Slot T name id) (hty : typeOf (.builtin id) = pure (.type "method_descriptor")) (hT : ∀ {K : PySem.W.Frag} {x : V} {H : Hp}, ty x H → tyV K T x H) (hm : MtR X id r) (ho : PE X o to)
    (hbase : attributeBase o name X.env (eval o X.env) = eval o X.env := by rfl) (hline : (apos.endLine == cpos.line) = true := by rfl) : PE X (.Call (.Attribute o name apos) [] [] cpos) (fBM0 ty r to) := by
  refine ⟨fun pins s σ H Q I h => ?_⟩
  refine wpAny_Call_method0_late hbase hline (thn (ho.run pins s σ H _ I h) fun v s1 ⟨x, H1, I1, r1, tyx, q1⟩ => ?_)
  obtain ⟨h1, h2⟩ := tyV_is I1 r1 (hT tyx)
  exact ⟨T, id, pa, slot, hty, h1, h2, Calls.callWith_builtin rfl (PySem.evalArgs_none (hm pins s1 σ H1 x [] v [] Q I1 r1 .nil q1))⟩
theorem fe_bm (pa : PlainAttrs T) (slot : Slot T name id) (hty : typeOf (.builtin id) = pure (.type "method_descriptor")) (hT : ∀ {K : PySem.W.Frag} {x : V} {H : Hp}, ty x H → tyV K T x H) (hm : MtR X id r) (ho : PE X o to) (ha : PA X (e :: es) t)
    (hbase : attributeBase o name X.env (eval o X.env) = eval o X.env := by rfl)
    (hfew : ((backTo cpos (starEach (e :: es) X.env)).all (fun x => !x.1) && (backToKw cpos (keywordEach [] X.env)).all (fun x => x.1.isSome)
      && decide ((e :: es).length + ([] : List Keyword).length + (if ([] : List Keyword).isEmpty then 0 else 1) < 30)) = true := by rfl)
    (hline : (apos.endLine == cpos.line) = true := by rfl) (hs : starEach (e :: es) X.env = (false, eval e X.env) :: starEach es X.env := by rfl) (hplain : (backTo cpos (starEach es X.env)).any (·.1) = false := by rfl) :
    PE X (.Call (.Attribute o name apos) (e :: es) [] cpos) (fBM ty r to t) := by
  refine ⟨fun pins s σ H Q I h => ?_⟩
  refine wpAny_Call_method_late hbase hfew hline rfl (thn (ho.run pins s σ H _ I h) fun v s1 ⟨x, H1, I1, r1, tyx, q1⟩ => ?_)
  obtain ⟨h1, h2⟩ := tyV_is I1 r1 (hT tyx)
  refine ⟨T, id, pa, slot, hty, h1, h2, ?_⟩
  have hA := ha.run cpos pins s1 σ H1 _ I1 q1
  rw [hs] at hA ⊢
  refine Calls.callWith_builtin (by show (false || (backTo cpos (starEach es X.env)).any (·.1)) = false; rw [hplain] <;> rfl) (Calls.evalArgs_plain ?_)
  exact thn hA fun us s2 ⟨vs, H2, I2, r2, q2⟩ => hm pins s2 σ H2 x vs v us Q I2 r1 r2 q2
end
def fAppend : V → List V → Hp → VK → Prop := fun x vs H Q => match x, vs with
  | .ref l, [y] => match H l with
    | some (.lst xs) => xs.length < sizeLine ∧ Q .non (upd H l (.lst (xs ++ [y])))
    | _ => False
  | _, _ => False
theorem mt_fAppend : MtR X "list.append" fAppend := by
  intro pins s σ H x xs v us Q I rx rs h
  unfold fAppend at h
  split at h
  · split at h
    · exact mt_append pins s σ H _ _ v us Q I rx rs ⟨_, _, _, rfl, rfl, by assumption, h⟩
    · exact h.elim
  · exact h.elim
/-- a text's method with one text, by its function -/
def fS1 (g : Str → Str → V) : V → List V → Hp → VK → Prop := fun x vs H Q => match x, vs with
  | .str a, [.str b] => Q (g a b) H
  | _, _ => False
theorem mt_fS1 {id : String} {g : Str → Str → V} (h : MtR X id (fun x xs H Q => ∃ a b, x = .str a ∧ xs = [.str b] ∧ Q (g a b) H)) : MtR X id (fS1 g) := by
  intro pins s σ H x xs v us Q I rx rs q
  unfold fS1 at q
  split at q
  · exact h pins s σ H _ _ v us Q I rx rs ⟨_, _, rfl, rfl, q⟩
  · exact q.elim
theorem mt_fCount : MtR X "str.count" (fS1 fun a b => .int (Txt.count a b)) := mt_fS1 mt_count
theorem mt_fFind : MtR X "str.find" (fS1 fun a b => .int (Txt.find a b)) := mt_fS1 mt_find
theorem mt_fRfind : MtR X "str.rfind" (fS1 fun a b => .int (Txt.rfind a b)) := mt_fS1 mt_rfind
theorem mt_fStarts : MtR X "str.startswith" (fS1 fun a b => .bl (Txt.startswith a b)) := mt_fS1 mt_startswith
theorem mt_fEnds : MtR X "str.endswith" (fS1 fun a b => .bl (Txt.endswith a b)) := mt_fS1 mt_endswith

/-! ### statements, loops -/
theorem seq_ {t1 t2 : TS} {D : Ends} {σ : L2.St} {H : Hp} (h : ∀ N : L2.St → Hp → Prop, (∀ σ H, t2 D σ H → N σ H) → t1 { D with nx := N } σ H) : tSeq t1 t2 D σ H := h _ fun _ _ x => x
/-- what follows is a word of its own -/
theorem cut_ {t : TS} {D : Ends} {σ : L2.St} {H : Hp} (h : ∀ N : L2.St → Hp → Prop, (∀ σ H, D.nx σ H → N σ H) → t { D with nx := N } σ H) : t D σ H := h _ fun _ _ x => x
theorem ifs_ {c : TT} {t u : TS} {D : Ends} {σ : L2.St} {H : Hp} (h : c σ H fun b H1 => if b = true then t D σ H1 else u D σ H1) : tIfS c t u D σ H := h
/-- a loop that is at hand -/
def Loop (J : It) (g : TG) (tb : TS) (D : Ends) (σ : L2.St) (H : Hp) : Prop := ∃ W : Nat → Nat → L2.St → Hp → Prop, (∃ m, W 0 m σ H) ∧ ∀ i m σ H, W i m σ H →
  (J.stop i H ∧ D.nx σ H) ∨ (J.go i H ∧ ∃ N : L2.St → Hp → Prop, (∀ σ' H', N σ' H' → ∃ m', m' < m ∧ W (i + 1) m' σ' H') ∧ ∀ x H', J.yld i H x H' → g x σ H' fun σ2 H2 => tb { D with nx := N, ct := N, bk := D.nx } σ2 H2)
theorem for_eq (wi : TI) (g : TG) (tb : TS) (D : Ends) (σ : L2.St) (H : Hp) : tFor wi g tb D σ H = wi σ H fun J H1 => Loop J g tb D σ H1 := rfl
theorem for_ {wi : TI} {g : TG} {tb : TS} {D : Ends} {σ : L2.St} {H : Hp} (h : wi σ H fun J H1 => Loop J g tb D σ H1) : tFor wi g tb D σ H := h
theorem loop_range {lo : Int} {n : Nat} {g : TG} {tb : TS} {D : Ends} {σ : L2.St} {H : Hp} (Pv : Nat → L2.St → Hp → Prop) (h0 : Pv 0 σ H)
    (hs : ∀ i σ H, i < n → Pv i σ H → g (.int (lo + i)) σ H fun σ2 H2 => tb { D with nx := Pv (i + 1), ct := Pv (i + 1), bk := D.nx } σ2 H2) (hd : ∀ σ H, Pv n σ H → D.nx σ H) : Loop (Itr lo n) g tb D σ H := for_range Pv h0 hs hd
theorem loop_list {K : PySem.W.Frag} {a : Addr} {g : TG} {tb : TS} {D : Ends} {σ : L2.St} {H : Hp} (xs : List V) (Pv : Nat → L2.St → Hp → Prop) (h0 : Pv 0 σ H) (hl : ∀ i σ H, i ≤ xs.length → Pv i σ H → SqL K H a xs)
    (hs : ∀ i x σ H, xs[i]? = some x → Pv i σ H → g x σ H fun σ2 H2 => tb { D with nx := Pv (i + 1), ct := Pv (i + 1), bk := D.nx } σ2 H2) (hd : ∀ σ H, Pv xs.length σ H → D.nx σ H) : Loop (Itl K a) g tb D σ H := for_list Pv h0 hl hs hd
theorem loop_tup {K : PySem.W.Frag} {a : Addr} {g : TG} {tb : TS} {D : Ends} {σ : L2.St} {H : Hp} (xs : List V) (Pv : Nat → L2.St → Hp → Prop) (h0 : Pv 0 σ H) (hl : ∀ i σ H, i ≤ xs.length → Pv i σ H → SqT K H a xs)
    (hs : ∀ i x σ H, xs[i]? = some x → Pv i σ H → g x σ H fun σ2 H2 => tb { D with nx := Pv (i + 1), ct := Pv (i + 1), bk := D.nx } σ2 H2) (hd : ∀ σ H, Pv xs.length σ H → D.nx σ H) : Loop (Itt K a) g tb D σ H := for_tup Pv h0 hl hs hd
theorem loop_str {z : Str} {g : TG} {tb : TS} {D : Ends} {σ : L2.St} {H : Hp} (Pv : Nat → L2.St → Hp → Prop) (h0 : Pv 0 σ H)
    (hs : ∀ i c σ H, z.cps.toList[i]? = some c → Pv i σ H → g (.str ⟨#[c]⟩) σ H fun σ2 H2 => tb { D with nx := Pv (i + 1), ct := Pv (i + 1), bk := D.nx } σ2 H2) (hd : ∀ σ H, Pv z.length σ H → D.nx σ H) : Loop (Its z) g tb D σ H :=
  for_it walk_str Pv h0 (fun _ _ _ _ _ => trivial) (fun i x σ H H' hi p y => by
    obtain ⟨rfl, c, hc, rfl⟩ := y
    exact hs i c σ _ (by rw [Array.getElem?_toList]; exact hc) p) hd
end
end Fx

/-! ### defs by name -/
namespace Fx
open PySem PySem.Spec PyProof.Rows L2
/-- the def that stands at the module's name x keeps the promise sp -/
structure Has (P : Program) (w : World) (K : PySem.W.Frag) (mg : Str → Option Value) (base : Heap) (CX : CXT) (x : Str) (k : Nat) (ps : List Str) (sp : Sp) : Prop where
  ex : ∃ (f : Addr) (fd : FuncData), FnOk P w K mg base CX k f fd ps sp ∧ Binds K fd ps [] ∧ mg x = some (.ref f) ∧ PySem.W.keepIn K (.ref f) = true
/-- what the top has written of a def -/
structure FnFact (K : PySem.W.Frag) (x qual : Str) (st : Stmt) : Prop where
  ex : ∃ (f : Addr) (oc : Value) (od an : Option Addr) (sl : Array (Option Value)) (kV dc pm cd ct : Value),
    PySem.W.nsIn K mainGlobals x = some (some (.ref f)) ∧ K.lookup f = some ⟨oc, od, .func (PySem.W.fnOf x qual (defArgs st) (defBody st) (defScope st) .none kV dc pm an cd ct), sl⟩ ∧
    PySem.W.codeIn K cd qual = true ∧ PySem.W.keepIn K (.ref f) = true
theorem FnFact.of {K : PySem.W.Frag} {x qual : Str} {st : Stmt} {f : Addr} {oc : Value} {od an : Option Addr} {sl : Array (Option Value)} {kV dc pm cd ct : Value}
    (a : PySem.W.nsIn K mainGlobals x = some (some (.ref f))) (l : K.lookup f = some ⟨oc, od, .func (PySem.W.fnOf x qual (defArgs st) (defBody st) (defScope st) .none kV dc pm an cd ct), sl⟩)
    (c : PySem.W.codeIn K cd qual = true) (k : PySem.W.keepIn K (.ref f) = true) : FnFact K x qual st := ⟨f, oc, od, an, sl, kV, dc, pm, cd, ct, a, l, c, k⟩
/-- a def as it stands -/
structure At (K : PySem.W.Frag) (mg : Str → Option Value) (x qual : Str) (st : Stmt) (ps : List Str) : Prop where
  ex : ∃ (f : Addr) (fd : FuncData), Fun K x qual st f fd ∧ Binds K fd ps [] ∧ mg x = some (.ref f)
theorem At.of {K : PySem.W.Frag} {mg : Str → Option Value} {x qual : Str} {st : Stmt} {ps : List Str} {h : Heap} (X : K.In h) (G : h.Ns mainGlobals mg) (F : FnFact K x qual st)
    (hb : ∀ (kV doc pm : Value) (an : Option Addr) (cdv ct : Value) (us : List Value), us.length = ps.length → bindArgs (PySem.W.fnOf x qual (defArgs st) (defBody st) (defScope st) .none kV doc pm an cdv ct) ⟨us, []⟩ = pure (ps.zip us)) : At K mg x qual st ps := by
  obtain ⟨f, oc, od, an, sl, kV, dc, pm, cd, ct, a, l, c, k⟩ := F.ex
  have F1 := fun_mk (st := st) l c k
  exact ⟨_, _, F1, F1.binds hb, PySem.W.mg_of X G a⟩
section
variable {P : Program} {w : World} {K : PySem.W.Frag} {mg : Str → Option Value} {base : Heap}
theorem has_of {x qual : Str} {st : Stmt} {N ps : List Str} {k : Nat} {sp : Sp} (A : At K mg x qual st ps) (S : FnScope N ps (defScope st)) (len : ∀ vs H Q E, sp vs H Q E → vs.length = ps.length)
    (hbody : ∀ (cdv : Value) (f : Addr) (A : Around) (outer : List Env) (s : Shared) (H : Hp) (vs : List V) (Q : VK) (E : XK), Room k (A.deeper (envOfC qual (defScope st) s.heap.objs.size f cdv)) → sp vs H Q E →
      ∃ t, PSs (cxOf CX0 P w K mg base N qual (defScope st) f cdv A outer s H E).nox (defBody st) t ∧ t { nx := fun _ H' => Q .non H', rt := Q } (start N vs) H) : Has P w K mg base CX0 x (k + 1) ps sp := by
  obtain ⟨f, fd, F, B, G⟩ := A.ex
  exact ⟨f, fd, F.ok S len fun cdv A outer s H vs Q E hr h => hbody cdv f A outer s H vs Q E hr h, B, G, F.kp⟩
def spNone : Sp := fun _ _ _ _ => False
/-- a def of which nothing is promised -/
theorem At.never {x qual : Str} {st : Stmt} {ps : List Str} (A : At K mg x qual st ps) : Has P w K mg base CX0 x 0 ps spNone := by
  obtain ⟨f, fd, F, B, G⟩ := A.ex
  exact ⟨f, fd, ⟨fun _ _ _ _ h => h.elim, fun _ _ _ _ _ _ _ _ _ _ _ _ _ h => h.elim⟩, B, G, F.kp⟩
theorem Has.mono {CX : CXT} {x : Str} {j k : Nat} {ps : List Str} {sp : Sp} (h : Has P w K mg base CX x j ps sp) (hk : j ≤ k) : Has P w K mg base CX x k ps sp := by
  obtain ⟨f, fd, F, B, G, kp⟩ := h.ex
  exact ⟨f, fd, F.mono hk, B, G, kp⟩
end
section
variable {X : Cx} {CX : CXT} {k : Nat} {x : Str} {p pos : Pos} {e : Expr} {es : List Expr} {t : TA} {ps : List Str} {sp : Sp} {E : XK}
theorem fe_call (h : Has X.prog X.w X.K X.mg X.base CX x k ps sp) (hr : Room k X.A) (hg : Gl X x) (hx : Passes CX X E) (ha : PA X (e :: es) t) (hd : (x == ("__debug__" : Str)) = false := by decide)
    (hs : starEach (e :: es) X.env = (false, eval e X.env) :: starEach es X.env := by rfl) (hplain : (backTo pos (starEach es X.env)).any (·.1) = false := by rfl) : PE X (.Call (.Name x p) (e :: es) [] pos) (tCall sp [] E t) := by
  obtain ⟨f, fd, F, B, G, kp⟩ := h.ex
  exact pe_call F hr hg G kp B .nil hx ha hd hs hplain
theorem fe_call0 (h : Has X.prog X.w X.K X.mg X.base CX x k ps sp) (hr : Room k X.A) (hg : Gl X x) (hx : Passes CX X E) (hd : (x == ("__debug__" : Str)) = false := by decide) : PE X (.Call (.Name x p) [] [] pos) (tCall sp [] E tNil) := by
  obtain ⟨f, fd, F, B, G, kp⟩ := h.ex
  exact pe_call0 F hr hg G kp B .nil hx hd
end
end Fx

namespace Fx
open PySem PySem.Spec PyProof.Rows L2
section
variable {X : Cx}
/-- a built-in class as a value -/
theorem fe_ty {x : Str} {n : String} {pos : Pos} (hg : Gl X x) (hm : X.mg x = none) (hv : bootBuiltins x = some (.type n)) (hn : x ≠ "__name__" := by decide) (hd : (x == ("__debug__" : Str)) = false := by decide) : PE X (.Name x pos) (tC (.ty n)) := pe_bltn hg hm hv rfl hn hd
end
/-! ### texts as lists -/
def S (l : List Nat) : Str := ⟨l.toArray⟩
def L (z : Str) : List Nat := z.cps.toList
theorem S_L (z : Str) : S (L z) = z := by
  obtain ⟨⟨l⟩⟩ := z
  rfl
theorem L_S (l : List Nat) : L (S l) = l := rfl
theorem S_len (l : List Nat) : (S l).length = l.length := by simp [S, Str.length]
theorem L_len (z : Str) : (L z).length = z.length := by simp [L, Str.length]
theorem S_app (a b : List Nat) : S a ++ S b = S (a ++ b) := by
  show (⟨a.toArray ++ b.toArray⟩ : Str) = ⟨(a ++ b).toArray⟩
  simp
theorem S_cps (l : List Nat) : (S l).cps.toList = l := by simp [S]
theorem S_one (c : Nat) : (⟨#[c]⟩ : Str) = S [c] := rfl
theorem S_inj {a b : List Nat} (h : S a = S b) : a = b := by
  have := congrArg L h
  exact this
theorem cut_take (l : List Nat) {o : Int} (h0 : 0 ≤ o) (h1 : o ≤ l.length) : cutS (S l) none (some o) = S (l.take o.toNat) := by
  unfold cutS
  obtain ⟨k, rfl⟩ := Int.eq_ofNat_of_zero_le h0
  have e : HT.sIx (S l).length (S l).length (some (k : Int)) = min k (S l).length := HT.sIx_nat _ _ _
  rw [HT.sIx_none, e, S_len, S_cps]
  have : min k l.length = k := by omega
  rw [this]
  simp [S]
theorem cut_drop (l : List Nat) {o : Int} (h0 : 0 ≤ o) (h1 : o ≤ l.length) : cutS (S l) (some o) none = S (l.drop o.toNat) := by
  unfold cutS
  obtain ⟨k, rfl⟩ := Int.eq_ofNat_of_zero_le h0
  have e : HT.sIx (S l).length 0 (some (k : Int)) = min k (S l).length := HT.sIx_nat _ _ _
  rw [HT.sIx_none, e, S_len, S_cps]
  have : min k l.length = k := by omega
  rw [this]
  have : (l.drop k).take (l.length - k) = l.drop k := List.take_of_length_le (by rw [List.length_drop]; omega)
  simp [S, this]
theorem cut_mid (l : List Nat) {a b : Int} (h0 : 0 ≤ a) (h1 : a ≤ b) (h2 : b ≤ l.length) : cutS (S l) (some a) (some b) = S ((l.drop a.toNat).take (b.toNat - a.toNat)) := by
  unfold cutS
  obtain ⟨k, rfl⟩ := Int.eq_ofNat_of_zero_le h0
  obtain ⟨m, rfl⟩ := Int.eq_ofNat_of_zero_le (Int.le_trans h0 h1)
  have e1 : HT.sIx (S l).length 0 (some (k : Int)) = min k (S l).length := HT.sIx_nat _ _ _
  have e2 : HT.sIx (S l).length (S l).length (some (m : Int)) = min m (S l).length := HT.sIx_nat _ _ _
  rw [e1, e2, S_len, S_cps]
  have q1 : min k l.length = k := by omega
  have q2 : min m l.length = m := by omega
  rw [q1, q2]
  rfl
theorem len_line {n : Nat} (h : n ≤ 100000) : n ≤ sizeLine := Nat.le_trans h (by decide)
theorem len_line' {n : Nat} (h : n < 100000) : n < sizeLine := Nat.lt_of_lt_of_le h (by decide)
theorem small_div {i j : Int} (h : 0 < j) (h2 : j < 1073741824) : CDivW i j := wide_div (b := 30) h (by omega) (by decide) (by decide)
theorem mul_left {i j : Int} (h : -(2 ^ 64) < i) (h2 : i < 2 ^ 64) : IntMulOk i j := CMul.ok (.inl ⟨h, h2⟩)
theorem mul_right {i j : Int} (h : -(2 ^ 64) < j) (h2 : j < 2 ^ 64) : IntMulOk i j := CMul.ok (.inr ⟨h, h2⟩)
theorem same_mut {H H' : Hp} {p : Addr} {o : HO} (s : Same H H') (h : H p = none) : Same H (upd H' p o) := fun b x e => by
  rw [upd_ne (ne_of_none e h)]
  exact s b x e
theorem ex2 {α β : Type} {a : α} {b : β} {P : α → β → Prop} : (∃ i j, (a = i ∧ b = j) ∧ P i j) ↔ P a b := ⟨fun ⟨_, _, ⟨e1, e2⟩, h⟩ => e1 ▸ e2 ▸ h, fun h => ⟨a, b, ⟨rfl, rfl⟩, h⟩⟩
theorem at_ints {ns : List Int} {i : Int} (h0 : 0 ≤ i) (h1 : i < ns.length) : ∃ z, atI (ns.map V.int) i = some (.int z) := by
  obtain ⟨k, rfl⟩ := Int.eq_ofNat_of_zero_le h0
  have hk : k < ns.length := by omega
  exact ⟨ns[k], atI_nat (by rw [List.getElem?_map, List.getElem?_eq_getElem hk]; rfl)⟩
theorem at_strs {ns : List Str} {i : Int} (h0 : 0 ≤ i) (h1 : i < ns.length) : ∃ z, z ∈ ns ∧ atI (ns.map V.str) i = some (.str z) := by
  obtain ⟨k, rfl⟩ := Int.eq_ofNat_of_zero_le h0
  have hk : k < ns.length := by omega
  exact ⟨ns[k], List.getElem_mem hk, atI_nat (by rw [List.getElem?_map, List.getElem?_eq_getElem hk]; rfl)⟩
theorem getD_eq {α : Type} {ns : List α} {i : Nat} (d : α) (h : i < ns.length) : ns.getD i d = ns[i] := by
  simp [List.getD, List.getElem?_eq_getElem h]
theorem at_getD {ns : List Str} {i : Int} (d : Str) (h0 : 0 ≤ i) (h1 : i < ns.length) : atI (ns.map V.str) i = some (.str (ns.getD i.toNat d)) := by
  obtain ⟨k, rfl⟩ := Int.eq_ofNat_of_zero_le h0
  have hk : k < ns.length := by omega
  refine atI_nat ?_
  rw [List.getElem?_map, List.getElem?_eq_getElem hk, Int.toNat_natCast, getD_eq _ hk]
  rfl
theorem at_getN {ns : List Nat} {i : Int} (d : Nat) (h0 : 0 ≤ i) (h1 : i < ns.length) : atI ns i = some (ns.getD i.toNat d) := by
  obtain ⟨k, rfl⟩ := Int.eq_ofNat_of_zero_le h0
  have hk : k < ns.length := by omega
  refine atI_nat ?_
  rw [List.getElem?_eq_getElem hk, Int.toNat_natCast, getD_eq _ hk]
theorem getD_mem {α : Type} {ns : List α} {i : Nat} (d : α) (h : i < ns.length) : ns.getD i d ∈ ns := by
  rw [getD_eq _ h]
  exact List.getElem_mem h
theorem at_ints_mem {ns : List Int} {i : Int} (h0 : 0 ≤ i) (h1 : i < ns.length) : ∃ z, z ∈ ns ∧ atI (ns.map V.int) i = some (.int z) := by
  obtain ⟨k, rfl⟩ := Int.eq_ofNat_of_zero_le h0
  have hk : k < ns.length := by omega
  exact ⟨ns[k], List.getElem_mem hk, atI_nat (by rw [List.getElem?_map, List.getElem?_eq_getElem hk]; rfl)⟩
theorem emod_lo (r : Int) {m : Int} (h : 0 < m) : 0 ≤ r % m := Int.emod_nonneg _ (by omega)
theorem emod_hi (r : Int) {m : Int} (h : 0 < m) : r % m < m := Int.emod_lt_of_pos _ h
theorem at_vs {xs : List V} {i : Int} (h0 : 0 ≤ i) (h1 : i < xs.length) : ∃ z, z ∈ xs ∧ atI xs i = some z := by
  obtain ⟨k, rfl⟩ := Int.eq_ofNat_of_zero_le h0
  have hk : k < xs.length := by omega
  exact ⟨xs[k], List.getElem_mem hk, atI_nat (List.getElem?_eq_getElem hk)⟩
end Fx

/-! ### constants of the module, more of texts -/
namespace Fx
open PySem PySem.Spec PyProof.Rows L2
theorem one_list (c : Nat) : (⟨#[c]⟩ : Str).cps.toList = [c] := rfl
theorem absV_rel {u : Value} {x : V} (h : absV u = some x) : RelV x u := by
  cases u <;> first
    | (cases h; rfl)
    | (cases h; exact ⟨_, rfl⟩)
    | cases h
def absVs : List Value → Option (List V)
  | [] => some []
  | u :: us => match absV u, absVs us with
    | some x, some xs => some (x :: xs)
    | _, _ => none
theorem absVs_rel : ∀ {us : List Value} {xs : List V}, absVs us = some xs → Vals xs us
  | [], xs, h => by cases h; exact .nil
  | u :: us, xs, h => by
    unfold absVs at h
    split at h
    · rename_i x ys h1 h2
      cases h
      exact .cons (absV_rel h1) (absVs_rel h2)
    · cases h
/-- a tuple of the module -/
structure TupFact (K : PySem.W.Frag) (x : Str) (xs : List V) : Prop where
  ex : ∃ (a : Addr) (od : Option Addr) (its : Array Value) (n : Nat) (sl : Array (Option Value)), PySem.W.nsIn K mainGlobals x = some (some (.ref a)) ∧ K.lookup a = some ⟨.type "tuple", od, .seq its n, sl⟩ ∧ absVs its.toList = some xs ∧ its.size ≤ 1000
theorem TupFact.of {K : PySem.W.Frag} {x : Str} {xs : List V} {a : Addr} {od : Option Addr} {its : Array Value} {n : Nat} {sl : Array (Option Value)} (h1 : PySem.W.nsIn K mainGlobals x = some (some (.ref a))) (h2 : K.lookup a = some ⟨.type "tuple", od, .seq its n, sl⟩)
    (h3 : absVs its.toList = some xs) (h4 : its.size ≤ 1000) : TupFact K x xs := ⟨a, od, its, n, sl, h1, h2, h3, h4⟩
theorem gstr_of {K : PySem.W.Frag} {x z : Str} {t : Tok} (h : PySem.W.nsIn K mainGlobals x = some (some (.str z t))) : ∃ t, PySem.W.nsIn K mainGlobals x = some (some (.str z t)) := ⟨t, h⟩
theorem gint_of {K : PySem.W.Frag} {x : Str} {z : Int} {t : Tok} (h : PySem.W.nsIn K mainGlobals x = some (some (.int z t))) : ∃ t, PySem.W.nsIn K mainGlobals x = some (some (.int z t)) := ⟨t, h⟩
def GTup (K : PySem.W.Frag) (mg : Str → Option Value) (x : Str) (xs : List V) : Prop := ∃ a, mg x = some (.ref a) ∧ ∀ H, SqT K H a xs
theorem TupFact.get {K : PySem.W.Frag} {mg : Str → Option Value} {x : Str} {xs : List V} {h : Heap} (X : K.In h) (G : h.Ns mainGlobals mg) (F : TupFact K x xs) : GTup K mg x xs := by
  obtain ⟨a, od, its, n, sl, h1, h2, h3, h4⟩ := F.ex
  exact ⟨a, PySem.W.mg_of X G h1, fun H => .inr ⟨_, its, n, h2, rfl, rfl, Nat.le_trans h4 (by decide), absVs_rel h3⟩⟩
def fGt_ (K : PySem.W.Frag) (xs : List V) : TE := fun _ H Q => ∀ a, (∀ H', SqT K H' a xs) → Q (.ref a) H
section
variable {X : Cx} {x : Str} {pos : Pos}
theorem fe_gstr {z : Str} (hg : Gl X x) (h : ∃ t, X.mg x = some (.str z t)) (hd : (x == ("__debug__" : Str)) = false := by decide) : PE X (.Name x pos) (tC (.str z)) := by
  obtain ⟨t, h⟩ := h
  exact pe_glob hg h ⟨t, rfl⟩ hd
theorem fe_gint {z : Int} (hg : Gl X x) (h : ∃ t, X.mg x = some (.int z t)) (hd : (x == ("__debug__" : Str)) = false := by decide) : PE X (.Name x pos) (tC (.int z)) := by
  obtain ⟨t, h⟩ := h
  exact pe_glob hg h ⟨t, rfl⟩ hd
theorem fe_gtup {xs : List V} (hg : Gl X x) (h : GTup X.K X.mg x xs) (hd : (x == ("__debug__" : Str)) = false := by decide) : PE X (.Name x pos) (fGt_ X.K xs) := by
  obtain ⟨a, h, hs⟩ := h
  exact pe_wk (pe_glob hg h (v := .ref a) rfl hd) fun σ H Q q => q a hs
/-- ''.join(list or tuple of texts) -/
def fJoin (K : PySem.W.Frag) : V → List V → Hp → VK → Prop := fun x vs H Q => match x, vs with
  | .str a, [.ref p] => ∃ ys : List Str, Rl K H p (ys.map V.str) ∧ (ys.map (·.length)).sum + ys.length * a.length ≤ 16777216 ∧ Q (.str (Txt.join a ys)) H
  | _, _ => False
theorem mt_fJoin : MtR X "str.join" (fJoin X.K) := by
  intro pins s σ H x xs v us Q I rx rs q
  unfold fJoin at q
  split at q
  · obtain ⟨ys, h1, h2, h3⟩ := q
    exact mt_join pins s σ H _ _ v us Q I rx rs ⟨_, _, ys, rfl, rfl, h1, h2, h3⟩
  · exact q.elim
def fLstripC : V → List V → Hp → VK → Prop := fun x vs H Q => match x, vs with
  | .str a, [.str b] => a.length ≤ sizeLine ∧ Q (.str (Txt.lstripChars a b)) H
  | _, _ => False
theorem mt_fLstripC : MtR X "str.lstrip" fLstripC := by
  intro pins s σ H x xs v us Q I rx rs q
  unfold fLstripC at q
  split at q
  · exact mt_lstripChars pins s σ H _ _ v us Q I rx rs ⟨_, _, rfl, rfl, q⟩
  · exact q.elim
end
theorem join_ones : ∀ cs : List Nat, Txt.join (S []) (cs.map fun c => S [c]) = S cs := by
  intro cs
  show (⟨_⟩ : Str) = ⟨_⟩
  congr 1
  cases cs with
  | nil => rfl
  | cons c r =>
    have go : ∀ (r : List Nat) (acc : List Nat), ((r.map fun c => S [c]).foldl (fun (acc : Array Nat) (p : Str) => acc ++ (S []).cps ++ p.cps) acc.toArray) = (acc ++ r).toArray := by
      intro r
      induction r with
      | nil => intro acc; simp
      | cons d r ih =>
        intro acc
        rw [List.map_cons, List.foldl_cons]
        have e : acc.toArray ++ (S []).cps ++ (S [d]).cps = (acc ++ [d]).toArray := by simp [S]
        rw [e, ih, List.append_assoc]
        rfl
    have := go r [c]
    simpa [S] using this
theorem drop_tw (p : Nat → Bool) : ∀ l : List Nat, l.drop (l.takeWhile p).length = l.dropWhile p
  | [] => rfl
  | c :: r => by
    rw [List.takeWhile_cons, List.dropWhile_cons]
    by_cases h : p c = true
    · rw [if_pos h, if_pos h, List.length_cons, List.drop_succ_cons, drop_tw p r]
    · rw [if_neg h, if_neg h, List.length_nil, List.drop_zero]
theorem lstrip_zero (l : List Nat) (b : Nat) : Txt.lstripChars (S l) (S [b]) = S (l.dropWhile (· == b)) := by
  have hp : ((S [b]).cps.contains : Nat → Bool) = (· == b) := by
    funext c
    simp only [S, List.contains_toArray, List.contains_cons, List.contains_nil, Bool.or_false]
  unfold Txt.lstripChars
  rw [hp]
  have ht : (stripLo (· == b) true (S l)) = (l.takeWhile (· == b)).length := rfl
  unfold Txt.stripBy
  split
  · rename_i h
    unfold stripSame at h
    have h0 : stripLo (· == b) true (S l) = 0 := by
      have := (Bool.and_eq_true_iff.mp h).1
      exact eq_of_beq this
    rw [ht] at h0
    rw [← drop_tw, h0, List.drop_zero]
  · unfold stripped
    rw [ht]
    have e : stripHi (· == b) false (S l) (l.takeWhile (· == b)).length = (S l).length := rfl
    rw [e, ← drop_tw]
    have := StrLaws.strSub_toList (S l) (l.takeWhile (· == b)).length (S l).length
    rw [← S_L (Builtin.Str.strSub _ _ _)]
    congr 1
    show (Builtin.Str.strSub _ _ _).cps.toList = _
    rw [this, S_cps, S_len]
    exact List.take_of_length_le (by rw [List.length_drop]; exact Nat.le_refl _)
end Fx

set_option Elab.async false
set_option linter.all false
set_option maxRecDepth 100000
/-! Ox: objects of the program's own classes, over Fx. -/
namespace Fx
open PySem PySem.Spec PyProof.Rows L2
/-! ### weakening within -/
section
variable {X : Cx}
/-- whatever follows may be weaker -/
def clos (t : TE) : TE := fun σ H Q => ∃ Q0 : VK, t σ H Q0 ∧ ∀ v H1, Q0 v H1 → Q v H1
def closA (t : TA) : TA := fun σ H Q => ∃ Q0, t σ H Q0 ∧ ∀ v H1, Q0 v H1 → Q v H1
theorem pe_clos {e : Expr} {t : TE} (h : PE X e t) : PE X e (clos t) := ⟨fun pins s σ H Q I ⟨Q0, h0, w⟩ => wpAny_mono (h.run pins s σ H Q0 I h0) (fun u s' ⟨v, H', I', r, q⟩ => ⟨v, H', I', r, w v H' q⟩) fun _ _ x => x⟩
theorem pa_clos {es : List Expr} {t : TA} (h : PA X es t) : PA X es (closA t) := ⟨fun pos pins s σ H Q I ⟨Q0, h0, w⟩ => wpAny_mono (h.run pos pins s σ H Q0 I h0) (fun u s' ⟨v, H', I', r, q⟩ => ⟨v, H', I', r, w v H' q⟩) fun _ _ x => x⟩
end
/-! ### heaps but for some places -/
def Keep (ps : List Addr) (H H' : Hp) : Prop := ∀ a o, a ∉ ps → H a = some o → H' a = some o
theorem Keep.refl {ps : List Addr} {H : Hp} : Keep ps H H := fun _ _ _ h => h
theorem Keep.trans {ps : List Addr} {H H1 H2 : Hp} (h : Keep ps H H1) (k : Keep ps H1 H2) : Keep ps H H2 := fun a o n e => k a o n (h a o n e)
theorem Keep.of {ps : List Addr} {H H' : Hp} (s : Same H H') : Keep ps H H' := fun a o _ e => s a o e
theorem Keep.mono {ps qs : List Addr} {H H' : Hp} (h : Keep ps H H') (m : ∀ a ∈ ps, a ∈ qs) : Keep qs H H' := fun a o n e => h a o (fun z => n (m a z)) e
theorem Keep.same {H H' : Hp} (h : Keep [] H H') : Same H H' := fun a o e => h a o (by simp) e
theorem Keep.upd {ps : List Addr} {H H' : Hp} {p : Addr} {o : HO} (h : Keep ps H H') (m : p ∈ ps) : Keep ps H (L2.upd H' p o) := fun a x n e => by
  rw [upd_ne (fun q => n (by rw [q]; exact m))]
  exact h a x n e
theorem Keep.updN {ps : List Addr} {H H' : Hp} {p : Addr} {o : HO} (h : Keep ps H H') (m : H p = none) : Keep ps H (L2.upd H' p o) := fun a x n e => by
  rw [upd_ne (ne_of_none e m)]
  exact h a x n e
/-- what the caller does not know -/
theorem Keep.drop {p : Addr} {ps : List Addr} {H H' : Hp} (h : Keep (p :: ps) H H') (m : H p = none) : Keep ps H H' := fun a x n e => h a x (by
  intro q
  rcases List.mem_cons.mp q with rfl | q
  · rw [m] at e; cases e
  · exact n q) e
/-- the new object's heap, when only it has been changed since -/
theorem mk_same {H H0 : Hp} {y : Addr} {o : HO} (s : Same H H0) (n : H y = none) : Same H (L2.upd H0 y o) := same_mut s n
theorem mk_same2 {H H0 : Hp} {y : Addr} {o o' : HO} (s : Same H H0) (n : H y = none) : Same H (L2.upd (L2.upd H0 y o) y o') := same_mut (same_mut s n) n
theorem upd2 {H : Hp} {y : Addr} {o o' : HO} : L2.upd (L2.upd H y o) y o' = L2.upd H y o' := by
  funext a
  by_cases h : a = y
  · subst h; rw [upd_same, upd_same]
  · rw [upd_ne h, upd_ne h, upd_ne h]
theorem SqL.keep {K : PySem.W.Frag} {ps : List Addr} {H H' : Hp} {a : Addr} {xs : List V} (k : Keep ps H H') (n : a ∉ ps) (h : SqL K H a xs) : SqL K H' a xs :=
  h.elim (fun h => .inl (h.elim (fun h => .inl (k _ _ n h)) fun ⟨o, h⟩ => .inr ⟨o, k _ _ n h⟩)) fun h => .inr h
/-! ### fields -/
def fFld (cs : List Addr) (f : Str) (ta : TE) : TE := fun σ H Q => ta σ H fun x H1 => match x with
  | .ref a => match H1 a with
    | some (.ins C _ fs) => C ∈ cs ∧ match fs.lookup f with
      | some v => Q v H1
      | none => False
    | _ => False
  | _ => False
def fSetF (cs : List Addr) (f : Str) (ta tv : TE) : TS := fun D σ H => tv σ H fun y H1 => ta σ H1 fun x H2 => match x with
  | .ref a => match H2 a with
    | some (.ins C dx fs) => C ∈ cs ∧ fs.length < 1000 ∧ D.nx σ (upd H2 a (.ins C dx (putF f y fs)))
    | _ => False
  | _ => False
/-- the classes that know an attribute only by their instances -/
def Plain (K : PySem.W.Frag) (cs : List Addr) (f : Str) : Prop := ∀ C ∈ cs, Cls K C ∧ NoAttr K C f
section
variable {X : Cx} {o e value : Expr} {f : Str} {pos pos' : Pos} {ta tv : TE} {cs : List Addr}
theorem fe_fld (he : PE X e ta) (hc : Plain X.K cs f) (hb : attributeBase e f X.env (eval e X.env) = eval e X.env) : PE X (.Attribute e f pos) (fFld cs f ta) := by
  refine pe_wk (pe_fld (pe_clos he) hb) fun σ H Q q => ⟨_, q, fun x H1 q => ?_⟩
  split at q
  · split at q
    · obtain ⟨m, q⟩ := q
      split at q
      · exact ⟨_, _, _, _, _, rfl, by assumption, (hc _ m).1, (hc _ m).2, by assumption, q⟩
      · exact q.elim
    · exact q.elim
  · exact q.elim
theorem fs_fld (ha : PE X o ta) (hv : PE X value tv) (hc : Plain X.K cs f) (hs : swapsWith value (some (.Attribute o f pos')) pos.line X.env = pure false) : PS X (.Assign [.Attribute o f pos'] value pos) (fSetF cs f ta tv) := by
  refine ps_wk (ps_fld (pe_clos ha) (pe_clos hv) hs) fun D σ H q => ⟨_, q, fun y H1 q => ⟨_, q, fun x H2 q => ?_⟩⟩
  split at q
  · split at q
    · exact ⟨_, _, _, _, rfl, by assumption, (hc _ q.1).1, (hc _ q.1).2, q.2.1, q.2.2⟩
    · exact q.elim
  · exact q.elim
end
/-- {} -/
def fDnew : TE := fun _ H Q => ∀ p H2, H p = none → Same H H2 → H2 p = some (.dK []) → Q (.ref p) H2
theorem fe_dnew {X : Cx} {pos : Pos} : PE X (.Dict [] [] pos) fDnew := pe_wk pe_dnewK fun σ H Q q => fun p np => q p _ np (same_new np) upd_same
theorem rl_keep {K : PySem.W.Frag} {H H' : Hp} {a : Addr} {xs : List V} (s : Same H H') (h : Rl K H a xs) : Rl K H' a xs := h.elim (fun h => .inl (s.seq h)) fun h => .inr (SqT.ext h s)
/-! ### methods, making -/
/-- a method as it stands in its class -/
structure AtM (K : PySem.W.Frag) (C : Addr) (x qual : Str) (st : Stmt) (ps : List Str) : Prop where
  ex : ∃ (f : Addr) (fd : FuncData), Fun K x qual st f fd ∧ Binds K fd ps [] ∧ Meth K C x f
structure MFact (K : PySem.W.Frag) (C : Addr) (x qual : Str) (st : Stmt) : Prop where
  ex : ∃ (f : Addr) (oc : Value) (od an : Option Addr) (sl : Array (Option Value)) (kV dc pm cd ct : Value),
    PySem.W.findIn K (.ref C) x = some (some (.ref f)) ∧ K.lookup f = some ⟨oc, od, .func (PySem.W.fnOf x qual (defArgs st) (defBody st) (defScope st) .none kV dc pm an cd ct), sl⟩ ∧
    PySem.W.codeIn K cd qual = true ∧ PySem.W.keepIn K (.ref f) = true ∧ PySem.W.isFn K (.ref f) = true
theorem MFact.of {K : PySem.W.Frag} {C : Addr} {x qual : Str} {st : Stmt} {f : Addr} {oc : Value} {od an : Option Addr} {sl : Array (Option Value)} {kV dc pm cd ct : Value}
    (a : PySem.W.findIn K (.ref C) x = some (some (.ref f))) (l : K.lookup f = some ⟨oc, od, .func (PySem.W.fnOf x qual (defArgs st) (defBody st) (defScope st) .none kV dc pm an cd ct), sl⟩)
    (c : PySem.W.codeIn K cd qual = true) (k : PySem.W.keepIn K (.ref f) = true) (i : PySem.W.isFn K (.ref f) = true) : MFact K C x qual st := ⟨f, oc, od, an, sl, kV, dc, pm, cd, ct, a, l, c, k, i⟩
theorem AtM.of {K : PySem.W.Frag} {C : Addr} {x qual : Str} {st : Stmt} {ps : List Str} (F : MFact K C x qual st)
    (hb : ∀ (kV doc pm : Value) (an : Option Addr) (cdv ct : Value) (us : List Value), us.length = ps.length → bindArgs (PySem.W.fnOf x qual (defArgs st) (defBody st) (defScope st) .none kV doc pm an cdv ct) ⟨us, []⟩ = pure (ps.zip us)) : AtM K C x qual st ps := by
  obtain ⟨f, oc, od, an, sl, kV, dc, pm, cd, ct, a, l, c, k, i⟩ := F.ex
  have F1 := fun_mk (st := st) l c k
  exact ⟨_, _, F1, F1.binds hb, ⟨a, i, k⟩⟩
/-- a method that keeps a promise (of the object and the arguments) -/
structure HasM (P : Program) (w : World) (K : PySem.W.Frag) (mg : Str → Option Value) (base : Heap) (CX : CXT) (C : Addr) (x : Str) (k : Nat) (ps : List Str) (sp : Sp) : Prop where
  ex : ∃ (f : Addr) (fd : FuncData), FnOk P w K mg base CX k f fd ps sp ∧ Binds K fd ps [] ∧ Meth K C x f
/-- a class whose making keeps a promise (of the arguments) -/
structure HasC (P : Program) (w : World) (K : PySem.W.Frag) (mg : Str → Option Value) (base : Heap) (CX : CXT) (C : Addr) (x : Str) (k : Nat) (ps : List Str) (sp : Sp) : Prop where
  ex : ∃ (f : Addr) (fd : FuncData) (sp' : Sp), FnOk P w K mg base CX k f fd ps sp' ∧ Binds K fd ps [] ∧ Mk K C f ∧ mg x = some (.ref C) ∧
    ∀ vs H Q E, sp vs H Q E → ∀ y dx H0, H y = none → Same H H0 → H0 y = some (.ins C dx []) → sp' (.ref y :: vs) H0 (fun v H2 => v = .non ∧ Q (.ref y) H2) E
section
variable {P : Program} {w : World} {K : PySem.W.Frag} {mg : Str → Option Value} {base : Heap}
theorem hasM_of {C : Addr} {x qual : Str} {st : Stmt} {N ps : List Str} {k : Nat} {sp : Sp} (A : AtM K C x qual st ps) (S : FnScope N ps (defScope st)) (len : ∀ vs H Q E, sp vs H Q E → vs.length = ps.length)
    (hbody : ∀ (cdv : Value) (f : Addr) (A : Around) (outer : List Env) (s : Shared) (H : Hp) (vs : List V) (Q : VK) (E : XK), Room k (A.deeper (envOfC qual (defScope st) s.heap.objs.size f cdv)) → sp vs H Q E →
      ∃ t, PSs (cxOf CX0 P w K mg base N qual (defScope st) f cdv A outer s H E).nox (defBody st) t ∧ t { nx := fun _ H' => Q .non H', rt := Q } (start N vs) H) : HasM P w K mg base CX0 C x (k + 1) ps sp := by
  obtain ⟨f, fd, F, B, G⟩ := A.ex
  exact ⟨f, fd, F.ok S len fun cdv A outer s H vs Q E hr h => hbody cdv f A outer s H vs Q E hr h, B, G⟩
/-- what a class is for making -/
structure MkAt (K : PySem.W.Frag) (mg : Str → Option Value) (x : Str) (C : Addr) : Prop where
  makes : PySem.W.makesIn K C = true
  kp : PySem.W.keepIn K (.ref C) = true
  at_ : mg x = some (.ref C)
theorem hasC_of {C : Addr} {x qual : Str} {st : Stmt} {N ps : List Str} {k : Nat} {sp : Sp} (M : MkAt K mg x C) (A : AtM K C "__init__" qual st ps) (S : FnScope N ps (defScope st)) (len : ∀ vs H Q E, sp vs H Q E → vs.length + 1 = ps.length)
    (hbody : ∀ (cdv : Value) (f : Addr) (A : Around) (outer : List Env) (s : Shared) (H : Hp) (vs : List V) (Q : VK) (E : XK) (y dx : Addr) (H0 : Hp), Room k (A.deeper (envOfC qual (defScope st) s.heap.objs.size f cdv)) → sp vs H Q E → H y = none → Same H H0 → H0 y = some (.ins C dx []) →
      ∃ t, PSs (cxOf CX0 P w K mg base N qual (defScope st) f cdv A outer s H0 E).nox (defBody st) t ∧ t { nx := fun _ H' => Q (.ref y) H', rt := fun v H' => v = .non ∧ Q (.ref y) H' } (start N (.ref y :: vs)) H0) : HasC P w K mg base CX0 C x (k + 1) ps sp := by
  obtain ⟨f, fd, F, B, G⟩ := A.ex
  refine ⟨f, fd, fun ws H0 Q' E => ∃ y vs H Q dx, ws = .ref y :: vs ∧ sp vs H Q E ∧ H y = none ∧ Same H H0 ∧ H0 y = some (.ins C dx []) ∧ Q' = fun v H2 => v = .non ∧ Q (.ref y) H2, ?_, B, ⟨M.makes, G.at_, G.fn, M.kp⟩, M.at_, ?_⟩
  · refine F.ok S (fun ws H0 Q' E h => ?_) fun cdv A outer s H0 ws Q' E hr h => ?_
    · obtain ⟨y, vs, H, Q, dx, rfl, h, _⟩ := h
      exact len vs H Q E h
    · obtain ⟨y, vs, H, Q, dx, rfl, h, hy, hs, h0, rfl⟩ := h
      obtain ⟨t, h1, h2⟩ := hbody cdv f A outer s H vs Q E y dx H0 hr h hy hs h0
      refine ⟨t, h1, ?_⟩
      have e : (fun (_ : L2.St) (H' : Hp) => (fun v H2 => v = V.non ∧ Q (.ref y) H2) V.non H') = fun _ H' => Q (.ref y) H' := by
        funext _ H'
        exact propext ⟨fun h => h.2, fun h => ⟨rfl, h⟩⟩
      rw [e]
      exact h2
  · intro vs H Q E h y dx H0 hy hs h0
    exact ⟨y, vs, H, Q, dx, rfl, h, hy, hs, h0, rfl⟩
end
section
variable {X : Cx} {CX : CXT} {k : Nat} {C : Addr} {x m : Str} {p pos apos : Pos} {o e : Expr} {es : List Expr} {t : TA} {ta : TE} {ps : List Str} {sp : Sp} {E : XK}
theorem fe_make (h : HasC X.prog X.w X.K X.mg X.base CX C x k ps sp) (hr : Room (k + 1) X.A) (hg : Gl X x) (hx : Passes CX X E) (ha : PA X (e :: es) t) (hd : (x == ("__debug__" : Str)) = false := by decide)
    (hs : starEach (e :: es) X.env = (false, eval e X.env) :: starEach es X.env := by rfl) (hplain : (backTo pos (starEach es X.env)).any (·.1) = false := by rfl) : PE X (.Call (.Name x p) (e :: es) [] pos) (tCall sp [] E t) := by
  obtain ⟨f, fd, sp', F, B, M, G, h⟩ := h.ex
  refine pe_wk (pe_make M F hr hg G B .nil hx (pa_clos ha) hd hs hplain) fun σ H Q q => ⟨_, q, fun vs H1 q y dx n1 n2 n3 => ?_⟩
  rw [List.append_nil] at q ⊢
  refine h vs H1 Q E q y dx _ n1 (fun b z ez => ?_) upd_same
  rw [upd_ne (ne_of_none ez n1), upd_ne (ne_of_none ez n2)]
  exact ez
theorem fe_make0 (h : HasC X.prog X.w X.K X.mg X.base CX C x k ps sp) (hr : Room (k + 1) X.A) (hg : Gl X x) (hx : Passes CX X E) (hd : (x == ("__debug__" : Str)) = false := by decide) : PE X (.Call (.Name x p) [] [] pos) (tCall sp [] E tNil) := by
  obtain ⟨f, fd, sp', F, B, M, G, h⟩ := h.ex
  refine pe_wk (pe_make0 M F hr hg G B .nil hx hd) fun σ H Q q => ?_
  show tNil σ H _
  intro y dx n1 n2 n3
  refine h [] H Q E q y dx _ n1 (fun b z ez => ?_) upd_same
  rw [upd_ne (ne_of_none ez n1), upd_ne (ne_of_none ez n2)]
  exact ez
/-- an instance of the class, without an attribute of the name -/
def isOb (C : Addr) (m : Str) : V → Hp → Prop := fun x H => match x with
  | .ref a => match H a with
    | some (.ins D _ fs) => D = C ∧ fs.lookup m = none
    | _ => False
  | _ => False
def fMeth (C : Addr) (m : Str) (sp : Sp) (E : XK) (ta : TE) (t : TA) : TE := fun σ H Q => ta σ H fun x H1 => isOb C m x H1 ∧ t σ H1 fun vs H2 => sp (x :: vs) H2 Q E
theorem fMeth_to {σ : L2.St} {H : Hp} {Q : VK} (q : fMeth C m sp E ta t σ H Q) : tMeth C m sp [] E (clos ta) t σ H Q := by
  refine ⟨_, q, fun x H1 ⟨q1, q2⟩ => ?_⟩
  unfold isOb at q1
  split at q1
  · split at q1
    · obtain ⟨rfl, q1⟩ := q1
      refine ⟨_, _, _, rfl, by assumption, q1, ?_⟩
      simp only [List.append_nil]
      exact q2
    · exact q1.elim
  · exact q1.elim
theorem fe_meth {pl : Sem Bool} (h : HasM X.prog X.w X.K X.mg X.base CX C m k ps sp) (c : Cls X.K C) (hr : Room k X.A) (hx : Passes CX X E) (he : PE X o ta) (ha : PA X (e :: es) t)
    (hst : starEach (e :: es) X.env = (false, eval e X.env) :: starEach es X.env := by rfl) (hpl : (backTo pos (starEach es X.env)).any (·.1) = false := by rfl)
    (ht : eval (.Call (.Attribute o m apos) (e :: es) [] pos) X.env = (do
      let ov ← eval o X.env
      standAt apos.atName
      let (f, first) ← holding [ov] (getMethod ov m pl)
      callWith pos f first (backTo pos (starEach (e :: es) X.env)) (backToKw pos (keywordEach [] X.env))) := by rfl) :
    PE X (.Call (.Attribute o m apos) (e :: es) [] pos) (fMeth C m sp E ta t) := by
  obtain ⟨f, fd, F, B, M⟩ := h.ex
  exact pe_wk (pe_meth (pe_clos he) c M F hr B .nil hx ha hst hpl ht) fun σ H Q q => fMeth_to q
theorem fe_meth0 {pl : Sem Bool} (h : HasM X.prog X.w X.K X.mg X.base CX C m k ps sp) (c : Cls X.K C) (hr : Room k X.A) (hx : Passes CX X E) (he : PE X o ta)
    (ht : eval (.Call (.Attribute o m apos) [] [] pos) X.env = (do
      let ov ← eval o X.env
      standAt apos.atName
      let (f, first) ← holding [ov] (getMethod ov m pl)
      callWith pos f first (backTo pos (starEach [] X.env)) (backToKw pos (keywordEach [] X.env))) := by rfl) :
    PE X (.Call (.Attribute o m apos) [] [] pos) (fMeth C m sp E ta tNil) := by
  obtain ⟨f, fd, F, B, M⟩ := h.ex
  exact pe_wk (pe_meth0 (pe_clos he) c M F hr B .nil hx ht) fun σ H Q q => fMeth_to q
end
/-! ### isinstance of own classes -/
/-- what isinstance asks of a class of the program -/
structure OCls (K : PySem.W.Frag) (C : Addr) : Prop where
  cl : Cls K C
  ci : PySem.W.findIn K (.ref C) "__class__" = some (some (.builtin "object.__class__"))
  gd : PySem.W.specialIn K (.builtin "object.__class__") "__get__" = some (some (.builtin "getset_descriptor.__get__"))
  tk : PySem.W.takesIn K (.builtin "object.__class__") = some true
  mr : PySem.W.mroIn K C (.type "object") = some true
/-- the answers of isinstance for instances of cs and plain values, at the classes ds -/
structure Kit (K : PySem.W.Frag) (cs ds : List Addr) : Prop where
  ow : ∀ C ∈ cs, OCls K C
  oo : ∀ C ∈ cs, ∀ D ∈ ds, PySem.W.kitOne K (.ref C) (.ref D) = some (decide (C = D))
  bo : ∀ n ∈ ["NoneType", "bool", "int", "str", "list", "tuple", "dict"], ∀ D ∈ ds, PySem.W.kitOne K (.type n) (.ref D) = some false
  ob : ∀ C ∈ cs, ∀ n ∈ ["bool", "int", "str", "list", "tuple", "dict"], PySem.W.kitOne K (.ref C) (.type n) = some false
/-- a value's class -/
def tyV2 (H : Hp) : V → Option Value
  | .ref a => match H a with
    | some (.ins C _ _) => some (.ref C)
    | some (.lst _) => some (.type "list")
    | some (.tup _) => some (.type "tuple")
    | some (.dK _) => some (.type "dict")
    | some (.dT _) => some (.type "dict")
    | _ => none
  | .non => some (.type "NoneType")
  | .bl _ => some (.type "bool")
  | .int _ => some (.type "int")
  | .str _ => some (.type "str")
  | _ => none
def okT (cs : List Addr) : Value → Prop
  | .ref C => C ∈ cs
  | _ => True
def kit2 (D : Addr) : Value → Bool
  | .ref C => decide (C = D)
  | _ => false
theorem ty2_kit {K : PySem.W.Frag} {cs ds : List Addr} (k : Kit K cs ds) {H : Hp} {x : V} {t : Value} (h : tyV2 H x = some t) (ok : okT cs t) : TyX K H x t ∧ ∀ D ∈ ds, PySem.W.kitOne K t (.ref D) = some (kit2 D t) := by
  unfold tyV2 at h
  split at h <;> first
    | (cases h; exact ⟨.base .non, fun D hD => k.bo "NoneType" (by decide) D hD⟩)
    | (cases h; exact ⟨.base (.bl _), fun D hD => k.bo "bool" (by decide) D hD⟩)
    | (cases h; exact ⟨.base (.int _), fun D hD => k.bo "int" (by decide) D hD⟩)
    | (cases h; exact ⟨.base (.str _), fun D hD => k.bo "str" (by decide) D hD⟩)
    | (split at h <;> first
        | (cases h; exact ⟨.base (.lst (by assumption)), fun D hD => k.bo "list" (by decide) D hD⟩)
        | (cases h; exact ⟨.base (.tup (by assumption)), fun D hD => k.bo "tuple" (by decide) D hD⟩)
        | (cases h; exact ⟨.base (.dK (by assumption)), fun D hD => k.bo "dict" (by decide) D hD⟩)
        | (cases h; exact ⟨.base (.dT (by assumption)), fun D hD => k.bo "dict" (by decide) D hD⟩)
        | (cases h
           have O := k.ow _ ok
           exact ⟨.base (.ins (by assumption) O.cl O.ci O.gd O.tk O.mr), fun D hD => k.oo _ ok D hD⟩)
        | cases h)
    | cases h
/-- isinstance(x, C), C an own class -/
def fIsiO (cs ds : List Addr) : List V → Hp → VK → Prop := fun xs H Q => match xs with
  | [x, .ref D] => ∃ t, tyV2 H x = some t ∧ okT cs t ∧ D ∈ ds ∧ Q (.bl (kit2 D t)) H
  | _ => False
theorem call_fIsiO {X : Cx} {cs ds : List Addr} (k : Kit X.K cs ds) : CallR X (.builtin "isinstance") (fIsiO cs ds) := by
  intro pins s σ H xs us Q I r h
  match xs, r, h with
  | [x, .ref D], r, h =>
    obtain ⟨t, h1, h2, h3, h4⟩ := h
    obtain ⟨g1, g2⟩ := ty2_kit k h1 h2
    exact call_isi pins s σ H _ us Q I r ⟨x, .ref D, _, _, _, rfl, .own D, g1, g2 D h3, h4⟩
/-- isinstance(x, (C, D, ..)), own classes, the tuple just made -/
def kits2 (t : Value) : List V → Bool
  | .ref D :: r => kit2 D t || kits2 t r
  | _ => false
def allIn (ds : List Addr) : List V → Prop
  | [] => True
  | .ref D :: r => D ∈ ds ∧ allIn ds r
  | _ :: _ => False
theorem kits2_any {K : PySem.W.Frag} {ds : List Addr} {t : Value} (k : ∀ D ∈ ds, PySem.W.kitOne K t (.ref D) = some (kit2 D t)) : ∀ {vs : List V}, allIn ds vs → ∃ us, Paired ClsV vs us ∧ PySem.W.kitAny K t us = some (kits2 t vs)
  | [], _ => ⟨[], .nil, kitAny_nil⟩
  | v :: r, ha => by
    cases v <;> first
      | exact ha.elim
      | (rename_i D
         obtain ⟨us, p, q⟩ := kits2_any k ha.2
         refine ⟨_, .cons (.own D) p, kitAny_cons (k D ha.1) (fun hb => ?_) (fun hb => ?_)⟩
         · rw [q, kits2, hb]; rfl
         · rw [kits2, hb]; rfl)
def fIsiP (cs ds : List Addr) : List V → Hp → VK → Prop := fun xs H Q => match xs with
  | [x, .ref p] => match H p with
    | some (.tup vs) => ∃ t, tyV2 H x = some t ∧ okT cs t ∧ allIn ds vs ∧ Q (.bl (kits2 t vs)) H
    | _ => False
  | _ => False
theorem call_fIsiP {X : Cx} {cs ds : List Addr} (k : Kit X.K cs ds) : CallR X (.builtin "isinstance") (fIsiP cs ds) := by
  intro pins s σ H xs us Q I r h
  match xs, r, h with
  | [x, .ref p], r, h =>
    dsimp only [fIsiP] at h
    split at h
    · obtain ⟨t, h1, h2, h3, h4⟩ := h
      obtain ⟨g1, g2⟩ := ty2_kit k h1 h2
      obtain ⟨ws, g3, g4⟩ := kits2_any g2 h3
      exact call_isiT pins s σ H _ us Q I r ⟨x, p, _, _, ws, _, rfl, by assumption, g3, g1, g4, h4⟩
    · exact h.elim
/-- isinstance(x, T), T a built-in class, x an instance too -/
def fIsiA (cs : List Addr) : List V → Hp → VK → Prop := fun xs H Q => match xs with
  | [x, .ty n] => ∃ t, tyV2 H x = some t ∧ match t with
    | .ref C => C ∈ cs ∧ n ∈ ["bool", "int", "str", "list", "tuple", "dict"] ∧ Q (.bl false) H
    | .type s => ∃ b, kitB s n = some b ∧ Q (.bl b) H
    | _ => False
  | _ => False
theorem call_fIsiA {X : Cx} {cs ds : List Addr} (k : Kit X.K cs ds) : CallR X (.builtin "isinstance") (fIsiA cs) := by
  intro pins s σ H xs us Q I r h
  match xs, r, h with
  | [x, .ty n], r, h =>
    obtain ⟨t, h1, h2⟩ := h
    match t, h1, h2 with
    | .ref C, h1, h2 =>
      obtain ⟨g1, _⟩ := ty2_kit k h1 (show okT cs (.ref C) from h2.1)
      exact call_isi pins s σ H _ us Q I r ⟨x, .ty n, _, _, _, rfl, .ty n, g1, k.ob C h2.1 n h2.2.1, h2.2.2⟩
    | .type s', h1, h2 =>
      obtain ⟨b, h3, h4⟩ := h2
      obtain ⟨g1, _⟩ := ty2_kit k h1 (show okT cs (.type s') from trivial)
      exact call_isi pins s σ H _ us Q I r ⟨x, .ty n, _, _, _, rfl, .ty n, g1, kit_ty h3, h4⟩
/-- x is True, x is False; x is not .. -/
def fIsB (neg : Bool) : R2 := fun x y H Q => match y with
  | .bl b => (match x with | .non => Q (.bl neg) H | .bl c => Q (.bl (if neg = true then !decide (c = b) else decide (c = b))) H | .int _ => Q (.bl neg) H | .str _ => Q (.bl neg) H | .ref _ => Q (.bl neg) H | _ => False)
  | _ => False
theorem same_bool {M : Model} {A : Around} {E : Value → Shared → Prop} {s : Shared} {x : V} {u : Value} {b : Bool} {R : Bool → Shared → Prop} (r : RelV x u)
    (h : match x with | .non => R false s | .bl c => R (decide (c = b)) s | .int _ => R false s | .str _ => R false s | .ref _ => R false s | _ => False) : wpAny M A (isSame u (.bool b)) R E s := by
  cases x <;> first
    | exact h.elim
    | (cases r
       refine wpAny_isSame_plain rfl ?_
       exact h)
    | (obtain ⟨t, rfl⟩ := r
       refine wpAny_isSame_plain rfl ?_
       exact h)
    | (cases r
       rename_i c
       refine wpAny_isSame_plain rfl ?_
       have e : (Value.bool c == Value.bool b) = decide (c = b) := by cases c <;> cases b <;> rfl
       rw [e]
       exact h)
theorem op_fIsB {X : Cx} : OpR X (compareOp .Is) (fIsB false) := by
  intro pins s σ H x y v u Q I rx ry h
  cases y <;> first
    | exact False.elim h
    | (cases ry
       show wpAny _ _ ((isSame v (Value.bool _)) >>= fun z => pure (Value.bool z)) _ _ s
       refine wpAny_bind (same_bool rx ?_)
       cases x <;> first
         | exact False.elim h
         | exact wpAny_pure (fin_bl I h rfl))
theorem op_fNotB {X : Cx} : OpR X (compareOp .IsNot) (fIsB true) := by
  intro pins s σ H x y v u Q I rx ry h
  cases y <;> first
    | exact False.elim h
    | (cases ry
       show wpAny _ _ ((isSame v (Value.bool _)) >>= fun z => pure (Value.bool (!z))) _ _ s
       refine wpAny_bind (same_bool rx ?_)
       cases x <;> first
         | exact False.elim h
         | exact wpAny_pure (fin_bl I h rfl))
/-- one of two ways -/
def fOr (r1 r2 : R2) : R2 := fun x y H Q => r1 x y H Q ∨ r2 x y H Q
theorem op_fOr {X : Cx} {f : Value → Value → Sem Value} {r1 r2 : R2} (h1 : OpR X f r1) (h2 : OpR X f r2) : OpR X f (fOr r1 r2) := fun pins s σ H x y v u Q I rx ry q => q.elim (h1 pins s σ H x y v u Q I rx ry) (h2 pins s σ H x y v u Q I rx ry)
theorem all_nil {α : Type} {P : α → Prop} : ∀ x ∈ ([] : List α), P x := fun _ h => by cases h
theorem all_cons {α : Type} {P : α → Prop} {a : α} {l : List α} (h : P a) (t : ∀ x ∈ l, P x) : ∀ x ∈ a :: l, P x := fun x m => by
  rcases List.mem_cons.mp m with rfl | m
  · exact h
  · exact t x m
/-! ### == by an own __eq__ -/
def fEqO (C : Addr) (sp : Sp) (E : XK) : R2 := fun x y H Q => match x, y with
  | .ref a, .ref b => (match H a with | some (.ins D _ _) => D = C | _ => False) ∧ (match H b with | some (.ins D _ _) => D = C | _ => False) ∧ sp [x, y] H (fun v H' => match v with | .bl _ => Q v H' | _ => False) E
  | _, _ => False
theorem op_fEqO {X : Cx} {CX : CXT} {C : Addr} {n : Nat} {ps : List Str} {sp : Sp} {E : XK} (h : HasM X.prog X.w X.K X.mg X.base CX C "__eq__" n ps sp) (hr : Room n X.A) (hx : Passes CX X E) : OpR X (compareOp .Eq) (fEqO C sp E) := by
  intro pins s σ H x y v u Q I rx ry q
  obtain ⟨f, fd, F, B, M⟩ := h.ex
  cases x <;> cases y <;> first
    | exact False.elim q
    | skip
  rename_i a b
  dsimp only [fEqO] at q
  obtain ⟨qa, qb, q⟩ := q
  split at qa
  · rename_i D1 dx1 fs1 ea
    split at qb
    · rename_i D2 dx2 fs2 eb
      subst qa
      subst qb
      cases rx
      cases ry
      obtain ⟨mA, J, _⟩ := ins_get I.hok ea
      obtain ⟨mB, J', _⟩ := ins_get I.hok eb
      obtain ⟨od, J, _⟩ := J.look
      obtain ⟨od', J', _⟩ := J'.look
      obtain ⟨m, hF⟩ := I.fr
      show wpAny (model X.prog X.w) X.A (richCompare .Eq (.ref a) (.ref b)) (EP X pins σ Q) X.xe s
      refine PySem.W.cmp_K (op := .Eq) (tb := .ref D2) hr.units0 hF I.ok.mod.kin J J'.type (by simp [PySem.W.notFirst]) M.at_ M.fn ?_
      refine wpAny_mono (run_fn (vs := [.ref a, .ref b]) F hr B .nil hx I (.cons rfl (.cons rfl .nil)) q) (fun w s' z => ?_) fun _ _ x => x
      obtain ⟨y, H', I', r, z⟩ := z
      cases y <;> first
        | exact z.elim
        | (cases r; exact ⟨.bl _, H', I', rfl, z⟩)
    · exact qb.elim
  · exact qa.elim
/-! ### what the top has written of a class -/
structure ClsFact (K : PySem.W.Frag) (C : Addr) : Prop where
  pg : PySem.W.plainGet K C Str.empty = true
  hd : PySem.W.hasDictIn K C = true
  po : PySem.W.plainOver K C = true
  sa : PySem.W.findIn K (.ref C) "__setattr__" = some (some (.builtin "object.__setattr__"))
  ci : PySem.W.findIn K (.ref C) "__class__" = some (some (.builtin "object.__class__"))
  mr : PySem.W.mroIn K C (.type "object") = some true
  mks : PySem.W.makesIn K C = true
  kp : PySem.W.keepIn K (.ref C) = true
theorem ClsFact.cls {K : PySem.W.Frag} {C : Addr} (x : ClsFact K C) : Cls K C := ⟨x.pg, x.hd, x.po, x.sa⟩
/-- what every class has of object -/
structure ObjFact (K : PySem.W.Frag) : Prop where
  gd : PySem.W.specialIn K (.builtin "object.__class__") "__get__" = some (some (.builtin "getset_descriptor.__get__"))
  tk : PySem.W.takesIn K (.builtin "object.__class__") = some true
theorem ClsFact.ocls {K : PySem.W.Frag} {C : Addr} (x : ClsFact K C) (o : ObjFact K) : OCls K C := ⟨x.cls, x.ci, o.gd, o.tk, x.mr⟩
/-! ### comprehensions -/
def Lc (J : It) (g : TG) (tt : TT) (te : TE) (vs : List Nat) (σ : L2.St) (H1 : Hp) (D : Addr) (Q : VK) : Prop := ∃ W : Nat → Nat → Hp → Prop, (∃ m, W 0 m (upd H1 D (.lst []))) ∧ ∀ i m H, W i m H →
  (J.stop i H ∧ Q (.ref D) H) ∨ (J.go i H ∧ ∃ Nx : Hp → Prop, (∀ H', Nx H' → ∃ m', m' < m ∧ W (i + 1) m' H') ∧ ∀ x H', J.yld i H x H' → g x (wipe σ vs) H' fun σ2 H2 => wipe σ2 vs = wipe σ vs ∧ tt σ2 H2 fun b H3 =>
    if b = true then te σ2 H3 fun y H4 => ∃ acc, H4 D = some (.lst acc) ∧ acc.length < sizeLine ∧ Nx (upd H4 D (.lst (acc ++ [y]))) else Nx H3)
theorem lc_ {wi : TI} {g : TG} {tt : TT} {te : TE} {vs : List Nat} {σ : L2.St} {H : Hp} {Q : VK} (h : wi σ H fun J H1 => ∀ D, H1 D = none → Lc J g tt te vs σ H1 D Q) : tLc wi g tt te vs σ H Q := h
theorem lcx_range {lo : Int} {n : Nat} {g : TG} {tt : TT} {te : TE} {vs : List Nat} {σ : L2.St} {H1 : Hp} {D : Addr} {Q : VK} (Pv : Nat → Hp → Prop) (h0 : Pv 0 (upd H1 D (.lst [])))
    (hs : ∀ i H, i < n → Pv i H → g (.int (lo + i)) (wipe σ vs) H fun σ2 H2 => wipe σ2 vs = wipe σ vs ∧ tt σ2 H2 fun b H3 =>
      if b = true then te σ2 H3 fun y H4 => ∃ acc, H4 D = some (.lst acc) ∧ acc.length < sizeLine ∧ Pv (i + 1) (upd H4 D (.lst (acc ++ [y]))) else Pv (i + 1) H3) (hd : ∀ H, Pv n H → Q (.ref D) H) : Lc (Itr lo n) g tt te vs σ H1 D Q :=
  lc_it walk_range Pv h0 (fun _ _ _ _ => trivial) (fun i x H H' hi p y => by
    obtain ⟨rfl, rfl⟩ := y
    exact hs i _ hi p) hd
theorem lcx_list {K : PySem.W.Frag} {a : Addr} {xs : List V} {g : TG} {tt : TT} {te : TE} {vs : List Nat} {σ : L2.St} {H1 : Hp} {D : Addr} {Q : VK} (Pv : Nat → Hp → Prop) (h0 : Pv 0 (upd H1 D (.lst []))) (hl : ∀ i H, i ≤ xs.length → Pv i H → SqL K H a xs)
    (hs : ∀ i x H, xs[i]? = some x → Pv i H → g x (wipe σ vs) H fun σ2 H2 => wipe σ2 vs = wipe σ vs ∧ tt σ2 H2 fun b H3 =>
      if b = true then te σ2 H3 fun y H4 => ∃ acc, H4 D = some (.lst acc) ∧ acc.length < sizeLine ∧ Pv (i + 1) (upd H4 D (.lst (acc ++ [y]))) else Pv (i + 1) H3) (hd : ∀ H, Pv xs.length H → Q (.ref D) H) : Lc (Itl K a) g tt te vs σ H1 D Q :=
  lc_it walk_list Pv h0 hl (fun i x H H' hi p y => by
    obtain ⟨rfl, e⟩ := y
    exact hs i x _ e p) hd
end Fx

set_option Elab.async false
set_option linter.all false
set_option maxRecDepth 100000
/-! Ex: exceptions of the program's own classes, over Ox. -/
namespace Fx
open PySem PySem.Spec PyProof.Rows L2
/-! ### defs that may raise -/
/-- what leaves a def, as its promise says -/
abbrev wOf (E : XK) : WX := fun cls d _ H => E cls d H
section
variable {P : Program} {w : World} {K : PySem.W.Frag} {mg : Str → Option Value} {base : Heap}
theorem tk_of {N : List Str} {qual : Str} {sc : Scope} {f : Addr} {cd : Value} {A : Around} {outer : List Env} {s : Shared} {H : Hp} {E : XK} : Takes (cxOf (L2.CX P w) P w K mg base N qual sc f cd A outer s H E) (wOf E) := takes_of rfl rfl rfl rfl
theorem hasX_of {x qual : Str} {st : Stmt} {N ps : List Str} {k : Nat} {sp : Sp} (A : At K mg x qual st ps) (S : FnScope N ps (defScope st)) (len : ∀ vs H Q E, sp vs H Q E → vs.length = ps.length)
    (hbody : ∀ (cdv : Value) (f : Addr) (A : Around) (outer : List Env) (s : Shared) (H : Hp) (vs : List V) (Q : VK) (E : XK), Room k (A.deeper (envOfC qual (defScope st) s.heap.objs.size f cdv)) → sp vs H Q E →
      ∃ t, PSs (cxOf (L2.CX P w) P w K mg base N qual (defScope st) f cdv A outer s H E) (defBody st) t ∧ t { nx := fun _ H' => Q .non H', rt := Q } (start N vs) H) : Has P w K mg base (L2.CX P w) x (k + 1) ps sp := by
  obtain ⟨f, fd, F, B, G⟩ := A.ex
  exact ⟨f, fd, F.okX S len fun cdv A outer s H vs Q E hr h => hbody cdv f A outer s H vs Q E hr h, B, G, F.kp⟩
theorem hasMX_of {C : Addr} {x qual : Str} {st : Stmt} {N ps : List Str} {k : Nat} {sp : Sp} (A : AtM K C x qual st ps) (S : FnScope N ps (defScope st)) (len : ∀ vs H Q E, sp vs H Q E → vs.length = ps.length)
    (hbody : ∀ (cdv : Value) (f : Addr) (A : Around) (outer : List Env) (s : Shared) (H : Hp) (vs : List V) (Q : VK) (E : XK), Room k (A.deeper (envOfC qual (defScope st) s.heap.objs.size f cdv)) → sp vs H Q E →
      ∃ t, PSs (cxOf (L2.CX P w) P w K mg base N qual (defScope st) f cdv A outer s H E) (defBody st) t ∧ t { nx := fun _ H' => Q .non H', rt := Q } (start N vs) H) : HasM P w K mg base (L2.CX P w) C x (k + 1) ps sp := by
  obtain ⟨f, fd, F, B, G⟩ := A.ex
  exact ⟨f, fd, F.okX S len fun cdv A outer s H vs Q E hr h => hbody cdv f A outer s H vs Q E hr h, B, G⟩
end
section
variable {X : Cx} {CX : CXT} {k : Nat} {C : Addr} {x m : Str} {p pos apos : Pos} {o e : Expr} {es : List Expr} {t : TA} {ta : TE} {ps : List Str} {sp : Sp} {W : WX}
theorem fe_callX (h : Has X.prog X.w X.K X.mg X.base (L2.CX X.prog X.w) x k ps sp) (hr : Room k X.A) (hg : Gl X x) (tk : Takes X W) (ha : PA X (e :: es) t) (hd : (x == ("__debug__" : Str)) = false := by decide)
    (hs : starEach (e :: es) X.env = (false, eval e X.env) :: starEach es X.env := by rfl) (hplain : (backTo pos (starEach es X.env)).any (·.1) = false := by rfl) : PE X (.Call (.Name x p) (e :: es) [] pos) (tCallS sp (WE W) t) := by
  obtain ⟨f, fd, F, B, G, kp⟩ := h.ex
  exact pe_callS F hr hg G kp B (fun σ => passAt tk σ) ha hd hs hplain
theorem fe_callX0 (h : Has X.prog X.w X.K X.mg X.base (L2.CX X.prog X.w) x k ps sp) (hr : Room k X.A) (hg : Gl X x) (tk : Takes X W) (hd : (x == ("__debug__" : Str)) = false := by decide) : PE X (.Call (.Name x p) [] [] pos) (tCallS sp (WE W) tNil) := by
  obtain ⟨f, fd, F, B, G, kp⟩ := h.ex
  refine ⟨fun pins s σ H Q I h => ?_⟩
  refine wpAny_Call_Name_kw (ld_glob I hg G ?_ hd)
  exact PySem.W.callWith_K0 I.kIn kp (run_fnS (us := []) F hr B (passAt tk σ) I .nil h)
theorem isOb_some {a : Addr} {H : Hp} (h : isOb C m (.ref a) H) : ∃ dx fs, H a = some (.ins C dx fs) ∧ fs.lookup m = none := by
  unfold isOb at h
  dsimp only at h
  split at h
  · obtain ⟨rfl, l⟩ := h
    exact ⟨_, _, by assumption, l⟩
  · exact h.elim
def fMethS (C : Addr) (m : Str) (sp : Sp) (E : L2.St → XK) (ta : TE) (t : TA) : TE := fun σ H Q => ta σ H fun x H1 => isOb C m x H1 ∧ t σ H1 fun vs H2 => sp (x :: vs) H2 Q (E σ)
theorem fe_methX {pl : Sem Bool} (h : HasM X.prog X.w X.K X.mg X.base (L2.CX X.prog X.w) C m k ps sp) (c : Cls X.K C) (hr : Room k X.A) (tk : Takes X W) (he : PE X o ta) (ha : PA X (e :: es) t)
    (hst : starEach (e :: es) X.env = (false, eval e X.env) :: starEach es X.env := by rfl) (hpl : (backTo pos (starEach es X.env)).any (·.1) = false := by rfl)
    (ht : eval (.Call (.Attribute o m apos) (e :: es) [] pos) X.env = (do
      let ov ← eval o X.env
      standAt apos.atName
      let (f, first) ← holding [ov] (getMethod ov m pl)
      callWith pos f first (backTo pos (starEach (e :: es) X.env)) (backToKw pos (keywordEach [] X.env))) := by rfl) :
    PE X (.Call (.Attribute o m apos) (e :: es) [] pos) (fMethS C m sp (WE W) ta t) := by
  obtain ⟨f, fd, F, B, M⟩ := h.ex
  refine ⟨fun pins s σ H Q I h => ?_⟩
  refine PySem.W.methodCall_KW (pl := pl) (thn (he.run pins s σ H _ I h) fun u s1 ⟨x, H1, I1, rx, q1, q2⟩ => ?_) ht
  match x, q1, rx, q2 with
  | .ref a, q1, rx, q2 =>
    obtain ⟨dx, fs, ea, l⟩ := isOb_some q1
    · obtain rfl : u = Value.ref a := rx
      refine getmeth_ok I1 ea c M l ?_
      refine PySem.W.callWith_K (first := [.ref a]) (h₀ := X.base) I.ok.mod.kin M.kp (thn (ha.run pos pins s1 σ H1 _ I1 q2) fun us s2 ⟨vs, H2, I2, r, q3⟩ => ⟨I2.kIn, ?_⟩) hst hpl
      exact run_fnS (us := .ref a :: us) (vs := .ref a :: vs) F hr B (passAt tk σ) I2 (.cons rfl r) q3
theorem fe_methX0 {pl : Sem Bool} (h : HasM X.prog X.w X.K X.mg X.base (L2.CX X.prog X.w) C m k ps sp) (c : Cls X.K C) (hr : Room k X.A) (tk : Takes X W) (he : PE X o ta)
    (ht : eval (.Call (.Attribute o m apos) [] [] pos) X.env = (do
      let ov ← eval o X.env
      standAt apos.atName
      let (f, first) ← holding [ov] (getMethod ov m pl)
      callWith pos f first (backTo pos (starEach [] X.env)) (backToKw pos (keywordEach [] X.env))) := by rfl) :
    PE X (.Call (.Attribute o m apos) [] [] pos) (fMethS C m sp (WE W) ta tNil) := by
  obtain ⟨f, fd, F, B, M⟩ := h.ex
  refine ⟨fun pins s σ H Q I h => ?_⟩
  refine PySem.W.methodCall_KW (pl := pl) (thn (he.run pins s σ H _ I h) fun u s1 ⟨x, H1, I1, rx, q1, q2⟩ => ?_) ht
  match x, q1, rx, q2 with
  | .ref a, q1, rx, q2 =>
    obtain ⟨dx, fs, ea, l⟩ := isOb_some q1
    · obtain rfl : u = Value.ref a := rx
      refine getmeth_ok I1 ea c M l ?_
      exact PySem.W.callWith_K0 (first := [.ref a]) I1.kIn M.kp (run_fnS (us := [.ref a]) (vs := [.ref a]) F hr B (passAt tk σ) I1 (.cons rfl .nil) q2)
end
/-! ### exception classes -/
structure ExcFact (K : PySem.W.Frag) (C : Addr) : Prop where
  cls : ∃ nm q N bs bm sn sub ab col dd k0 k1 k2 k3 k5, K.lookup C = some (excClassObj nm q C N bs bm true sn sub ab col dd k0 k1 k2 k3 k5 "ValueError.__new__") ∧ PySem.HandSPX.refsVE bm = true
  sa : PySem.W.findIn K (.ref C) "__setattr__" = some (some (.builtin "object.__setattr__"))
  ga : PySem.W.findIn K (.ref C) "__getattribute__" = some (some (.builtin "BaseException.__getattribute__"))
  gg : PySem.W.findIn K (.ref C) "__getattr__" = some none
  exC : PySem.W.subIn K (.ref C) (.type "BaseException") = some true
  tyC : PySem.W.typeIn K (.ref C) = some (.type "type")
  kC : PySem.W.keepIn K (.ref C) = true
  hdC : PySem.W.hasDictIn K C = true
  ci : PySem.W.findIn K (.ref C) "__class__" = some (some (.builtin "object.__class__"))
  mr : PySem.W.mroIn K C (.type "object") = some true
theorem ExcFact.of {K : PySem.W.Frag} {C : Addr} {nm q N bs bm sn sub ab col dd k0 k1 k2 k3 k5} (l : K.lookup C = some (excClassObj nm q C N bs bm true sn sub ab col dd k0 k1 k2 k3 k5 "ValueError.__new__")) (r : PySem.HandSPX.refsVE bm = true)
    (sa : PySem.W.findIn K (.ref C) "__setattr__" = some (some (.builtin "object.__setattr__"))) (ga : PySem.W.findIn K (.ref C) "__getattribute__" = some (some (.builtin "BaseException.__getattribute__"))) (gg : PySem.W.findIn K (.ref C) "__getattr__" = some none)
    (exC : PySem.W.subIn K (.ref C) (.type "BaseException") = some true) (tyC : PySem.W.typeIn K (.ref C) = some (.type "type")) (kC : PySem.W.keepIn K (.ref C) = true) (hdC : PySem.W.hasDictIn K C = true)
    (ci : PySem.W.findIn K (.ref C) "__class__" = some (some (.builtin "object.__class__"))) (mr : PySem.W.mroIn K C (.type "object") = some true) : ExcFact K C :=
  ⟨⟨nm, q, N, bs, bm, sn, sub, ab, col, dd, k0, k1, k2, k3, k5, l, r⟩, sa, ga, gg, exC, tyC, kC, hdC, ci, mr⟩
theorem ExcFact.oex {K : PySem.W.Frag} {C : Addr} (F : ExcFact K C) : OexC K C := ⟨F.cls, F.sa, F.exC, F.tyC, F.kC⟩
theorem ExcFact.xf {K : PySem.W.Frag} {C : Addr} (F : ExcFact K C) : XfC K C := ⟨F.ga, F.gg, F.exC, F.hdC⟩
/-- __init__ of an exception class as it stands -/
structure AtE (K : PySem.W.Frag) (C : Addr) (qual : Str) (st : Stmt) (ps : List Str) : Prop where
  ex : ∃ (f : Addr) (fd : FuncData), Fun K "__init__" qual st f fd ∧ Binds K fd ps [] ∧ PySem.W.findIn K (.ref C) "__init__" = some (some (.ref f)) ∧ PySem.W.typeIn K (.ref f) = some (.type "function")
structure EFact (K : PySem.W.Frag) (C : Addr) (qual : Str) (st : Stmt) : Prop where
  ex : ∃ (f : Addr) (oc : Value) (od an : Option Addr) (sl : Array (Option Value)) (kV dc pm cd ct : Value),
    PySem.W.findIn K (.ref C) "__init__" = some (some (.ref f)) ∧ K.lookup f = some ⟨oc, od, .func (PySem.W.fnOf "__init__" qual (defArgs st) (defBody st) (defScope st) .none kV dc pm an cd ct), sl⟩ ∧
    PySem.W.codeIn K cd qual = true ∧ PySem.W.keepIn K (.ref f) = true ∧ PySem.W.typeIn K (.ref f) = some (.type "function")
theorem EFact.of {K : PySem.W.Frag} {C : Addr} {qual : Str} {st : Stmt} {f : Addr} {oc : Value} {od an : Option Addr} {sl : Array (Option Value)} {kV dc pm cd ct : Value}
    (a : PySem.W.findIn K (.ref C) "__init__" = some (some (.ref f))) (l : K.lookup f = some ⟨oc, od, .func (PySem.W.fnOf "__init__" qual (defArgs st) (defBody st) (defScope st) .none kV dc pm an cd ct), sl⟩)
    (c : PySem.W.codeIn K cd qual = true) (k : PySem.W.keepIn K (.ref f) = true) (i : PySem.W.typeIn K (.ref f) = some (.type "function")) : EFact K C qual st := ⟨f, oc, od, an, sl, kV, dc, pm, cd, ct, a, l, c, k, i⟩
theorem AtE.of {K : PySem.W.Frag} {C : Addr} {qual : Str} {st : Stmt} {ps : List Str} (F : EFact K C qual st)
    (hb : ∀ (kV doc pm : Value) (an : Option Addr) (cdv ct : Value) (us : List Value), us.length = ps.length → bindArgs (PySem.W.fnOf "__init__" qual (defArgs st) (defBody st) (defScope st) .none kV doc pm an cdv ct) ⟨us, []⟩ = pure (ps.zip us)) : AtE K C qual st ps := by
  obtain ⟨f, oc, od, an, sl, kV, dc, pm, cd, ct, a, l, c, k, i⟩ := F.ex
  have F1 := fun_mk (st := st) l c k
  exact ⟨_, _, F1, F1.binds hb, a, i⟩
/-- what __init__ keeps: two fields -/
def spInitE (C : Addr) (n : Nat) (flds : List V → List (Str × V)) : Sp := fun ws H0 Q _ => ∃ a vs H1, ws = .ref a :: vs ∧ vs.length = n ∧ H1 a = none ∧ H0 = upd H1 a (exo a C none) ∧
  ∀ d H2, H1 d = none → d ≠ a → (∀ b o, H1 b = some o → H2 b = some o) → H2 a = some (exo a C (some d)) → H2 d = some (exd d (flds vs)) → Q .non H2
/-- an exception class whose __init__ keeps its fields -/
structure HasE (P : Program) (w : World) (K : PySem.W.Frag) (mg : Str → Option Value) (base : Heap) (C : Addr) (x : Str) (n : Nat) (flds : List V → List (Str × V)) : Prop where
  ex : ∃ (f : Addr) (fd : FuncData) (ps : List Str), FnOk P w K mg base CX0 1 f fd ps (spInitE C n flds) ∧ Binds K fd ps [] ∧ PySem.W.findIn K (.ref C) "__init__" = some (some (.ref f)) ∧ PySem.W.typeIn K (.ref f) = some (.type "function") ∧ mg x = some (.ref C) ∧ OexC K C
def two (f1 f2 : Str) : List V → List (Str × V)
  | [a, b] => [(f2, b), (f1, a)]
  | _ => []
theorem hasE2 {P : Program} {w : World} {K : PySem.W.Frag} {mg : Str → Option Value} {base : Heap} {C : Addr} {x qual f1 f2 : Str} {st : Stmt} {q1 q2 q3 q4 r1 r2 r3 r4 : Pos} (A : AtE K C qual st ["self", f1, f2]) (S : FnScope ["self", f1, f2] ["self", f1, f2] (defScope st))
    (hb : defBody st = [.Assign [.Attribute (.Name "self" q1) f1 q2] (.Name f1 q3) q4, .Assign [.Attribute (.Name "self" r1) f2 r2] (.Name f2 r3) r4])
    (F : ExcFact K C) (n1 : PySem.W.findIn K (.ref C) f1 = some none) (n2 : PySem.W.findIn K (.ref C) f2 = some none) (g : mg x = some (.ref C)) (d1 : (f1 == ("__debug__" : Str)) = false) (d2 : (f2 == ("__debug__" : Str)) = false)
    (c1 : (f1 == ("__classdict__" : Str)) = false) (c2 : (f2 == ("__classdict__" : Str)) = false) : HasE P w K mg base C x 2 (two f1 f2) := by
  obtain ⟨f, fd, Fn, B, I, Ty⟩ := A.ex
  refine ⟨f, fd, _, ?_, B, I, Ty, g, F.oex⟩
  refine Fn.ok S (fun ws H Q E h => ?_) (fun cdv A outer s H ws Q E hr h => ?_)
  · obtain ⟨a, vs, H1, rfl, hl, _⟩ := h
    show vs.length + 1 = 3
    rw [hl]
  · obtain ⟨a, vs, H1, rfl, hl, na, rfl, k⟩ := h
    match vs, hl, k with
    | [v1, v2], hl, k =>
      have v0 : Vis (defScope st) "self" := (S.par "self" (List.Mem.head _)).elim (fun z => .inl z) (fun z => .inr (.inl z))
      have vis1 : Vis (defScope st) f1 := (S.par f1 (List.Mem.tail _ (List.Mem.head _))).elim (fun z => .inl z) (fun z => .inr (.inl z))
      have vis2 : Vis (defScope st) f2 := (S.par f2 (List.Mem.tail _ (List.Mem.tail _ (List.Mem.head _)))).elim (fun z => .inl z) (fun z => .inr (.inl z))
      rw [hb]
      refine ⟨_, pss_cons (ps_ost (fe_var 0 rfl v0) (fe_var 1 rfl vis1 d1 c1)) (pss_one (ps_ost (fe_var 0 rfl v0) (fe_var 2 rfl vis2 d2 c2))), ?_⟩
      refine ⟨a, C, rfl, F.oex, n1, .inl ⟨upd_same, fun dx ndx nea => ?_⟩⟩
      have hdx : H1 dx = none := by rw [upd_ne nea] at ndx; exact ndx
      refine ⟨a, C, rfl, F.oex, n2, .inr ⟨dx, [(f1, v1)], upd_same, (upd_ne nea).trans upd_same, (show 1 ≤ 900 by decide), ?_⟩⟩
      refine k dx _ hdx nea (fun b o e => ?_) ?_ upd_same
      · rw [upd_ne (ne_of_none e hdx), upd_ne (ne_of_none e na), upd_ne (ne_of_none e hdx), upd_ne (ne_of_none e na)]
        exact e
      · rw [upd_ne (Ne.symm nea)]
        exact upd_same
/-- C(e, ..) -/
def fMkE (C : Addr) (n : Nat) (flds : List V → List (Str × V)) (ta : TA) : L2.St → Hp → XK → Prop := fun σ H Q => ta σ H fun vs H1 => vs.length = n ∧ ∀ d H2, H1 d = none → Same H1 H2 → H2 d = some (.xd (flds vs)) → Q (.ref C) (some d) H2
section
variable {X : Cx} {C : Addr} {x : Str} {n : Nat} {flds : List V → List (Str × V)} {p pos : Pos} {e : Expr} {es : List Expr} {ta : TA}
def closAX (t : TA) : TA := closA t
theorem fmk_e (h : HasE X.prog X.w X.K X.mg X.base C x n flds) (hn : n ≤ 1000) (hr : Room 2 X.A) (hg : Gl X x) (ha : PA X (e :: es) ta) (hdb : (x == ("__debug__" : Str)) = false := by decide)
    (he : starEach (e :: es) X.env = (false, eval e X.env) :: starEach es X.env := by rfl) (hpl : (backTo pos (starEach es X.env)).any (·.1) = false := by rfl) : PMk X (.Call (.Name x p) (e :: es) [] pos) (fMkE C n flds ta) := by
  obtain ⟨f, fd, ps, F, B, I, Ty, g, O⟩ := h.ex
  intro pins s σ H Q Iv q
  refine pmk_oex O I Ty F hr B .nil (fun _ _ _ _ _ _ _ h => h.elim) hg g (pa_clos ha) hdb he hpl pins s σ H Q Iv ⟨_, q, fun vs H1 q => ?_⟩
  obtain ⟨hl, q⟩ := q
  refine ⟨by omega, fun a na => ⟨a, vs, H1, by rw [List.append_nil], hl, na, rfl, fun d H2 nd ne keep ea ed => ⟨rfl, d, flds vs, ea, ed, nd, q d _ nd (fun b o eb => ?_) upd_same⟩⟩⟩
  rw [upd_ne (ne_of_none eb nd), del_ne (ne_of_none eb na)]
  exact keep b o eb
/-- raise C(e, ..) -/
def fRaise (C : Addr) (n : Nat) (flds : List V → List (Str × V)) (W : WX) (ta : TA) : TS := fun _ σ H => ta σ H fun vs H1 => vs.length = n ∧ ∀ d H2, H1 d = none → Same H1 H2 → H2 d = some (.xd (flds vs)) → W (.ref C) (some d) σ H2
theorem fs_raise {W : WX} {pos2 : Pos} (hc : X.calm = true) (tk : Takes X W) (h : HasE X.prog X.w X.K X.mg X.base C x n flds) (hn : n ≤ 1000) (hr : Room 2 X.A) (hg : Gl X x) (ha : PA X (e :: es) ta) (hdb : (x == ("__debug__" : Str)) = false := by decide)
    (he : starEach (e :: es) X.env = (false, eval e X.env) :: starEach es X.env := by rfl) (hpl : (backTo pos (starEach es X.env)).any (·.1) = false := by rfl) : PS X (.Raise (some (.Call (.Name x p) (e :: es) [] pos)) none pos2) (fRaise C n flds W ta) :=
  ps_raise hc tk (fmk_e h hn hr hg ha hdb he hpl)
end
/-- the way out of a def: an exception of class C with two fields -/
def Out (C : Addr) (H : Hp) (fs : List (Str × V)) (E : XK) : Prop := ∀ d H2, H d = none → Same H H2 → H2 d = some (.xd fs) → E (.ref C) (some d) H2
theorem Out.same {C : Addr} {H H1 : Hp} {fs : List (Str × V)} {E : XK} (h : Out C H fs E) (s : Same H H1) : Out C H1 fs E := fun d H2 nd s2 e => h d H2 (by
  cases q : H d with
  | none => rfl
  | some o => rw [s _ _ q] at nd; cases nd) (s.trans s2) e
/-! ### the suite -/
/-- e.f, e the caught one -/
def fXf (a : Addr) (cls : Value) (d : Option Addr) (cs : List Addr) (f : Str) (te : TE) : TE := fun σ H Q => te σ H fun x H1 => x = .ref a ∧ match cls, d with
  | .ref C, some dd => C ∈ cs ∧ match H1 dd with
    | some (.xd fs) => match fs.lookup f with
      | some v => Q v H1
      | none => False
    | _ => False
  | _, _ => False
def XPlain (K : PySem.W.Frag) (cs : List Addr) (f : Str) : Prop := ∀ C ∈ cs, XfC K C ∧ PySem.W.findIn K (.ref C) f = some none
theorem fe_xf {X : Cx} {a : Addr} {cs : List Addr} {oe : Obj} {cls : Value} {d : Option Addr} {pn : List (Addr × Obj)} {e : Expr} {te : TE} {pos : Pos} {n : Str} (T : XPlain X.K cs n)
    (hz : Zc cls d oe) (hf : ∃ vs, oe.data = .fields vs) (he : PE (X.suite a ((a, oe) :: pn)) e te) (hb : attributeBase e n X.env (eval e X.env) = eval e X.env) :
    PE (X.suite a ((a, oe) :: pn)) (.Attribute e n pos) (fXf a cls d cs n te) := by
  refine ⟨fun pins s σ H Q I h => ?_⟩
  refine attr_of hb (thn (he.run pins s σ H _ I h) fun u s1 hh => ?_)
  obtain ⟨x, H1, I1, rx, ex, q⟩ := hh
  subst ex
  obtain rfl : u = Value.ref a := rx
  split at q
  · rename_i C dd
    obtain ⟨m, q⟩ := q
    split at q
    · rename_i fs ea
      split at q
      · rename_i v l
        obtain ⟨ha, _⟩ := I1.pin (a, oe) (List.mem_append_left _ List.mem_cons_self)
        obtain ⟨vs, hd⟩ := hf
        have hx : ObjOk X.prog X.w H1 s1.heap dd (.xd fs) := I1.hok dd _ ea
        obtain ⟨mA, hns, hr⟩ := hx
        obtain ⟨od, ho, hl⟩ := lookIn_ns hns
        obtain ⟨u, hu, ru⟩ := RelO.some_of (v := v) (o := mA n) (by rw [← l]; exact hr n)
        have J : PySem.W.InstAt s1.heap a oe C (some od) := ⟨ha, hz.1, by unfold PySem.W.notCls; rw [hd] <;> rfl, by rw [hz.2]; exact ho⟩
        exact HandSPX.exc_get I1.kIn J (T C m).1.ga (T C m).1.gg (T C m).1.exC (PySem.W.findObj_own (T C m).1.hdC (T C m).2 rfl (by rw [hl, hu])) (handed_of ru) ⟨v, H1, I1.tok _, ru, q⟩
      · exact q.elim
    · exact q.elim
  · exact q.elim
/-- isinstance(e, C), e the caught one -/
structure XKit (K : PySem.W.Frag) (cs ds : List Addr) : Prop where
  f : ∀ C ∈ cs, ExcFact K C
  ob : ObjFact K
  k : ∀ C ∈ cs, ∀ D ∈ ds, ∃ b, PySem.W.kitOne K (.ref C) (.ref D) = some b
def fIsE (K : PySem.W.Frag) (a : Addr) (cls : Value) (d : Option Addr) (cs : List Addr) : List V → Hp → VK → Prop := fun xs H Q => match xs with
  | [x, .ref D] => x = .ref a ∧ (match cls with | .ref C => C ∈ cs | _ => False) ∧ (match d with | none => True | some dd => match H dd with | some (.xd _) => True | _ => False) ∧ ∃ b, PySem.W.kitOne K cls (.ref D) = some b ∧ Q (.bl b) H
  | _ => False
theorem call_fIsE {X : Cx} {a : Addr} {cls : Value} {d : Option Addr} {cs : List Addr} {oe : Obj} {pn : List (Addr × Obj)} (F : ∀ C ∈ cs, ExcFact X.K C) (ob : ObjFact X.K) (hz : Zc cls d oe) (hf : ∃ vs, oe.data = .fields vs) :
    CallR (X.suite a ((a, oe) :: pn)) (.builtin "isinstance") (fIsE X.K a cls d cs) := by
  intro pins s σ H xs us Q I r h
  match xs, r, h with
  | [x, .ref D], r, h =>
    obtain ⟨rfl, hc, hd, b, e, q⟩ := h
    match cls, hc, hz, e with
    | .ref C, hc, hz, e =>
      cases r with
      | cons rx rr =>
        cases rr with
        | cons rt rr =>
          cases rr
          cases rx
          cases rt
          obtain ⟨hget, _⟩ := I.pin (a, oe) (List.mem_append.mpr (.inl List.mem_cons_self))
          obtain ⟨vs, hv⟩ := hf
          have FC := F C hc
          have hcl : (PySem.W.clsIn X.K C).isSome = true := by
            obtain ⟨cd, hcd, _⟩ := PySem.W.any_some FC.hdC
            rw [hcd]; rfl
          have hJ : ∃ od, PySem.W.InstAt s.heap a oe C od := by
            cases d with
            | none =>
              refine ⟨none, hget, hz.1, ?_, ?_⟩
              · unfold PySem.W.notCls; rw [hv] <;> rfl
              · rw [hz.2]; trivial
            | some dd =>
              dsimp only at hd
              split at hd
              · rename_i fs ea
                have hx : ObjOk X.prog X.w H s.heap dd (.xd fs) := I.hok dd _ ea
                obtain ⟨mA, hns, hr⟩ := hx
                obtain ⟨od, ho, hl⟩ := lookIn_ns hns
                exact ⟨some od, hget, hz.1, by unfold PySem.W.notCls; rw [hv] <;> rfl, by rw [hz.2]; exact ho⟩
              · exact hd.elim
          obtain ⟨od, J⟩ := hJ
          exact PySem.W.kia_one (PySem.W.kitx_exc hcl FC.ga FC.gg FC.exC FC.ci ob.gd ob.tk FC.mr) I.kIn J e (fun z => nomatch z) fun tk => ⟨.bl b, H, I.kept (t' := tk) fun _ _ z => z, rfl, q⟩
/-! ### parts that are never reached -/
section
variable {X : Cx}
def fDead : TE := fun _ _ _ => False
def sDead : TS := fun _ _ _ => False
theorem pe_dead {e : Expr} : PE X e fDead := ⟨fun _ _ _ _ _ _ h => h.elim⟩
theorem ps_dead {st : Stmt} : PS X st sDead := ⟨fun _ _ _ _ _ _ h => h.elim⟩
/-! ### f-strings -/
def fFmt (te : TE) : TE := fun σ H Q => te σ H fun x H1 => match x with
  | .str y => y.length ≤ sizeLine ∧ Q (.str y) H1
  | .int i => i.natAbs.log2 < 1920 ∧ Q (.str (toString i)) H1
  | _ => False
theorem fe_fmt {e : Expr} {te : TE} {pos : Pos} (he : PE X e te) : PE X (.FormattedValue e (-1) none pos) (fFmt te) := pe_wk (pe_fmt (pe_clos he)) fun σ H Q q => ⟨_, q, fun x H1 q => by
  split at q
  · exact .inl ⟨_, rfl, q⟩
  · exact .inr ⟨_, rfl, q⟩
  · exact q.elim⟩
inductive PF (X : Cx) : List Expr → List TE → Prop where
  | nil : PF X [] []
  | cons {e : Expr} {t : TE} {es : List Expr} {ts : List TE} (h : PE X e t) (r : PF X es ts) : PF X (e :: es) (t :: ts)
theorem PF_nil : PF X [] [] := .nil
theorem pf_cons {e : Expr} {t : TE} {es : List Expr} {ts : List TE} (h : PE X e t) (r : PF X es ts) : PF X (e :: es) (t :: ts) := .cons h r
def fJs : List TE → Str → L2.St → Hp → (Str → Hp → Prop) → Prop
  | [], acc, _, H, Q => Q acc H
  | t :: ts, acc, σ, H, Q => t σ H fun x H1 => match x with
    | .str y => (acc ++ y).length ≤ sizeLine ∧ fJs ts (acc ++ y) σ H1 Q
    | _ => False
theorem pf_pj {es : List Expr} {ts : List TE} (h : PF X es ts) : PJ X es (ts.map clos) := by
  induction h with
  | nil => exact .nil
  | cons h r ih => exact .cons (pe_clos h) ih
theorem fJs_to : ∀ {ts : List TE} {acc : Str} {σ : L2.St} {H : Hp} {Q : Str → Hp → Prop}, fJs ts acc σ H Q → tJs (ts.map clos) acc σ H Q
  | [], _, _, _, _, h => h
  | t :: ts, acc, σ, H, Q, h => ⟨_, h, fun x H1 q => by
    split at q
    · exact ⟨_, rfl, q.1, fJs_to q.2⟩
    · exact q.elim⟩
def fJoined (ts : List TE) : TE := fun σ H Q => fJs ts Str.empty σ H fun out H1 => Q (.str out) H1
theorem fe_joined {v1 v2 : Expr} {rest : List Expr} {ts : List TE} {pos : Pos} (h : PF X (v1 :: v2 :: rest) ts) : PE X (.JoinedStr (v1 :: v2 :: rest) pos) (fJoined ts) := by
  have h2 := pf_pj h
  exact pe_wk (pe_joined h2) fun σ H Q q => fJs_to q
/-- // by any divisor but 0 -/
def fDivZ : R2 := fun x y H Q => match x, y with
  | .int i, .int j => (j ≠ 0 ∧ j.natAbs.log2 < 9000) ∧ Q (.int (Int.fdiv i j)) H
  | _, _ => False
theorem op_fDivZ : OpR X (binaryOp .FloorDiv) fDivZ := by
  intro pins s σ H x y v u Q I rx ry h
  match x, y, rx, ry, h with
  | .int i, .int j, ⟨t, e⟩, ⟨t', e'⟩, ⟨hc, q⟩ =>
    subst e e'
    exact floordiv_int hc.1 ⟨.int _, H, I.tok _, ⟨_, rfl⟩, q⟩ (.inl (PyProof.noPylong_of_log2 hc.2))
end
/-! ### dicts of the module, text keys -/
def EntOk (K : PySem.W.Frag) (d : Addr) : Str × Option V → Prop
  | (z, none) => PySem.W.nsIn K d z = some none
  | (z, some v) => ∃ u, PySem.W.nsIn K d z = some (some u) ∧ RelV v u
theorem ent_none {K : PySem.W.Frag} {d : Addr} {z : Str} (h : PySem.W.nsIn K d z = some none) : EntOk K d (z, none) := h
theorem ent_str {K : PySem.W.Frag} {d : Addr} {z x : Str} {t : Tok} (h : PySem.W.nsIn K d z = some (some (.str x t))) : EntOk K d (z, some (.str x)) := ⟨_, h, _, rfl⟩
theorem ent_int {K : PySem.W.Frag} {d : Addr} {z : Str} {x : Int} {t : Tok} (h : PySem.W.nsIn K d z = some (some (.int x t))) : EntOk K d (z, some (.int x)) := ⟨_, h, _, rfl⟩
structure DAt (K : PySem.W.Frag) (w : World) (d : Addr) (ks : List (Str × Option V)) : Prop where
  ex : ∃ es n, KDict K w d es n
  en : ∀ p ∈ ks, EntOk K d p
def GDict (K : PySem.W.Frag) (w : World) (mg : Str → Option Value) (x : Str) (ks : List (Str × Option V)) : Prop := ∃ d, mg x = some (.ref d) ∧ DAt K w d ks
structure GDictF (K : PySem.W.Frag) (w : World) (x : Str) (ks : List (Str × Option V)) : Prop where
  ex : ∃ d, PySem.W.nsIn K mainGlobals x = some (some (.ref d)) ∧ DAt K w d ks
theorem GDictF.of {K : PySem.W.Frag} {w : World} {x : Str} {ks : List (Str × Option V)} {d : Addr} {es : Array DictEntry} {n : Nat} (h1 : PySem.W.nsIn K mainGlobals x = some (some (.ref d))) (h2 : K.lookup d = some ⟨.type "dict", none, .dict es n, #[]⟩)
    (h3 : PySem.W.KeysLit w.params es.toList) (h4 : (d == sysModules) = false) (h5 : ∀ p ∈ ks, EntOk K d p) : GDictF K w x ks := ⟨d, h1, ⟨es, n, h2, h3, h4⟩, h5⟩
theorem GDictF.get {K : PySem.W.Frag} {w : World} {mg : Str → Option Value} {x : Str} {ks : List (Str × Option V)} {h : Heap} (X : K.In h) (G : h.Ns mainGlobals mg) (F : GDictF K w x ks) : GDict K w mg x ks := by
  obtain ⟨d, h1, h2⟩ := F.ex
  exact ⟨d, PySem.W.mg_of X G h1, h2⟩
theorem ent_at {K : PySem.W.Frag} {w : World} {d : Addr} {z : Str} {o : Option V} : ∀ {ks : List (Str × Option V)}, (∀ p ∈ ks, EntOk K d p) → ks.lookup z = some o → EntOk K d (z, o)
  | [], _, h => by cases h
  | (y, p) :: ks, hk, h => by
    rw [List.lookup_cons] at h
    split at h
    · rename_i e
      cases h
      have e' := eq_of_beq e
      subst e'
      exact hk _ (List.mem_cons_self ..)
    · exact ent_at (w := w) (fun q hq => hk q (List.mem_cons_of_mem _ hq)) h
def fGd_ (K : PySem.W.Frag) (w : World) (ks : List (Str × Option V)) : TE := fun _ H Q => ∀ d, DAt K w d ks → Q (.ref d) H
section
variable {X : Cx}
theorem fe_gdict {x : Str} {pos : Pos} {ks : List (Str × Option V)} (hg : Gl X x) (h : GDict X.K X.w X.mg x ks) (hd : (x == ("__debug__" : Str)) = false := by decide) : PE X (.Name x pos) (fGd_ X.K X.w ks) := by
  obtain ⟨d, h, hs⟩ := h
  exact pe_wk (pe_glob hg h (v := .ref d) rfl hd) fun σ H Q q => q d hs
/-- z in D, D a dict of the module -/
def fInD (K : PySem.W.Frag) (w : World) (neg : Bool) : R2 := fun x y H Q => match x, y with
  | .str z, .ref d => ∃ ks o, DAt K w d ks ∧ ks.lookup z = some o ∧ Q (.bl (if neg = true then !o.isSome else o.isSome)) H
  | _, _ => False
theorem op_fInD : OpR X (compareOp .In) (fInD X.K X.w false) := by
  intro pins s σ H x y v u Q I rx ry h
  match x, y, rx, ry, h with
  | .str z, .ref d, rx, ry, ⟨ks, o, D, e, q⟩ =>
    obtain ⟨es, n, kd⟩ := D.ex
    have en := ent_at (w := X.w) D.en e
    cases o with
    | none => exact op_in_kd kd pins s σ H _ _ v u Q I rx ry ⟨z, none, rfl, rfl, en, q⟩
    | some v =>
      obtain ⟨u0, e0, _⟩ := en
      exact op_in_kd kd pins s σ H _ _ _ u Q I rx ry ⟨z, some u0, rfl, rfl, e0, q⟩
theorem op_fNotInD : OpR X (compareOp .NotIn) (fInD X.K X.w true) := by
  intro pins s σ H x y v u Q I rx ry h
  match x, y, rx, ry, h with
  | .str z, .ref d, rx, ry, ⟨ks, o, D, e, q⟩ =>
    obtain ⟨es, n, kd⟩ := D.ex
    have en := ent_at (w := X.w) D.en e
    cases o with
    | none => exact op_notIn_kd kd pins s σ H _ _ v u Q I rx ry ⟨z, none, rfl, rfl, en, q⟩
    | some v =>
      obtain ⟨u0, e0, _⟩ := en
      exact op_notIn_kd kd pins s σ H _ _ _ u Q I rx ry ⟨z, some u0, rfl, rfl, e0, q⟩
/-- D[z], D a dict of the module -/
def fIxD (K : PySem.W.Frag) (w : World) : R2 := fun x y H Q => match x, y with
  | .ref d, .str z => ∃ ks v, DAt K w d ks ∧ ks.lookup z = some (some v) ∧ Q v H
  | _, _ => False
theorem ix_fxD : IxR X (fIxD X.K X.w) := by
  intro e1 e2 pins s σ H x y v u Q I rx ry h hs
  match x, y, rx, ry, h with
  | .ref d, .str z, rx, ry, ⟨ks, r, D, e, q⟩ =>
    obtain ⟨es, n, kd⟩ := D.ex
    obtain ⟨u0, e0, r0⟩ := ent_at (w := X.w) D.en e
    exact ix_kdict e1 e2 pins s σ H (.ref d) (.str z) v u Q I rx ry ⟨d, z, r, rfl, rfl, ⟨es, n, u0, kd.at_, kd.lit, e0, r0⟩, q⟩ hs
end
end Fx

set_option Elab.async false
set_option linter.all false
set_option maxRecDepth 100000
set_option maxHeartbeats 1000000
namespace My
open PySem L2 Fx
local macro_rules | `(tactic| walk_at "fx") => `(tactic| try simp only [L2.start, List.map_cons, List.map_nil, List.length_cons, List.length_nil, Nat.reduceAdd, Nat.reduceSub, List.reduceReplicate, List.cons_append, List.nil_append, List.append_nil,
  tSeq, fVar, tVar, tC, tOp, tUn, tCons, tNil, fTup, fLst, tAsg, gName, tRet, tRetN, tDrop, tNext, tIf, tAnd, tOr, tNot, tTest, tB, tAug, tChain, tNotV, tAndV, tOrV, tSl, tPart, tNoPart, tCB, tCall, fBM, fBM0, tBreak, tCont, gTup, gCons, gNil,
  fAdd, fSub, fMul, fDiv, fMod, fNeg, fLt, fLe, fGt, fGe, fIx, fSl, fLen, fInt, fStr, fAbs, fMax, fMin, fOrd, fIsN, fNotN, fIsi, fListOf, isLst, isStr, isDct, fAppend, fS1, fJoin, fLstripC, fIAdd, fISub, fSet, tyOf, fEq, scal, fIn, iRng1, iRng2, iList, iTup, iStr, gSub, fGt_,
  List.getElem?_cons_zero, List.getElem?_cons_succ, List.set_cons_zero, List.set_cons_succ, upd_same, S_cps, S_len, L_S, one_list, flatV,
  V.int.injEq, V.str.injEq, V.bl.injEq, V.ref.injEq, Option.some.injEq, List.cons.injEq, exists_eq_left', exists_eq_left, exists_and_left, ex2, and_true, true_and, decide_eq_true_eq, Bool.not_eq_true', decide_eq_false_iff_not, Bool.false_eq_true, Bool.true_eq_false, Int.zero_add, Int.toNat_natCast, if_true, if_false, ite_true, ite_false, reduceIte, Int.reduceLT, Int.reduceLE, Int.reduceNeg, Int.reduceAdd, Nat.reduceLT, Nat.reduceLeDiff, Bool.not_true, Bool.not_false, kitBv, kitBs, not_true_eq_false, not_false_eq_true, Bool.or_false, Bool.false_or, Bool.or_true, Bool.true_or])
local macro_rules | `(tactic| walk_at "fx0") => `(tactic| try dsimp only [cxOf, Cx.nox, Cx.wish])
local macro_rules | `(tactic| walk_at "mul") => `(tactic| first | exact mul_left (by decide) (by decide) | exact mul_right (by decide) (by decide) | exact mul_left (by omega) (by omega) | exact mul_right (by omega) (by omega))
local macro_rules | `(tactic| walk_at "rm") => `(tactic| first | decide | exact Nat.le_refl _ | omega)
set_option hygiene false in
local macro_rules | `(tactic| walk_at "ox") => `(tactic| try simp only [upd2, wipe, tYes, fIsB, beq_self_eq_true, List.not_mem_nil, or_false, false_or, fDnew, T.ne, fFld, fSetF, fMeth, isOb, fIsiO, fIsiP, fIsiA, tyV2, okT, kit2, kits2, allIn, putF, List.lookup_cons, List.lookup_nil, keyEq, List.mem_cons, true_or, or_true, L2.start, List.map_cons, List.map_nil, List.length_cons, List.length_nil, Nat.reduceAdd, Nat.reduceSub, List.reduceReplicate, List.cons_append, List.nil_append, List.append_nil,
  tSeq, fVar, tVar, tC, tOp, tUn, tCons, tNil, fTup, fLst, tAsg, gName, tRet, tRetN, tDrop, tNext, tIf, tAnd, tOr, tNot, tTest, tB, tAug, tChain, tNotV, tAndV, tOrV, tSl, tPart, tNoPart, tCB, tCall, fBM, fBM0, tBreak, tCont, gTup, gCons, gNil,
  fAdd, fSub, fMul, fDiv, fMod, fNeg, fLt, fLe, fGt, fGe, fIx, fSl, fLen, fInt, fStr, fAbs, fMax, fMin, fOrd, fIsN, fNotN, fIsi, fListOf, isLst, isStr, isDct, fAppend, fS1, fJoin, fLstripC, fIAdd, fISub, fSet, tyOf, fEq, scal, fIn, iRng1, iRng2, iList, iTup, iStr, gSub, fGt_,
  List.getElem?_cons_zero, List.getElem?_cons_succ, List.set_cons_zero, List.set_cons_succ, upd_same, S_cps, S_len, L_S, one_list, flatV,
  V.int.injEq, V.str.injEq, V.bl.injEq, V.ref.injEq, Option.some.injEq, List.cons.injEq, exists_eq_left', exists_eq_left, exists_and_left, ex2, and_true, true_and, decide_eq_true_eq, Bool.not_eq_true', decide_eq_false_iff_not, Bool.false_eq_true, Bool.true_eq_false, Int.zero_add, Int.toNat_natCast, if_true, if_false, ite_true, ite_false, reduceIte, Int.reduceLT, Int.reduceLE, Int.reduceNeg, Int.reduceAdd, Nat.reduceLT, Nat.reduceLeDiff, Bool.not_true, Bool.not_false, kitBv, kitBs, not_true_eq_false, not_false_eq_true, Bool.or_false, Bool.false_or, Bool.or_true, Bool.true_or])
set_option hygiene false in
local macro_rules | `(tactic| walk_at "oxs") => `(tactic| simp only [tIfS, reduceCtorEq, upd2, wipe, tYes, fIsB, beq_self_eq_true, List.not_mem_nil, or_false, false_or, fDnew, T.ne, fFld, fSetF, fMeth, isOb, fIsiO, fIsiP, fIsiA, tyV2, okT, kit2, kits2, allIn, putF, List.lookup_cons, List.lookup_nil, keyEq, List.mem_cons, true_or, or_true, L2.start, List.map_cons, List.map_nil, List.length_cons, List.length_nil, Nat.reduceAdd, Nat.reduceSub, List.reduceReplicate, List.cons_append, List.nil_append, List.append_nil,
  tSeq, fVar, tVar, tC, tOp, tUn, tCons, tNil, fTup, fLst, tAsg, gName, tRet, tRetN, tDrop, tNext, tIf, tAnd, tOr, tNot, tTest, tB, tAug, tChain, tNotV, tAndV, tOrV, tSl, tPart, tNoPart, tCB, tCall, fBM, fBM0, tBreak, tCont, gTup, gCons, gNil,
  fAdd, fSub, fMul, fDiv, fMod, fNeg, fLt, fLe, fGt, fGe, fIx, fSl, fLen, fInt, fStr, fAbs, fMax, fMin, fOrd, fIsN, fNotN, fIsi, fListOf, isLst, isStr, isDct, fAppend, fS1, fJoin, fLstripC, fIAdd, fISub, fSet, tyOf, fEq, scal, fIn, iRng1, iRng2, iList, iTup, iStr, gSub, fGt_,
  List.getElem?_cons_zero, List.getElem?_cons_succ, List.set_cons_zero, List.set_cons_succ, upd_same, S_cps, S_len, L_S, one_list, flatV,
  V.int.injEq, V.str.injEq, V.bl.injEq, V.ref.injEq, Option.some.injEq, List.cons.injEq, exists_eq_left', exists_eq_left, exists_and_left, ex2, and_true, true_and, decide_eq_true_eq, Bool.not_eq_true', decide_eq_false_iff_not, Bool.false_eq_true, Bool.true_eq_false, Int.zero_add, Int.toNat_natCast, if_true, if_false, ite_true, ite_false, reduceIte, Int.reduceLT, Int.reduceLE, Int.reduceNeg, Int.reduceAdd, Nat.reduceLT, Nat.reduceLeDiff, Bool.not_true, Bool.not_false, kitBv, kitBs, not_true_eq_false, not_false_eq_true, Bool.or_false, Bool.false_or, Bool.or_true, Bool.true_or])

def topS (i : Nat) : Stmt := PySem.Challenge.pw_livequill_k19_equality_and_truth.main.body.getD i (.Pass ⟨0, 0, 0, 0⟩)
abbrev s_Ref___init__ : Stmt := inClass (topS 3) 0
theorem sc_Ref___init__ : FnScope ["self", "number"] ["self", "number"] (defScope s_Ref___init__) := ⟨rfl, rfl, rfl, by decide +kernel, rfl, by decide +kernel, by decide +kernel⟩
abbrev s_Ref___eq__ : Stmt := inClass (topS 3) 1
theorem sc_Ref___eq__ : FnScope ["self", "other"] ["self", "other"] (defScope s_Ref___eq__) := ⟨rfl, rfl, rfl, by decide +kernel, rfl, by decide +kernel, by decide +kernel⟩
abbrev s_Builtin___init__ : Stmt := inClass (topS 4) 0
theorem sc_Builtin___init__ : FnScope ["self", "name"] ["self", "name"] (defScope s_Builtin___init__) := ⟨rfl, rfl, rfl, by decide +kernel, rfl, by decide +kernel, by decide +kernel⟩
abbrev s_Builtin___eq__ : Stmt := inClass (topS 4) 1
theorem sc_Builtin___eq__ : FnScope ["self", "other"] ["self", "other"] (defScope s_Builtin___eq__) := ⟨rfl, rfl, rfl, by decide +kernel, rfl, by decide +kernel, by decide +kernel⟩
abbrev s_Parts___init__ : Stmt := inClass (topS 6) 0
theorem sc_Parts___init__ : FnScope ["self", "held"] ["self", "held"] (defScope s_Parts___init__) := ⟨rfl, rfl, rfl, by decide +kernel, rfl, by decide +kernel, by decide +kernel⟩
abbrev s_Parts_fork : Stmt := inClass (topS 6) 1
theorem sc_Parts_fork : FnScope ["self"] ["self"] (defScope s_Parts_fork) := ⟨rfl, rfl, rfl, by decide +kernel, rfl, by decide +kernel, by decide +kernel⟩
abbrev s_Table___init__ : Stmt := inClass (topS 7) 0
theorem sc_Table___init__ : FnScope ["self"] ["self"] (defScope s_Table___init__) := ⟨rfl, rfl, rfl, by decide +kernel, rfl, by decide +kernel, by decide +kernel⟩
abbrev s_Table_many : Stmt := inClass (topS 7) 1
theorem sc_Table_many : FnScope ["self"] ["self"] (defScope s_Table_many) := ⟨rfl, rfl, rfl, by decide +kernel, rfl, by decide +kernel, by decide +kernel⟩
abbrev s_Table_has : Stmt := inClass (topS 7) 2
theorem sc_Table_has : FnScope ["self", "key"] ["self", "key"] (defScope s_Table_has) := ⟨rfl, rfl, rfl, by decide +kernel, rfl, by decide +kernel, by decide +kernel⟩
abbrev s_Table_value_of : Stmt := inClass (topS 7) 3
theorem sc_Table_value_of : FnScope ["self", "key"] ["self", "key"] (defScope s_Table_value_of) := ⟨rfl, rfl, rfl, by decide +kernel, rfl, by decide +kernel, by decide +kernel⟩
abbrev s_Table_put : Stmt := inClass (topS 7) 4
theorem sc_Table_put : FnScope ["self", "key", "value"] ["self", "key", "value"] (defScope s_Table_put) := ⟨rfl, rfl, rfl, by decide +kernel, rfl, by decide +kernel, by decide +kernel⟩
abbrev s_Table_take_out : Stmt := inClass (topS 7) 5
theorem sc_Table_take_out : FnScope ["self", "key"] ["self", "key"] (defScope s_Table_take_out) := ⟨rfl, rfl, rfl, by decide +kernel, rfl, by decide +kernel, by decide +kernel⟩
abbrev s_Table_pairs : Stmt := inClass (topS 7) 6
theorem sc_Table_pairs : FnScope ["self"] ["self"] (defScope s_Table_pairs) := ⟨rfl, rfl, rfl, by decide +kernel, rfl, by decide +kernel, by decide +kernel⟩
abbrev s_Table_fork : Stmt := inClass (topS 7) 7
theorem sc_Table_fork : FnScope ["self"] ["self"] (defScope s_Table_fork) := ⟨rfl, rfl, rfl, by decide +kernel, rfl, by decide +kernel, by decide +kernel⟩
abbrev s_Instance___init__ : Stmt := inClass (topS 8) 0
theorem sc_Instance___init__ : FnScope ["self", "owner"] ["self", "owner"] (defScope s_Instance___init__) := ⟨rfl, rfl, rfl, by decide +kernel, rfl, by decide +kernel, by decide +kernel⟩
abbrev s_Instance_fork : Stmt := inClass (topS 8) 1
theorem sc_Instance_fork : FnScope ["self"] ["self"] (defScope s_Instance_fork) := ⟨rfl, rfl, rfl, by decide +kernel, rfl, by decide +kernel, by decide +kernel⟩
abbrev s_Kin___init__ : Stmt := inClass (topS 9) 0
theorem sc_Kin___init__ : FnScope ["self", "name", "parent"] ["self", "name", "parent"] (defScope s_Kin___init__) := ⟨rfl, rfl, rfl, by decide +kernel, rfl, by decide +kernel, by decide +kernel⟩
abbrev s_Kin_fork : Stmt := inClass (topS 9) 1
theorem sc_Kin_fork : FnScope ["self"] ["self"] (defScope s_Kin_fork) := ⟨rfl, rfl, rfl, by decide +kernel, rfl, by decide +kernel, by decide +kernel⟩
abbrev s_Closure___init__ : Stmt := inClass (topS 10) 0
theorem sc_Closure___init__ : FnScope ["self", "number", "wanted", "scope"] ["self", "number", "wanted", "scope"] (defScope s_Closure___init__) := ⟨rfl, rfl, rfl, by decide +kernel, rfl, by decide +kernel, by decide +kernel⟩
abbrev s_Closure_fork : Stmt := inClass (topS 10) 1
theorem sc_Closure_fork : FnScope ["self"] ["self"] (defScope s_Closure_fork) := ⟨rfl, rfl, rfl, by decide +kernel, rfl, by decide +kernel, by decide +kernel⟩
abbrev s_Bound___init__ : Stmt := inClass (topS 11) 0
theorem sc_Bound___init__ : FnScope ["self", "owner", "function"] ["self", "owner", "function"] (defScope s_Bound___init__) := ⟨rfl, rfl, rfl, by decide +kernel, rfl, by decide +kernel, by decide +kernel⟩
abbrev s_Bound_fork : Stmt := inClass (topS 11) 1
theorem sc_Bound_fork : FnScope ["self"] ["self"] (defScope s_Bound_fork) := ⟨rfl, rfl, rfl, by decide +kernel, rfl, by decide +kernel, by decide +kernel⟩
abbrev s_Variable___init__ : Stmt := inClass (topS 12) 0
theorem sc_Variable___init__ : FnScope ["self", "value"] ["self", "value"] (defScope s_Variable___init__) := ⟨rfl, rfl, rfl, by decide +kernel, rfl, by decide +kernel, by decide +kernel⟩
abbrev s_Variable_fork : Stmt := inClass (topS 12) 1
theorem sc_Variable_fork : FnScope ["self"] ["self"] (defScope s_Variable_fork) := ⟨rfl, rfl, rfl, by decide +kernel, rfl, by decide +kernel, by decide +kernel⟩
abbrev s_Cursor___init__ : Stmt := inClass (topS 13) 0
theorem sc_Cursor___init__ : FnScope ["self", "rest"] ["self", "rest"] (defScope s_Cursor___init__) := ⟨rfl, rfl, rfl, by decide +kernel, rfl, by decide +kernel, by decide +kernel⟩
abbrev s_Cursor_fork : Stmt := inClass (topS 13) 1
theorem sc_Cursor_fork : FnScope ["self"] ["self"] (defScope s_Cursor_fork) := ⟨rfl, rfl, rfl, by decide +kernel, rfl, by decide +kernel, by decide +kernel⟩
abbrev s_thing_of : Stmt := topS 15
theorem sc_thing_of : FnScope ["store", "value"] ["store", "value"] (defScope s_thing_of) := ⟨rfl, rfl, rfl, by decide +kernel, rfl, by decide +kernel, by decide +kernel⟩
abbrev s_kind_of : Stmt := topS 16
theorem sc_kind_of : FnScope ["store", "value", "thing"] ["store", "value"] (defScope s_kind_of) := ⟨rfl, rfl, rfl, by decide +kernel, rfl, by decide +kernel, by decide +kernel⟩
abbrev s_is_true : Stmt := topS 17
theorem sc_is_true : FnScope ["value"] ["value"] (defScope s_is_true) := ⟨rfl, rfl, rfl, by decide +kernel, rfl, by decide +kernel, by decide +kernel⟩
abbrev s_equal : Stmt := topS 18
theorem sc_equal : FnScope ["x", "y"] ["x", "y"] (defScope s_equal) := ⟨rfl, rfl, rfl, by decide +kernel, rfl, by decide +kernel, by decide +kernel⟩
abbrev s_is_key : Stmt := topS 19
theorem sc_is_key : FnScope ["value"] ["value"] (defScope s_is_key) := ⟨rfl, rfl, rfl, by decide +kernel, rfl, by decide +kernel, by decide +kernel⟩
abbrev s_Store___init__ : Stmt := inClass (topS 22) 0
theorem sc_Store___init__ : FnScope ["self", "lines"] ["self", "lines"] (defScope s_Store___init__) := ⟨rfl, rfl, rfl, by decide +kernel, rfl, by decide +kernel, by decide +kernel⟩
abbrev s_Store_make : Stmt := inClass (topS 22) 1
theorem sc_Store_make : FnScope ["self", "thing"] ["self", "thing"] (defScope s_Store_make) := ⟨rfl, rfl, rfl, by decide +kernel, rfl, by decide +kernel, by decide +kernel⟩
abbrev s_Store_at : Stmt := inClass (topS 22) 2
theorem sc_Store_at : FnScope ["self", "ref"] ["self", "ref"] (defScope s_Store_at) := ⟨rfl, rfl, rfl, by decide +kernel, rfl, by decide +kernel, by decide +kernel⟩
abbrev s_Store_fork : Stmt := inClass (topS 22) 3
theorem sc_Store_fork : FnScope ["self"] ["self"] (defScope s_Store_fork) := ⟨rfl, rfl, rfl, by decide +kernel, rfl, by decide +kernel, by decide +kernel⟩
abbrev s_law_cell : Stmt := topS 24
theorem sc_law_cell : FnScope ["script", "k"] ["script", "k"] (defScope s_law_cell) := ⟨rfl, rfl, rfl, by decide +kernel, rfl, by decide +kernel, by decide +kernel⟩
abbrev s_law_begin : Stmt := topS 25
theorem sc_law_begin : FnScope ["script", "k"] ["script", "k"] (defScope s_law_begin) := ⟨rfl, rfl, rfl, by decide +kernel, rfl, by decide +kernel, by decide +kernel⟩
abbrev s_law_draw : Stmt := topS 26
theorem sc_law_draw : FnScope ["state", "many", "k", "cell", "prime", "mixed", "digit"] ["state", "many"] (defScope s_law_draw) := ⟨rfl, rfl, rfl, by decide +kernel, rfl, by decide +kernel, by decide +kernel⟩
abbrev s_law_pick : Stmt := topS 27
theorem sc_law_pick : FnScope ["state", "row"] ["state", "row"] (defScope s_law_pick) := ⟨rfl, rfl, rfl, by decide +kernel, rfl, by decide +kernel, by decide +kernel⟩
abbrev s_law_store : Stmt := topS 28
theorem sc_law_store : FnScope ["store"] [] (defScope s_law_store) := ⟨rfl, rfl, rfl, by decide +kernel, rfl, by decide +kernel, by decide +kernel⟩
abbrev s_law_value : Stmt := topS 29
theorem sc_law_value : FnScope ["state", "kind", "flag", "number", "text", "name"] ["state"] (defScope s_law_value) := ⟨rfl, rfl, rfl, by decide +kernel, rfl, by decide +kernel, by decide +kernel⟩
abbrev s_law_kind : Stmt := topS 30
theorem sc_law_kind : FnScope ["row"] ["row"] (defScope s_law_kind) := ⟨rfl, rfl, rfl, by decide +kernel, rfl, by decide +kernel, by decide +kernel⟩
abbrev s_law_two : Stmt := topS 31
theorem sc_law_two : FnScope ["one", "two", "told", "back", "due"] ["one", "two"] (defScope s_law_two) := ⟨rfl, rfl, rfl, by decide +kernel, rfl, by decide +kernel, by decide +kernel⟩
abbrev s_law : Stmt := topS 32
theorem sc_law : FnScope ["script", "state", "store", "rows", "one", "two", "told", "due", "k"] ["script"] (defScope s_law) := ⟨rfl, rfl, rfl, by decide +kernel, rfl, by decide +kernel, by decide +kernel⟩
structure Cs where
  Ref : Addr
  Builtin : Addr
  Parts : Addr
  Table : Addr
  Instance : Addr
  Kin : Addr
  Closure : Addr
  Bound : Addr
  Variable : Addr
  Cursor : Addr
  Store : Addr
theorem keyEq : (("__eq__" : Str) == "name") = false ∧ ¬ (("__eq__" : Str) = "name") ∧ (("__eq__" : Str) == "number") = false ∧ ¬ (("__eq__" : Str) = "number") ∧ (("__init__" : Str) == "_rows") = false ∧ ¬ (("__init__" : Str) = "_rows") ∧ (("__init__" : Str) == "function") = false ∧ ¬ (("__init__" : Str) = "function") ∧ (("__init__" : Str) == "held") = false ∧ ¬ (("__init__" : Str) = "held") ∧ (("__init__" : Str) == "lines") = false ∧ ¬ (("__init__" : Str) = "lines") ∧ (("__init__" : Str) == "methods") = false ∧ ¬ (("__init__" : Str) = "methods") ∧ (("__init__" : Str) == "name") = false ∧ ¬ (("__init__" : Str) = "name") ∧ (("__init__" : Str) == "named") = false ∧ ¬ (("__init__" : Str) = "named") ∧ (("__init__" : Str) == "number") = false ∧ ¬ (("__init__" : Str) = "number") ∧ (("__init__" : Str) == "output") = false ∧ ¬ (("__init__" : Str) = "output") ∧ (("__init__" : Str) == "owner") = false ∧ ¬ (("__init__" : Str) = "owner") ∧ (("__init__" : Str) == "parent") = false ∧ ¬ (("__init__" : Str) = "parent") ∧ (("__init__" : Str) == "rest") = false ∧ ¬ (("__init__" : Str) = "rest") ∧ (("__init__" : Str) == "scope") = false ∧ ¬ (("__init__" : Str) = "scope") ∧ (("__init__" : Str) == "taken") = false ∧ ¬ (("__init__" : Str) = "taken") ∧ (("__init__" : Str) == "things") = false ∧ ¬ (("__init__" : Str) = "things") ∧ (("__init__" : Str) == "value") = false ∧ ¬ (("__init__" : Str) = "value") ∧ (("__init__" : Str) == "wanted") = false ∧ ¬ (("__init__" : Str) = "wanted") ∧ (("at" : Str) == "lines") = false ∧ ¬ (("at" : Str) = "lines") ∧ (("at" : Str) == "output") = false ∧ ¬ (("at" : Str) = "output") ∧ (("at" : Str) == "taken") = false ∧ ¬ (("at" : Str) = "taken") ∧ (("at" : Str) == "things") = false ∧ ¬ (("at" : Str) = "things") ∧ (("fork" : Str) == "_rows") = false ∧ ¬ (("fork" : Str) = "_rows") ∧ (("fork" : Str) == "function") = false ∧ ¬ (("fork" : Str) = "function") ∧ (("fork" : Str) == "held") = false ∧ ¬ (("fork" : Str) = "held") ∧ (("fork" : Str) == "lines") = false ∧ ¬ (("fork" : Str) = "lines") ∧ (("fork" : Str) == "methods") = false ∧ ¬ (("fork" : Str) = "methods") ∧ (("fork" : Str) == "name") = false ∧ ¬ (("fork" : Str) = "name") ∧ (("fork" : Str) == "named") = false ∧ ¬ (("fork" : Str) = "named") ∧ (("fork" : Str) == "number") = false ∧ ¬ (("fork" : Str) = "number") ∧ (("fork" : Str) == "output") = false ∧ ¬ (("fork" : Str) = "output") ∧ (("fork" : Str) == "owner") = false ∧ ¬ (("fork" : Str) = "owner") ∧ (("fork" : Str) == "parent") = false ∧ ¬ (("fork" : Str) = "parent") ∧ (("fork" : Str) == "rest") = false ∧ ¬ (("fork" : Str) = "rest") ∧ (("fork" : Str) == "scope") = false ∧ ¬ (("fork" : Str) = "scope") ∧ (("fork" : Str) == "taken") = false ∧ ¬ (("fork" : Str) = "taken") ∧ (("fork" : Str) == "things") = false ∧ ¬ (("fork" : Str) = "things") ∧ (("fork" : Str) == "value") = false ∧ ¬ (("fork" : Str) = "value") ∧ (("fork" : Str) == "wanted") = false ∧ ¬ (("fork" : Str) = "wanted") ∧ (("function" : Str) == "owner") = false ∧ ¬ (("function" : Str) = "owner") ∧ (("has" : Str) == "_rows") = false ∧ ¬ (("has" : Str) = "_rows") ∧ (("lines" : Str) == "output") = false ∧ ¬ (("lines" : Str) = "output") ∧ (("lines" : Str) == "taken") = false ∧ ¬ (("lines" : Str) = "taken") ∧ (("lines" : Str) == "things") = false ∧ ¬ (("lines" : Str) = "things") ∧ (("make" : Str) == "lines") = false ∧ ¬ (("make" : Str) = "lines") ∧ (("make" : Str) == "output") = false ∧ ¬ (("make" : Str) = "output") ∧ (("make" : Str) == "taken") = false ∧ ¬ (("make" : Str) = "taken") ∧ (("make" : Str) == "things") = false ∧ ¬ (("make" : Str) = "things") ∧ (("many" : Str) == "_rows") = false ∧ ¬ (("many" : Str) = "_rows") ∧ (("methods" : Str) == "name") = false ∧ ¬ (("methods" : Str) = "name") ∧ (("methods" : Str) == "parent") = false ∧ ¬ (("methods" : Str) = "parent") ∧ (("name" : Str) == "methods") = false ∧ ¬ (("name" : Str) = "methods") ∧ (("name" : Str) == "parent") = false ∧ ¬ (("name" : Str) = "parent") ∧ (("named" : Str) == "owner") = false ∧ ¬ (("named" : Str) = "owner") ∧ (("number" : Str) == "scope") = false ∧ ¬ (("number" : Str) = "scope") ∧ (("number" : Str) == "wanted") = false ∧ ¬ (("number" : Str) = "wanted") ∧ (("output" : Str) == "lines") = false ∧ ¬ (("output" : Str) = "lines") ∧ (("output" : Str) == "taken") = false ∧ ¬ (("output" : Str) = "taken") ∧ (("output" : Str) == "things") = false ∧ ¬ (("output" : Str) = "things") ∧ (("owner" : Str) == "function") = false ∧ ¬ (("owner" : Str) = "function") ∧ (("owner" : Str) == "named") = false ∧ ¬ (("owner" : Str) = "named") ∧ (("pairs" : Str) == "_rows") = false ∧ ¬ (("pairs" : Str) = "_rows") ∧ (("parent" : Str) == "methods") = false ∧ ¬ (("parent" : Str) = "methods") ∧ (("parent" : Str) == "name") = false ∧ ¬ (("parent" : Str) = "name") ∧ (("put" : Str) == "_rows") = false ∧ ¬ (("put" : Str) = "_rows") ∧ (("scope" : Str) == "number") = false ∧ ¬ (("scope" : Str) = "number") ∧ (("scope" : Str) == "wanted") = false ∧ ¬ (("scope" : Str) = "wanted") ∧ (("take_out" : Str) == "_rows") = false ∧ ¬ (("take_out" : Str) = "_rows") ∧ (("taken" : Str) == "lines") = false ∧ ¬ (("taken" : Str) = "lines") ∧ (("taken" : Str) == "output") = false ∧ ¬ (("taken" : Str) = "output") ∧ (("taken" : Str) == "things") = false ∧ ¬ (("taken" : Str) = "things") ∧ (("things" : Str) == "lines") = false ∧ ¬ (("things" : Str) = "lines") ∧ (("things" : Str) == "output") = false ∧ ¬ (("things" : Str) = "output") ∧ (("things" : Str) == "taken") = false ∧ ¬ (("things" : Str) = "taken") ∧ (("value_of" : Str) == "_rows") = false ∧ ¬ (("value_of" : Str) = "_rows") ∧ (("wanted" : Str) == "number") = false ∧ ¬ (("wanted" : Str) = "number") ∧ (("wanted" : Str) == "scope") = false ∧ ¬ (("wanted" : Str) = "scope") := by (repeat' apply And.intro) <;> decide +kernel
--!none range len int isinstance bool list tuple str abs min max
structure Txt (K : PySem.W.Frag) (mg : Str → Option Value) (c : Cs) : Prop where
  no_abs : mg "abs" = none
  no_bool : mg "bool" = none
  no_int : mg "int" = none
  no_isinstance : mg "isinstance" = none
  no_len : mg "len" = none
  no_list : mg "list" = none
  no_max : mg "max" = none
  no_min : mg "min" = none
  no_range : mg "range" = none
  no_str : mg "str" = none
  no_tuple : mg "tuple" = none
  g_BUILTINS : GTup K mg "BUILTINS" [.str "print", .str "read", .str "str", .str "int", .str "len", .str "range", .str "kind", .str "abs", .str "min", .str "max", .str "pow", .str "gcd", .str "sqrt", .str "base", .str "parse", .str "char", .str "assert", .str "copy", .str "equals"]
  g_ERROR : ∃ t, mg "ERROR" = some (.str "Error" t)
  mg_Ref : mg "Ref" = some (.ref c.Ref)
  cl_Ref : Cls K c.Ref
  mk_Ref : MkAt K mg "Ref" c.Ref
  mg_Builtin : mg "Builtin" = some (.ref c.Builtin)
  cl_Builtin : Cls K c.Builtin
  mk_Builtin : MkAt K mg "Builtin" c.Builtin
  mg_Parts : mg "Parts" = some (.ref c.Parts)
  cl_Parts : Cls K c.Parts
  mk_Parts : MkAt K mg "Parts" c.Parts
  mg_Table : mg "Table" = some (.ref c.Table)
  cl_Table : Cls K c.Table
  mk_Table : MkAt K mg "Table" c.Table
  mg_Instance : mg "Instance" = some (.ref c.Instance)
  cl_Instance : Cls K c.Instance
  mk_Instance : MkAt K mg "Instance" c.Instance
  mg_Kin : mg "Kin" = some (.ref c.Kin)
  cl_Kin : Cls K c.Kin
  mk_Kin : MkAt K mg "Kin" c.Kin
  mg_Closure : mg "Closure" = some (.ref c.Closure)
  cl_Closure : Cls K c.Closure
  mk_Closure : MkAt K mg "Closure" c.Closure
  mg_Bound : mg "Bound" = some (.ref c.Bound)
  cl_Bound : Cls K c.Bound
  mk_Bound : MkAt K mg "Bound" c.Bound
  mg_Variable : mg "Variable" = some (.ref c.Variable)
  cl_Variable : Cls K c.Variable
  mk_Variable : MkAt K mg "Variable" c.Variable
  mg_Cursor : mg "Cursor" = some (.ref c.Cursor)
  cl_Cursor : Cls K c.Cursor
  mk_Cursor : MkAt K mg "Cursor" c.Cursor
  mg_Store : mg "Store" = some (.ref c.Store)
  cl_Store : Cls K c.Store
  mk_Store : MkAt K mg "Store" c.Store
  pl__rows : Plain K [c.Table] "_rows"
  pl_function : Plain K [c.Bound] "function"
  pl_held : Plain K [c.Parts] "held"
  pl_lines : Plain K [c.Store] "lines"
  pl_methods : Plain K [c.Kin] "methods"
  pl_name : Plain K [c.Builtin, c.Kin] "name"
  pl_named : Plain K [c.Instance] "named"
  pl_number : Plain K [c.Ref, c.Closure] "number"
  pl_output : Plain K [c.Store] "output"
  pl_owner : Plain K [c.Instance, c.Bound] "owner"
  pl_parent : Plain K [c.Kin] "parent"
  pl_rest : Plain K [c.Cursor] "rest"
  pl_scope : Plain K [c.Closure] "scope"
  pl_taken : Plain K [c.Store] "taken"
  pl_things : Plain K [c.Store] "things"
  pl_value : Plain K [c.Variable] "value"
  pl_wanted : Plain K [c.Closure] "wanted"
  ob : ObjFact K
  kit : Kit K [c.Ref, c.Builtin, c.Parts, c.Table, c.Instance, c.Kin, c.Closure, c.Bound, c.Variable, c.Cursor, c.Store] [c.Ref, c.Parts, c.Table, c.Instance, c.Kin, c.Builtin]
  ne : (c.Ref = c.Builtin) = False ∧ (c.Ref = c.Parts) = False ∧ (c.Ref = c.Table) = False ∧ (c.Ref = c.Instance) = False ∧ (c.Ref = c.Kin) = False ∧ (c.Ref = c.Closure) = False ∧ (c.Ref = c.Bound) = False ∧ (c.Ref = c.Variable) = False ∧ (c.Ref = c.Cursor) = False ∧ (c.Ref = c.Store) = False ∧ (c.Builtin = c.Ref) = False ∧ (c.Builtin = c.Parts) = False ∧ (c.Builtin = c.Table) = False ∧ (c.Builtin = c.Instance) = False ∧ (c.Builtin = c.Kin) = False ∧ (c.Builtin = c.Closure) = False ∧ (c.Builtin = c.Bound) = False ∧ (c.Builtin = c.Variable) = False ∧ (c.Builtin = c.Cursor) = False ∧ (c.Builtin = c.Store) = False ∧ (c.Parts = c.Ref) = False ∧ (c.Parts = c.Builtin) = False ∧ (c.Parts = c.Table) = False ∧ (c.Parts = c.Instance) = False ∧ (c.Parts = c.Kin) = False ∧ (c.Parts = c.Closure) = False ∧ (c.Parts = c.Bound) = False ∧ (c.Parts = c.Variable) = False ∧ (c.Parts = c.Cursor) = False ∧ (c.Parts = c.Store) = False ∧ (c.Table = c.Ref) = False ∧ (c.Table = c.Builtin) = False ∧ (c.Table = c.Parts) = False ∧ (c.Table = c.Instance) = False ∧ (c.Table = c.Kin) = False ∧ (c.Table = c.Closure) = False ∧ (c.Table = c.Bound) = False ∧ (c.Table = c.Variable) = False ∧ (c.Table = c.Cursor) = False ∧ (c.Table = c.Store) = False ∧ (c.Instance = c.Ref) = False ∧ (c.Instance = c.Builtin) = False ∧ (c.Instance = c.Parts) = False ∧ (c.Instance = c.Table) = False ∧ (c.Instance = c.Kin) = False ∧ (c.Instance = c.Closure) = False ∧ (c.Instance = c.Bound) = False ∧ (c.Instance = c.Variable) = False ∧ (c.Instance = c.Cursor) = False ∧ (c.Instance = c.Store) = False ∧ (c.Kin = c.Ref) = False ∧ (c.Kin = c.Builtin) = False ∧ (c.Kin = c.Parts) = False ∧ (c.Kin = c.Table) = False ∧ (c.Kin = c.Instance) = False ∧ (c.Kin = c.Closure) = False ∧ (c.Kin = c.Bound) = False ∧ (c.Kin = c.Variable) = False ∧ (c.Kin = c.Cursor) = False ∧ (c.Kin = c.Store) = False ∧ (c.Closure = c.Ref) = False ∧ (c.Closure = c.Builtin) = False ∧ (c.Closure = c.Parts) = False ∧ (c.Closure = c.Table) = False ∧ (c.Closure = c.Instance) = False ∧ (c.Closure = c.Kin) = False ∧ (c.Closure = c.Bound) = False ∧ (c.Closure = c.Variable) = False ∧ (c.Closure = c.Cursor) = False ∧ (c.Closure = c.Store) = False ∧ (c.Bound = c.Ref) = False ∧ (c.Bound = c.Builtin) = False ∧ (c.Bound = c.Parts) = False ∧ (c.Bound = c.Table) = False ∧ (c.Bound = c.Instance) = False ∧ (c.Bound = c.Kin) = False ∧ (c.Bound = c.Closure) = False ∧ (c.Bound = c.Variable) = False ∧ (c.Bound = c.Cursor) = False ∧ (c.Bound = c.Store) = False ∧ (c.Variable = c.Ref) = False ∧ (c.Variable = c.Builtin) = False ∧ (c.Variable = c.Parts) = False ∧ (c.Variable = c.Table) = False ∧ (c.Variable = c.Instance) = False ∧ (c.Variable = c.Kin) = False ∧ (c.Variable = c.Closure) = False ∧ (c.Variable = c.Bound) = False ∧ (c.Variable = c.Cursor) = False ∧ (c.Variable = c.Store) = False ∧ (c.Cursor = c.Ref) = False ∧ (c.Cursor = c.Builtin) = False ∧ (c.Cursor = c.Parts) = False ∧ (c.Cursor = c.Table) = False ∧ (c.Cursor = c.Instance) = False ∧ (c.Cursor = c.Kin) = False ∧ (c.Cursor = c.Closure) = False ∧ (c.Cursor = c.Bound) = False ∧ (c.Cursor = c.Variable) = False ∧ (c.Cursor = c.Store) = False ∧ (c.Store = c.Ref) = False ∧ (c.Store = c.Builtin) = False ∧ (c.Store = c.Parts) = False ∧ (c.Store = c.Table) = False ∧ (c.Store = c.Instance) = False ∧ (c.Store = c.Kin) = False ∧ (c.Store = c.Closure) = False ∧ (c.Store = c.Bound) = False ∧ (c.Store = c.Variable) = False ∧ (c.Store = c.Cursor) = False
section
variable {P : Program} {w : World} {K : PySem.W.Frag} {mg : Str → Option Value} {base : Heap} {c : Cs}
/-- the law's own state: a number, a place, the script; H0: the heap at the law's start -/
structure Dr (K : PySem.W.Frag) (H0 : Hp) (s sc : Addr) (ns : List Int) (H : Hp) : Prop where
  st : ∃ a k : Int, H s = some (.lst [.int a, .int k, .ref sc]) ∧ 0 ≤ a ∧ 0 ≤ k
  sq : SqL K H0 sc (ns.map V.int)
  sm : Same H0 H
  nw : H0 s = none
  le : ns.length ≤ 63
theorem same_keep {H0 H H' : Hp} {ps : List Addr} (s : Same H0 H) (k : Keep ps H H') (n : ∀ q ∈ ps, H0 q = none) : Same H0 H' := fun a o e => k a o (fun m => by rw [n a m] at e; cases e) (s a o e)
theorem Dr.keep {H0 : Hp} {s sc : Addr} {ns : List Int} {ps : List Addr} {H H' : Hp} (d : Dr K H0 s sc ns H) (k : Keep ps H H') (n1 : s ∉ ps) (n2 : ∀ q ∈ ps, H0 q = none) : Dr K H0 s sc ns H' := by
  obtain ⟨a, j, e, h1, h2⟩ := d.st
  exact ⟨⟨a, j, k _ _ n1 e, h1, h2⟩, d.sq, same_keep d.sm k n2, d.nw, d.le⟩
theorem Dr.same {H0 : Hp} {s sc : Addr} {ns : List Int} {H H' : Hp} (d : Dr K H0 s sc ns H) (k : Same H H') : Dr K H0 s sc ns H' := d.keep (Keep.of (ps := []) k) (by simp) (fun _ h => by cases h)
def spCell (K : PySem.W.Frag) : Sp := fun vs H Q _ => match vs with
  | [.ref a, .int k] => ∃ ns : List Int, SqL K H a (ns.map V.int) ∧ ns.length ≤ 63 ∧ 0 ≤ k ∧ ∀ v : Int, Q (.int v) H
  | _ => False
theorem ok_cell (A : At K mg "_law_cell" "_law_cell" s_law_cell ["script", "k"]) (T : Txt K mg c) : Has P w K mg base CX0 "_law_cell" 1 ["script", "k"] (spCell K) := by
  have Sc := sc_law_cell
  refine has_of A Sc (fun vs H Q E h => ?_) (fun cdv f A outer s H vs Q E hr h => ?_)
  · unfold spCell at h; split at h; rfl; cases h
  · unfold spCell at h
    split at h
    · rename_i a k
      obtain ⟨ns, hS, hn, h0, kk⟩ := h
      refine ⟨_, (pss_cons (ps_if (pt_cmpR op_fLt (fe_var 1) (pe_callB call_fLen (by rfl) T.no_len (by decide +kernel) (pa_cons (fe_var 0) pa_nil)) (nomark _)) (pss_one (ps_ret (pe_ix ix_fx (fe_var 0) (fe_var 1) (fun _ _ => rfl)))) pss_nil)
      (pss_one (ps_ret pe_int))), ?_⟩
      walk_at "fx0"
      walk_at "fx"
      refine ifs_ ?_
      walk_at "fx"
      refine ⟨_, .inl hS, ?_⟩
      rw [List.length_map]
      split
      · rename_i hlt
        obtain ⟨z, ez⟩ := at_ints (ns := ns) (i := k) h0 hlt
        exact ⟨_, .inl hS, _, ez, kk z⟩
      · exact kk 0
    · cases h
def spBegin (K : PySem.W.Frag) : Sp := fun vs H Q _ => match vs with
  | [.ref a, .int k] => 0 ≤ k ∧ ∀ s H1, H s = none → Same H H1 → H1 s = some (.lst [.int 0, .int k, .ref a]) → Q (.ref s) H1
  | _ => False
theorem ok_begin (A : At K mg "_law_begin" "_law_begin" s_law_begin ["script", "k"]) (T : Txt K mg c) : Has P w K mg base CX0 "_law_begin" 1 ["script", "k"] (spBegin K) := by
  have Sc := sc_law_begin
  refine has_of A Sc (fun vs H Q E h => ?_) (fun cdv f A outer s H vs Q E hr h => ?_)
  · unfold spBegin at h; split at h; rfl; cases h
  · unfold spBegin at h
    split at h
    · rename_i a k
      obtain ⟨h0, kk⟩ := h
      refine ⟨_, (pss_one (ps_ret (fe_lst (pa_cons pe_int (pa_cons (fe_var 1) (pa_cons (fe_var 0) pa_nil)))))), ?_⟩
      walk_at "fx0"
      walk_at "fx"
      exact kk
    · cases h
def spDraw (K : PySem.W.Frag) : Sp := fun vs H Q _ => match vs with
  | [.ref s, .int m] => ∃ H0 sc ns, Dr K H0 s sc ns H ∧ 0 < m ∧ m < 1073741824 ∧ ∀ H1 (d : Int), Keep [s] H H1 → Dr K H0 s sc ns H1 → 0 ≤ d → d < m → Q (.int d) H1
  | _ => False
theorem big_mul {i : Int} (h0 : 0 ≤ i) (h : i < 2 ^ 100) : IntMulOk i i := by
  have b : Builtin.Int.intBits i ≤ 128 := by
    unfold Builtin.Int.intBits
    by_cases hz : i = 0
    · subst hz; decide
    · rw [if_neg (by simpa using hz)]
      have : i.natAbs.log2 < 100 := (Nat.log2_lt (by omega)).mpr (by omega)
      omega
  exact IntMulOk.of_le b b (by decide)
theorem ok_draw (A : At K mg "_law_draw" "_law_draw" s_law_draw ["state", "many"]) (T : Txt K mg c) (H_law_cell : Has P w K mg base CX0 "_law_cell" 1 ["script", "k"] (spCell K)) : Has P w K mg base CX0 "_law_draw" 2 ["state", "many"] (spDraw K) := by
  have Sc := sc_law_draw
  refine has_of A Sc (fun vs H Q E h => ?_) (fun cdv f A outer s H vs Q E hr h => ?_)
  · unfold spDraw at h; split at h; rfl; cases h
  · unfold spDraw at h
    split at h
    · rename_i st m
      obtain ⟨H0, sc, ns, D, h0, h1, kk⟩ := h
      obtain ⟨x, k, es, hx, hk⟩ := D.st
      refine ⟨_, (pss_cons (ps_if (pt_cmpR op_fLt (pe_ix ix_fx (fe_var 0) pe_int (fun _ _ => rfl)) (fe_var 1) (nomark _)) (pss_cons (ps_set (i := 2) Sc.nd rfl (.inl rfl) (pe_ix ix_fx (fe_var 0) pe_int (fun _ _ => rfl)))
      (pss_cons (ps_set (i := 3) Sc.nd rfl (.inl rfl) (fe_call H_law_cell (hr.mono (by walk_at "rm")) (by rfl) pass0 (pa_cons (pe_ix ix_fx (fe_var 0) pe_int (fun _ _ => rfl)) (pa_cons (fe_var 2) pa_nil))))
      (pss_cons (ps_set (i := 4) Sc.nd rfl (.inl rfl) pe_int)
      (pss_cons (ps_asg (pe_op op_fAdd (fe_var 2) pe_int) (pg_sub (fe_var 0) pe_int set_fx))
      (pss_cons (ps_asg (pe_callB call_fAbs (by rfl) T.no_abs (by decide +kernel) (pa_cons (fe_var 3) pa_nil)) (pg_sub (fe_var 0) pe_int set_fx))
      (pss_one (ps_if (pt_chain op_fLt op_fLt (pe_un un_fNeg pe_int) (fe_var 3) pe_int) (pss_cons (ps_set (i := 5) Sc.nd rfl (.inl rfl) (pe_op op_fMod (pe_callTy call_fInt (by rfl) T.no_int (by decide +kernel) (pa_cons (pe_op op_fAdd (pe_op op_fMul (fe_var 3) pe_int) (pe_op op_fMul (pe_op op_fAdd (fe_var 2) pe_int) pe_int)) pa_nil)) (fe_var 4)))
      (pss_one (ps_asg (pe_op op_fAdd (pe_op op_fMod (pe_callTy call_fInt (by rfl) T.no_int (by decide +kernel) (pa_cons (pe_op op_fAdd (pe_op op_fAdd (pe_op op_fMul (fe_var 5) (fe_var 5)) (pe_op op_fMul pe_int (fe_var 5))) (fe_var 2)) pa_nil)) (fe_var 4)) (fe_var 4)) (pg_sub (fe_var 0) pe_int set_fx)))) pss_nil))))))) pss_nil)
      (pss_cons (ps_set (i := 6) Sc.nd rfl (.inl rfl) (pe_op op_fMod (pe_callTy call_fInt (by rfl) T.no_int (by decide +kernel) (pa_cons (pe_ix ix_fx (fe_var 0) pe_int (fun _ _ => rfl)) pa_nil)) (fe_var 1)))
      (pss_cons (ps_asg (pe_op op_fDiv (pe_ix ix_fx (fe_var 0) pe_int (fun _ _ => rfl)) (fe_var 1)) (pg_sub (fe_var 0) pe_int set_fx))
      (pss_one (ps_ret (fe_var 6)))))), ?_⟩
      walk_at "fx0"
      walk_at "fx"
      refine cut_ fun N hN => ifs_ ?_
      walk_at "fx"
      refine ⟨_, rl_l es, _, atI_nat (j := 0) rfl, ?_⟩
      walk_at "fx"
      have fin : ∀ (y : Int) (k' : Int) (v2 v3 v4 v5 : Option V) (H1 : Hp), Keep [st] H H1 → H1 st = some (.lst [.int y, .int k', .ref sc]) → 0 ≤ y → 0 ≤ k' → N [some (.ref st), some (.int m), v2, v3, v4, v5, none] H1 := by
        intro y k' v3 v4 v5 v6 H1 kp e1 g0 g1
        refine hN _ _ ?_
        walk_at "fx"
        refine ⟨_, rl_l e1, _, atI_nat (j := 0) rfl, h0, _, rl_l e1, _, atI_nat (j := 0) rfl, small_div h0 h1, ?_⟩
        rw [e1]
        refine ⟨0, rfl, ?_⟩
        have kp2 : Keep [st] H (upd H1 st (.lst ([V.int y, .int k', .ref sc].set 0 (.int (y / m))))) := kp.upd (by simp)
        exact kk _ _ kp2 ⟨⟨y / m, k', upd_same, Int.ediv_nonneg g0 (by omega), g1⟩, D.sq, same_keep D.sm kp2 (by intro q hq; rw [List.mem_singleton.mp hq]; exact D.nw), D.nw, D.le⟩ (emod_lo y h0) (emod_hi y h0)
      split
      · refine ⟨_, rl_l es, _, atI_nat (j := 1) rfl, _, rl_l es, _, atI_nat (j := 2) rfl, ?_⟩
        unfold spCell
        refine ⟨ns, D.sm.seq D.sq, D.le, hk, fun v => ?_⟩
        walk_at "fx"
        simp only [es]
        walk_at "fx"
        refine ⟨1, rfl, 0, rfl, ?_⟩
        refine ifs_ ?_
        walk_at "fx"
        have kp : Keep [st] H (upd (upd H st (.lst [.int x, .int (k + 1), .ref sc])) st (.lst [.int (if v < 0 then -v else v), .int (k + 1), .ref sc])) := (Keep.refl.upd (by simp)).upd (by simp)
        have ha : 0 ≤ (if v < 0 then -v else v) := by split <;> omega
        split
        · split
          · have g0 := emod_lo (v * 2654435761 + (k + 1) * 6700417) (m := 618970019642690137449562111) (by decide)
            have g1 := emod_hi (v * 2654435761 + (k + 1) * 6700417) (m := 618970019642690137449562111) (by decide)
            generalize (v * 2654435761 + (k + 1) * 6700417) % 618970019642690137449562111 = y at g0 g1
            have g2 := emod_lo (y * y + 7 * y + k) (m := 618970019642690137449562111) (by decide)
            refine ⟨by walk_at "mul", by walk_at "mul", big_mul g0 (by omega), by walk_at "mul", 0, rfl, ?_⟩
            exact fin _ (k + 1) _ _ _ _ _ (kp.upd (by simp)) upd_same (by omega) (by omega)
          · exact fin _ (k + 1) _ _ _ _ _ kp upd_same ha (by omega)
        · exact fin _ (k + 1) _ _ _ _ _ kp upd_same ha (by omega)
      · exact fin x k _ _ _ _ H Keep.refl es hx hk
    · cases h
end

section
variable {P : Program} {w : World} {K : PySem.W.Frag} {mg : Str → Option Value} {base : Heap} {c : Cs}
def spPick (K : PySem.W.Frag) : Sp := fun vs H Q _ => match vs with
  | [.ref s, .ref r] => ∃ H0 sc ns xs, Dr K H0 s sc ns H ∧ (∀ H1, Keep [s] H H1 → Rl K H1 r xs) ∧ 0 < xs.length ∧ xs.length ≤ 100000 ∧ ∀ H1 v, Keep [s] H H1 → Dr K H0 s sc ns H1 → v ∈ xs → Q v H1
  | _ => False
theorem ok_pick (A : At K mg "_law_pick" "_law_pick" s_law_pick ["state", "row"]) (T : Txt K mg c) (H_law_draw : Has P w K mg base CX0 "_law_draw" 2 ["state", "many"] (spDraw K)) : Has P w K mg base CX0 "_law_pick" 3 ["state", "row"] (spPick K) := by
  have Sc := sc_law_pick
  refine has_of A Sc (fun vs H Q E h => ?_) (fun cdv f A outer s H vs Q E hr h => ?_)
  · unfold spPick at h; split at h; rfl; cases h
  · unfold spPick at h
    split at h
    · rename_i st r
      obtain ⟨H0, sc, ns, xs, D, hr1, h0, h1, kk⟩ := h
      refine ⟨_, (pss_one (ps_ret (pe_ix ix_fx (fe_var 1) (fe_call H_law_draw (hr.mono (by walk_at "rm")) (by rfl) pass0 (pa_cons (fe_var 0) (pa_cons (pe_callB call_fLen (by rfl) T.no_len (by decide +kernel) (pa_cons (fe_var 1) pa_nil)) pa_nil))) (fun _ _ => rfl)))), ?_⟩
      walk_at "fx0"
      walk_at "fx"
      refine ⟨_, hr1 H Keep.refl, ?_⟩
      unfold spDraw
      refine ⟨H0, sc, ns, D, by omega, by omega, fun H1 d kp D1 d0 d1 => ?_⟩
      obtain ⟨v, hv, ev⟩ := at_vs (xs := xs) d0 d1
      exact ⟨_, hr1 H1 kp, v, ev, kk H1 v kp D1 hv⟩
    · cases h
end

section
variable {P : Program} {w : World} {K : PySem.W.Frag} {mg : Str → Option Value} {base : Heap} {c : Cs}
def spMk_Ref (K : PySem.W.Frag) (c : Cs) : Sp := fun vs H Q _ => match vs with
  | [v_number] => ∀ y dx H1, H y = none → Same H H1 → H1 y = some (.ins c.Ref dx [("number", v_number)]) → Q (.ref y) H1
  | _ => False
theorem mk_Ref (A : AtM K c.Ref "__init__" "Ref.__init__" s_Ref___init__ ["self", "number"]) (T : Txt K mg c) : HasC P w K mg base CX0 c.Ref "Ref" 1 ["self", "number"] (spMk_Ref K c) := by
  have Sc := sc_Ref___init__
  refine hasC_of T.mk_Ref A Sc (fun vs H Q E h => ?_) (fun cdv f A outer s H vs Q E y dx H0 hr h hy hs h0 => ?_)
  · unfold spMk_Ref at h; split at h; rfl; cases h
  · unfold spMk_Ref at h
    split at h
    · rename_i v_number
      refine ⟨_, (pss_one (fs_fld (fe_var 0) (fe_var 1) T.pl_number rfl)), ?_⟩
      walk_at "fx0"
      walk_at "ox"
      simp only [h0]
      walk_at "ox"
      first
        | exact h y dx _ hy (mk_same hs hy) upd_same
        | exact ⟨by decide, h y dx _ hy (mk_same hs hy) upd_same⟩
    · cases h
def spMk_Builtin (K : PySem.W.Frag) (c : Cs) : Sp := fun vs H Q _ => match vs with
  | [v_name] => ∀ y dx H1, H y = none → Same H H1 → H1 y = some (.ins c.Builtin dx [("name", v_name)]) → Q (.ref y) H1
  | _ => False
theorem mk_Builtin (A : AtM K c.Builtin "__init__" "Builtin.__init__" s_Builtin___init__ ["self", "name"]) (T : Txt K mg c) : HasC P w K mg base CX0 c.Builtin "Builtin" 1 ["self", "name"] (spMk_Builtin K c) := by
  have Sc := sc_Builtin___init__
  refine hasC_of T.mk_Builtin A Sc (fun vs H Q E h => ?_) (fun cdv f A outer s H vs Q E y dx H0 hr h hy hs h0 => ?_)
  · unfold spMk_Builtin at h; split at h; rfl; cases h
  · unfold spMk_Builtin at h
    split at h
    · rename_i v_name
      refine ⟨_, (pss_one (fs_fld (fe_var 0) (fe_var 1) T.pl_name rfl)), ?_⟩
      walk_at "fx0"
      walk_at "ox"
      simp only [h0]
      walk_at "ox"
      first
        | exact h y dx _ hy (mk_same hs hy) upd_same
        | exact ⟨by decide, h y dx _ hy (mk_same hs hy) upd_same⟩
    · cases h
def spMk_Closure (K : PySem.W.Frag) (c : Cs) : Sp := fun vs H Q _ => match vs with
  | [v_number, v_wanted, v_scope] => ∀ y dx H1, H y = none → Same H H1 → H1 y = some (.ins c.Closure dx [("number", v_number), ("wanted", v_wanted), ("scope", v_scope)]) → Q (.ref y) H1
  | _ => False
theorem mk_Closure (A : AtM K c.Closure "__init__" "Closure.__init__" s_Closure___init__ ["self", "number", "wanted", "scope"]) (T : Txt K mg c) : HasC P w K mg base CX0 c.Closure "Closure" 1 ["self", "number", "wanted", "scope"] (spMk_Closure K c) := by
  have Sc := sc_Closure___init__
  refine hasC_of T.mk_Closure A Sc (fun vs H Q E h => ?_) (fun cdv f A outer s H vs Q E y dx H0 hr h hy hs h0 => ?_)
  · unfold spMk_Closure at h; split at h; rfl; cases h
  · unfold spMk_Closure at h
    split at h
    · rename_i v_number v_wanted v_scope
      refine ⟨_, (pss_cons (fs_fld (fe_var 0) (fe_var 1) T.pl_number rfl)
      (pss_cons (fs_fld (fe_var 0) (fe_var 2) T.pl_wanted rfl)
      (pss_one (fs_fld (fe_var 0) (fe_var 3) T.pl_scope rfl)))), ?_⟩
      walk_at "fx0"
      walk_at "ox"
      simp only [h0]
      walk_at "ox"
      first
        | exact h y dx _ hy (mk_same hs hy) upd_same
        | exact ⟨by decide, h y dx _ hy (mk_same hs hy) upd_same⟩
    · cases h
def spMk_Bound (K : PySem.W.Frag) (c : Cs) : Sp := fun vs H Q _ => match vs with
  | [v_owner, v_function] => ∀ y dx H1, H y = none → Same H H1 → H1 y = some (.ins c.Bound dx [("owner", v_owner), ("function", v_function)]) → Q (.ref y) H1
  | _ => False
theorem mk_Bound (A : AtM K c.Bound "__init__" "Bound.__init__" s_Bound___init__ ["self", "owner", "function"]) (T : Txt K mg c) : HasC P w K mg base CX0 c.Bound "Bound" 1 ["self", "owner", "function"] (spMk_Bound K c) := by
  have Sc := sc_Bound___init__
  refine hasC_of T.mk_Bound A Sc (fun vs H Q E h => ?_) (fun cdv f A outer s H vs Q E y dx H0 hr h hy hs h0 => ?_)
  · unfold spMk_Bound at h; split at h; rfl; cases h
  · unfold spMk_Bound at h
    split at h
    · rename_i v_owner v_function
      refine ⟨_, (pss_cons (fs_fld (fe_var 0) (fe_var 1) T.pl_owner rfl)
      (pss_one (fs_fld (fe_var 0) (fe_var 2) T.pl_function rfl))), ?_⟩
      walk_at "fx0"
      walk_at "ox"
      simp only [h0]
      walk_at "ox"
      first
        | exact h y dx _ hy (mk_same hs hy) upd_same
        | exact ⟨by decide, h y dx _ hy (mk_same hs hy) upd_same⟩
    · cases h
def spMk_Variable (K : PySem.W.Frag) (c : Cs) : Sp := fun vs H Q _ => match vs with
  | [v_value] => ∀ y dx H1, H y = none → Same H H1 → H1 y = some (.ins c.Variable dx [("value", v_value)]) → Q (.ref y) H1
  | _ => False
theorem mk_Variable (A : AtM K c.Variable "__init__" "Variable.__init__" s_Variable___init__ ["self", "value"]) (T : Txt K mg c) : HasC P w K mg base CX0 c.Variable "Variable" 1 ["self", "value"] (spMk_Variable K c) := by
  have Sc := sc_Variable___init__
  refine hasC_of T.mk_Variable A Sc (fun vs H Q E h => ?_) (fun cdv f A outer s H vs Q E y dx H0 hr h hy hs h0 => ?_)
  · unfold spMk_Variable at h; split at h; rfl; cases h
  · unfold spMk_Variable at h
    split at h
    · rename_i v_value
      refine ⟨_, (pss_one (fs_fld (fe_var 0) (fe_var 1) T.pl_value rfl)), ?_⟩
      walk_at "fx0"
      walk_at "ox"
      simp only [h0]
      walk_at "ox"
      first
        | exact h y dx _ hy (mk_same hs hy) upd_same
        | exact ⟨by decide, h y dx _ hy (mk_same hs hy) upd_same⟩
    · cases h
def spMk_Parts (K : PySem.W.Frag) (c : Cs) : Sp := fun vs H Q _ => match vs with
  | [.ref v_held] => ∃ xs_held, Rl K H v_held xs_held ∧ ∀ y dx p_held H1, H y = none → Same H H1 → H1 y = some (.ins c.Parts dx [("held", (.ref p_held))]) → H p_held = none → H1 p_held = some (.lst xs_held) → p_held ≠ y → Q (.ref y) H1
  | _ => False
theorem mk_Parts (A : AtM K c.Parts "__init__" "Parts.__init__" s_Parts___init__ ["self", "held"]) (T : Txt K mg c) : HasC P w K mg base CX0 c.Parts "Parts" 1 ["self", "held"] (spMk_Parts K c) := by
  have Sc := sc_Parts___init__
  refine hasC_of T.mk_Parts A Sc (fun vs H Q E h => ?_) (fun cdv f A outer s H vs Q E y dx H0 hr h hy hs h0 => ?_)
  · unfold spMk_Parts at h; split at h; rfl; cases h
  · unfold spMk_Parts at h
    split at h
    · rename_i v_held
      obtain ⟨xs_held, r_held, h⟩ := h
      refine ⟨_, (pss_one (fs_fld (fe_var 0) (pe_callTy call_fListOf (by rfl) T.no_list (by decide +kernel) (pa_cons (fe_var 1) pa_nil)) T.pl_held rfl)), ?_⟩
      walk_at "fx0"
      walk_at "ox"
      refine ⟨_, rl_keep (hs) r_held, ?_⟩
      intro p_held G_held n_held s_held e_held
      have ny_held : p_held ≠ y := fun q => by rw [q, h0] at n_held; cases n_held
      have y_held := s_held _ _ (h0)
      have t_held := (hs).trans s_held
      have f_held := Same.free (hs) n_held
      simp only [y_held]
      walk_at "ox"
      first
        | exact h y dx p_held _ hy (mk_same t_held hy) upd_same f_held ((upd_ne ny_held).trans e_held) ny_held
        | exact ⟨by decide, h y dx p_held _ hy (mk_same t_held hy) upd_same f_held ((upd_ne ny_held).trans e_held) ny_held⟩
    · cases h
def spMk_Table (K : PySem.W.Frag) (c : Cs) : Sp := fun vs H Q _ => match vs with
  | [] => ∀ y dx p__rows H1, H y = none → Same H H1 → H1 y = some (.ins c.Table dx [("_rows", (.ref p__rows))]) → H p__rows = none → H1 p__rows = some (.dK []) → p__rows ≠ y → Q (.ref y) H1
  | _ => False
theorem mk_Table (A : AtM K c.Table "__init__" "Table.__init__" s_Table___init__ ["self"]) (T : Txt K mg c) : HasC P w K mg base CX0 c.Table "Table" 1 ["self"] (spMk_Table K c) := by
  have Sc := sc_Table___init__
  refine hasC_of T.mk_Table A Sc (fun vs H Q E h => ?_) (fun cdv f A outer s H vs Q E y dx H0 hr h hy hs h0 => ?_)
  · unfold spMk_Table at h; split at h; rfl; cases h
  · unfold spMk_Table at h
    split at h
    · refine ⟨_, (pss_one (fs_fld (fe_var 0) fe_dnew T.pl__rows rfl)), ?_⟩
      walk_at "fx0"
      walk_at "ox"
      intro p__rows G__rows n__rows s__rows e__rows
      have ny__rows : p__rows ≠ y := fun q => by rw [q, h0] at n__rows; cases n__rows
      have y__rows := s__rows _ _ (h0)
      have t__rows := (hs).trans s__rows
      have f__rows := Same.free (hs) n__rows
      simp only [y__rows]
      walk_at "ox"
      first
        | exact h y dx p__rows _ hy (mk_same t__rows hy) upd_same f__rows ((upd_ne ny__rows).trans e__rows) ny__rows
        | exact ⟨by decide, h y dx p__rows _ hy (mk_same t__rows hy) upd_same f__rows ((upd_ne ny__rows).trans e__rows) ny__rows⟩
    · cases h
def spMk_Instance (K : PySem.W.Frag) (c : Cs) : Sp := fun vs H Q _ => match vs with
  | [v_owner] => ∀ y dx p_named H1, H y = none → Same H H1 → H1 y = some (.ins c.Instance dx [("owner", v_owner), ("named", (.ref p_named))]) → H p_named = none → H1 p_named = some (.dK []) → p_named ≠ y → Q (.ref y) H1
  | _ => False
theorem mk_Instance (A : AtM K c.Instance "__init__" "Instance.__init__" s_Instance___init__ ["self", "owner"]) (T : Txt K mg c) : HasC P w K mg base CX0 c.Instance "Instance" 1 ["self", "owner"] (spMk_Instance K c) := by
  have Sc := sc_Instance___init__
  refine hasC_of T.mk_Instance A Sc (fun vs H Q E h => ?_) (fun cdv f A outer s H vs Q E y dx H0 hr h hy hs h0 => ?_)
  · unfold spMk_Instance at h; split at h; rfl; cases h
  · unfold spMk_Instance at h
    split at h
    · rename_i v_owner
      refine ⟨_, (pss_cons (fs_fld (fe_var 0) (fe_var 1) T.pl_owner rfl)
      (pss_one (fs_fld (fe_var 0) fe_dnew T.pl_named rfl))), ?_⟩
      walk_at "fx0"
      walk_at "ox"
      simp only [h0]
      walk_at "ox"
      intro p_named G_named n_named s_named e_named
      have ny_named : p_named ≠ y := fun q => by rw [q, upd_same] at n_named; cases n_named
      have y_named := s_named _ _ (upd_same)
      have t_named := (mk_same hs hy).trans s_named
      have f_named := Same.free (mk_same hs hy) n_named
      simp only [y_named]
      walk_at "ox"
      first
        | exact h y dx p_named _ hy (mk_same t_named hy) upd_same f_named ((upd_ne ny_named).trans e_named) ny_named
        | exact ⟨by decide, h y dx p_named _ hy (mk_same t_named hy) upd_same f_named ((upd_ne ny_named).trans e_named) ny_named⟩
    · cases h
def spMk_Kin (K : PySem.W.Frag) (c : Cs) : Sp := fun vs H Q _ => match vs with
  | [v_name, v_parent] => ∀ y dx p_methods H1, H y = none → Same H H1 → H1 y = some (.ins c.Kin dx [("name", v_name), ("parent", v_parent), ("methods", (.ref p_methods))]) → H p_methods = none → H1 p_methods = some (.dK []) → p_methods ≠ y → Q (.ref y) H1
  | _ => False
theorem mk_Kin (A : AtM K c.Kin "__init__" "Kin.__init__" s_Kin___init__ ["self", "name", "parent"]) (T : Txt K mg c) : HasC P w K mg base CX0 c.Kin "Kin" 1 ["self", "name", "parent"] (spMk_Kin K c) := by
  have Sc := sc_Kin___init__
  refine hasC_of T.mk_Kin A Sc (fun vs H Q E h => ?_) (fun cdv f A outer s H vs Q E y dx H0 hr h hy hs h0 => ?_)
  · unfold spMk_Kin at h; split at h; rfl; cases h
  · unfold spMk_Kin at h
    split at h
    · rename_i v_name v_parent
      refine ⟨_, (pss_cons (fs_fld (fe_var 0) (fe_var 1) T.pl_name rfl)
      (pss_cons (fs_fld (fe_var 0) (fe_var 2) T.pl_parent rfl)
      (pss_one (fs_fld (fe_var 0) fe_dnew T.pl_methods rfl)))), ?_⟩
      walk_at "fx0"
      walk_at "ox"
      simp only [h0]
      walk_at "ox"
      intro p_methods G_methods n_methods s_methods e_methods
      have ny_methods : p_methods ≠ y := fun q => by rw [q, upd_same] at n_methods; cases n_methods
      have y_methods := s_methods _ _ (upd_same)
      have t_methods := (mk_same hs hy).trans s_methods
      have f_methods := Same.free (mk_same hs hy) n_methods
      simp only [y_methods]
      walk_at "ox"
      first
        | exact h y dx p_methods _ hy (mk_same t_methods hy) upd_same f_methods ((upd_ne ny_methods).trans e_methods) ny_methods
        | exact ⟨by decide, h y dx p_methods _ hy (mk_same t_methods hy) upd_same f_methods ((upd_ne ny_methods).trans e_methods) ny_methods⟩
    · cases h
def spMk_Cursor (K : PySem.W.Frag) (c : Cs) : Sp := fun vs H Q _ => match vs with
  | [.ref v_rest] => ∃ xs_rest, Rl K H v_rest xs_rest ∧ ∀ y dx p_rest H1, H y = none → Same H H1 → H1 y = some (.ins c.Cursor dx [("rest", (.ref p_rest))]) → H p_rest = none → H1 p_rest = some (.lst xs_rest) → p_rest ≠ y → Q (.ref y) H1
  | _ => False
theorem mk_Cursor (A : AtM K c.Cursor "__init__" "Cursor.__init__" s_Cursor___init__ ["self", "rest"]) (T : Txt K mg c) : HasC P w K mg base CX0 c.Cursor "Cursor" 1 ["self", "rest"] (spMk_Cursor K c) := by
  have Sc := sc_Cursor___init__
  refine hasC_of T.mk_Cursor A Sc (fun vs H Q E h => ?_) (fun cdv f A outer s H vs Q E y dx H0 hr h hy hs h0 => ?_)
  · unfold spMk_Cursor at h; split at h; rfl; cases h
  · unfold spMk_Cursor at h
    split at h
    · rename_i v_rest
      obtain ⟨xs_rest, r_rest, h⟩ := h
      refine ⟨_, (pss_one (fs_fld (fe_var 0) (pe_callTy call_fListOf (by rfl) T.no_list (by decide +kernel) (pa_cons (fe_var 1) pa_nil)) T.pl_rest rfl)), ?_⟩
      walk_at "fx0"
      walk_at "ox"
      refine ⟨_, rl_keep (hs) r_rest, ?_⟩
      intro p_rest G_rest n_rest s_rest e_rest
      have ny_rest : p_rest ≠ y := fun q => by rw [q, h0] at n_rest; cases n_rest
      have y_rest := s_rest _ _ (h0)
      have t_rest := (hs).trans s_rest
      have f_rest := Same.free (hs) n_rest
      simp only [y_rest]
      walk_at "ox"
      first
        | exact h y dx p_rest _ hy (mk_same t_rest hy) upd_same f_rest ((upd_ne ny_rest).trans e_rest) ny_rest
        | exact ⟨by decide, h y dx p_rest _ hy (mk_same t_rest hy) upd_same f_rest ((upd_ne ny_rest).trans e_rest) ny_rest⟩
    · cases h
end

section
variable {P : Program} {w : World} {K : PySem.W.Frag} {mg : Str → Option Value} {base : Heap} {c : Cs}
def IsRef (c : Cs) (H : Hp) (a : Addr) (n : Int) : Prop := ∃ dx, H a = some (.ins c.Ref dx [("number", .int n)])
def IsSt (c : Cs) (H : Hp) (y tl : Addr) : Prop := ∃ dx ol ll tk, H y = some (.ins c.Store dx [("things", .ref tl), ("output", .ref ol), ("lines", .ref ll), ("taken", tk)])
theorem IsRef.same {H H' : Hp} {a : Addr} {n : Int} (h : IsRef c H a n) (s : Same H H') : IsRef c H' a n := h.imp fun _ e => s _ _ e
def spStore (K : PySem.W.Frag) (c : Cs) : Sp := fun vs H Q _ => match vs with
  | [.ref l] => ∃ xs, Rl K H l xs ∧ ∀ y tl k H1, H y = none → H tl = none → H k = none → Same H H1 → IsSt c H1 y tl → H1 tl = some (.lst [.ref k]) → (∃ dx md, H1 k = some (.ins c.Kin dx [("name", .str "Error"), ("parent", .non), ("methods", .ref md)])) → Q (.ref y) H1
  | _ => False
theorem ok_store (A : AtM K c.Store "__init__" "Store.__init__" s_Store___init__ ["self", "lines"]) (T : Txt K mg c) (M_Kin : HasC P w K mg base CX0 c.Kin "Kin" 1 ["self", "name", "parent"] (spMk_Kin K c)) : HasC P w K mg base CX0 c.Store "Store" 3 ["self", "lines"] (spStore K c) := by
  have Sc := sc_Store___init__
  refine hasC_of T.mk_Store A Sc (fun vs H Q E h => ?_) (fun cdv f A outer s H vs Q E y dx H0 hr h hy hs h0 => ?_)
  · unfold spStore at h; split at h; rfl; cases h
  · unfold spStore at h
    split at h
    · rename_i l
      obtain ⟨xs, r, h⟩ := h
      refine ⟨_, (pss_cons (fs_fld (fe_var 0) (fe_lst (pa_cons (fe_make (k := _) M_Kin (hr.mono (by walk_at "rm")) (by rfl) pass0 (pa_cons (fe_gstr (by rfl) T.g_ERROR) (pa_cons pe_non pa_nil))) pa_nil)) T.pl_things rfl)
      (pss_cons (fs_fld (fe_var 0) (fe_lst pa_nil) T.pl_output rfl)
      (pss_cons (fs_fld (fe_var 0) (pe_callTy call_fListOf (by rfl) T.no_list (by decide +kernel) (pa_cons (fe_var 1) pa_nil)) T.pl_lines rfl)
      (pss_one (fs_fld (fe_var 0) pe_int T.pl_taken rfl))))), ?_⟩
      walk_at "fx0"
      walk_at "ox"
      unfold spMk_Kin
      intro k kdx md H1 nk s1 e1 nmd emd _
      walk_at "ox"
      intro tl H2 ntl s2 etl
      have ey2 := s2 _ _ (s1 _ _ h0)
      simp only [ey2]
      walk_at "ox"
      have ny2 : tl ≠ y := fun q => by rw [q, s1 _ _ h0] at ntl; cases ntl
      have nky : k ≠ y := fun q => by rw [q, h0] at nk; cases nk
      intro ol H3 nol s3 eol
      have ey3 := s3 _ _ upd_same
      simp only [ey3]
      walk_at "ox"
      refine ⟨_, rl_keep (mk_same ((mk_same ((hs.trans s1).trans s2) hy).trans s3) hy) r, ?_⟩
      intro ll H4 nll s4 ell
      have ey4 := s4 _ _ upd_same
      simp only [ey4]
      walk_at "ox"
      have S4 : Same H H4 := (mk_same ((mk_same ((hs.trans s1).trans s2) hy).trans s3) hy).trans s4
      refine h y tl k _ hy ((hs.trans s1).free ntl) (hs.free nk) (mk_same S4 hy) ⟨_, _, _, _, upd_same⟩ ?_ ⟨kdx, md, ?_⟩
      · exact (upd_ne ny2).trans (s4 _ _ ((upd_ne ny2).trans (s3 _ _ ((upd_ne ny2).trans etl))))
      · exact (upd_ne nky).trans (s4 _ _ ((upd_ne nky).trans (s3 _ _ ((upd_ne nky).trans (s2 _ _ e1)))))
    · cases h
def spMake (c : Cs) : Sp := fun vs H Q _ => match vs with
  | [.ref y, v] => ∃ tl ths, IsSt c H y tl ∧ H tl = some (.lst ths) ∧ ths.length ≤ 10000 ∧ ∀ r H1, H r = none → Keep [tl] H H1 → H1 tl = some (.lst (ths ++ [v])) → IsRef c H1 r (ths.length : Nat) → Q (.ref r) H1
  | _ => False
theorem ok_make (A : AtM K c.Store "make" "Store.make" s_Store_make ["self", "thing"]) (T : Txt K mg c) (M_Ref : HasC P w K mg base CX0 c.Ref "Ref" 1 ["self", "number"] (spMk_Ref K c)) : HasM P w K mg base CX0 c.Store "make" 3 ["self", "thing"] (spMake c) := by
  have Sc := sc_Store_make
  refine hasM_of A Sc (fun vs H Q E h => ?_) (fun cdv f A outer s H vs Q E hr h => ?_)
  · unfold spMake at h; split at h; rfl; cases h
  · unfold spMake at h
    split at h
    · rename_i y v
      obtain ⟨tl, ths, ⟨dx, ol, ll, tk, e0⟩, e1, hl, h⟩ := h
      have ne : y ≠ tl := fun q => by rw [q, e1] at e0; cases e0
      refine ⟨_, (pss_cons (ps_expr (fe_bm PySem.F.plainAttrs_list PySem.F.slot_list_append PySem.F.type_list_append isLst_ty mt_fAppend (fe_fld (fe_var 0) T.pl_things rfl) (pa_cons (fe_var 1) pa_nil)))
      (pss_one (ps_ret (fe_make (k := _) M_Ref (hr.mono (by walk_at "rm")) (by rfl) pass0 (pa_cons (pe_op op_fSub (pe_callB call_fLen (by rfl) T.no_len (by decide +kernel) (pa_cons (fe_fld (fe_var 0) T.pl_things rfl) pa_nil)) pe_int) pa_nil))))), ?_⟩
      walk_at "fx0"
      walk_at "ox"
      simp only [e0]
      walk_at "ox"
      simp only [e1]
      walk_at "ox"
      have e0' : upd H tl (.lst (ths ++ [v])) y = some (.ins c.Store dx [("things", .ref tl), ("output", .ref ol), ("lines", .ref ll), ("taken", tk)]) := by rw [upd_ne ne]; exact e0
      refine ⟨len_line' (by omega), ?_⟩
      simp only [e0']
      walk_at "ox"
      refine ⟨_, rl_l upd_same, ?_⟩
      unfold spMk_Ref
      intro r rdx H1 nr s1 er
      refine h r H1 ?_ ?_ (s1 _ _ upd_same) ⟨rdx, ?_⟩
      · by_cases q : r = tl
        · rw [q, upd_same] at nr; cases nr
        · rw [upd_ne q] at nr; exact nr
      · exact (Keep.refl.upd (by simp)).trans (Keep.of s1)
      · rw [er, List.length_append, List.length_cons, List.length_nil]
        have : (((ths.length + (0 + 1) : Nat) : Int) - 1) = ((ths.length : Nat) : Int) := by omega
        rw [this]
    · cases h
def spAt (c : Cs) : Sp := fun vs H Q _ => match vs with
  | [.ref y, .ref r] => ∃ tl ths n v, IsSt c H y tl ∧ H tl = some (.lst ths) ∧ IsRef c H r n ∧ atI ths n = some v ∧ Q v H
  | _ => False
theorem ok_at (A : AtM K c.Store "at" "Store.at" s_Store_at ["self", "ref"]) (T : Txt K mg c) : HasM P w K mg base CX0 c.Store "at" 1 ["self", "ref"] (spAt c) := by
  have Sc := sc_Store_at
  refine hasM_of A Sc (fun vs H Q E h => ?_) (fun cdv f A outer s H vs Q E hr h => ?_)
  · unfold spAt at h; split at h; rfl; cases h
  · unfold spAt at h
    split at h
    · rename_i y r
      obtain ⟨tl, ths, n, v, ⟨dx, ol, ll, tk, e0⟩, e1, ⟨rdx, er⟩, ea, h⟩ := h
      refine ⟨_, (pss_one (ps_ret (pe_ix ix_fx (fe_fld (fe_var 0) T.pl_things rfl) (fe_fld (fe_var 1) T.pl_number rfl) (fun _ _ => rfl)))), ?_⟩
      walk_at "fx0"
      walk_at "ox"
      simp only [e0]
      walk_at "ox"
      simp only [er]
      walk_at "ox"
      exact ⟨_, rl_l e1, _, ea, h⟩
    · cases h
end

section
variable {P : Program} {w : World} {K : PySem.W.Frag} {mg : Str → Option Value} {base : Heap} {c : Cs}
/-- a value of the language: null, a boolean, an integer, a text, a built-in function, an object's number -/
inductive RV where
  | nul
  | boo (b : Bool)
  | num (n : Int)
  | txt (z : Str)
  | bt (z : Str)
  | ob (n : Int)
  deriving DecidableEq
def IsBt (c : Cs) (H : Hp) (a : Addr) (n : Str) : Prop := ∃ dx, H a = some (.ins c.Builtin dx [("name", .str n)])
def IsVal (c : Cs) (H : Hp) (v : V) : RV → Prop
  | .nul => v = .non
  | .boo b => v = .bl b
  | .num n => v = .int n
  | .txt z => v = .str z
  | .bt n => ∃ a, v = .ref a ∧ IsBt c H a n
  | .ob n => ∃ a, v = .ref a ∧ IsRef c H a n
theorem IsVal.same {H H' : Hp} {v : V} {r : RV} (h : IsVal c H v r) (s : Same H H') : IsVal c H' v r := by
  cases r <;> first
    | exact h
    | (obtain ⟨a, e, dx, h⟩ := h; exact ⟨a, e, dx, s _ _ h⟩)
def spEqual (c : Cs) : Sp := fun vs H Q _ => match vs with
  | [x, y] => ∃ r s, IsVal c H x r ∧ IsVal c H y s ∧ ∀ H1, Same H H1 → Q (.bl (decide (r = s))) H1
  | _ => False
set_option maxHeartbeats 8000000 in
theorem ok_equal (A : At K mg "equal" "equal" s_equal ["x", "y"]) (T : Txt K mg c) : Has P w K mg base CX0 "equal" 1 ["x", "y"] (spEqual c) := by
  have Sc := sc_equal
  refine has_of A Sc (fun vs H Q E h => ?_) (fun cdv f A outer s H vs Q E hr h => ?_)
  · unfold spEqual at h; split at h; rfl; cases h
  · unfold spEqual at h
    split at h
    · rename_i x y
      obtain ⟨r, s, hx, hy, k⟩ := h
      refine ⟨_, (pss_cons (ps_if (PW.pt (pw_or (pt_cmpR op_fIsN (fe_var 0) pe_non (nomark _)) (pw_or1 (pt_cmpR op_fIsN (fe_var 1) pe_non (nomark _))))) (pss_one (ps_ret (pe_and (pe_cmpR op_fIsN (fe_var 0) pe_non (nomark _)) (pe_one (pe_cmpR op_fIsN (fe_var 1) pe_non (nomark _)))))) pss_nil)
      (pss_cons (ps_if (PW.pt (pw_or (pt_val (pe_callB (call_fIsiA T.kit) (by rfl) T.no_isinstance (by decide +kernel) (pa_cons (fe_var 0) (pa_cons (fe_ty (n := "bool") (by rfl) T.no_bool (by decide +kernel)) pa_nil)))) (pw_or1 (pt_val (pe_callB (call_fIsiA T.kit) (by rfl) T.no_isinstance (by decide +kernel) (pa_cons (fe_var 1) (pa_cons (fe_ty (n := "bool") (by rfl) T.no_bool (by decide +kernel)) pa_nil))))))) (pss_one (ps_ret (pe_and (pe_callB (call_fIsiA T.kit) (by rfl) T.no_isinstance (by decide +kernel) (pa_cons (fe_var 0) (pa_cons (fe_ty (n := "bool") (by rfl) T.no_bool (by decide +kernel)) pa_nil))) (pe_and (pe_callB (call_fIsiA T.kit) (by rfl) T.no_isinstance (by decide +kernel) (pa_cons (fe_var 1) (pa_cons (fe_ty (n := "bool") (by rfl) T.no_bool (by decide +kernel)) pa_nil))) (pe_one (pe_cmpR (op_fEq hr.units) (fe_var 0) (fe_var 1) (nomark _))))))) pss_nil)
      (pss_cons (ps_if (PW.pt (pw_or (pt_val (pe_callB (call_fIsiO T.kit) (by rfl) T.no_isinstance (by decide +kernel) (pa_cons (fe_var 0) (pa_cons (pe_glob (v := .ref c.Ref) (by rfl) T.mg_Ref rfl) pa_nil)))) (pw_or1 (pt_val (pe_callB (call_fIsiO T.kit) (by rfl) T.no_isinstance (by decide +kernel) (pa_cons (fe_var 1) (pa_cons (pe_glob (v := .ref c.Ref) (by rfl) T.mg_Ref rfl) pa_nil))))))) (pss_one (ps_ret (pe_and (pe_callB (call_fIsiO T.kit) (by rfl) T.no_isinstance (by decide +kernel) (pa_cons (fe_var 0) (pa_cons (pe_glob (v := .ref c.Ref) (by rfl) T.mg_Ref rfl) pa_nil))) (pe_and (pe_callB (call_fIsiO T.kit) (by rfl) T.no_isinstance (by decide +kernel) (pa_cons (fe_var 1) (pa_cons (pe_glob (v := .ref c.Ref) (by rfl) T.mg_Ref rfl) pa_nil))) (pe_one (pe_cmpR (op_fEq hr.units) (fe_fld (fe_var 0) T.pl_number rfl) (fe_fld (fe_var 1) T.pl_number rfl) (nomark _))))))) pss_nil)
      (pss_cons (ps_if (PW.pt (pw_or (pt_val (pe_callB (call_fIsiO T.kit) (by rfl) T.no_isinstance (by decide +kernel) (pa_cons (fe_var 0) (pa_cons (pe_glob (v := .ref c.Builtin) (by rfl) T.mg_Builtin rfl) pa_nil)))) (pw_or1 (pt_val (pe_callB (call_fIsiO T.kit) (by rfl) T.no_isinstance (by decide +kernel) (pa_cons (fe_var 1) (pa_cons (pe_glob (v := .ref c.Builtin) (by rfl) T.mg_Builtin rfl) pa_nil))))))) (pss_one (ps_ret (pe_and (pe_callB (call_fIsiO T.kit) (by rfl) T.no_isinstance (by decide +kernel) (pa_cons (fe_var 0) (pa_cons (pe_glob (v := .ref c.Builtin) (by rfl) T.mg_Builtin rfl) pa_nil))) (pe_and (pe_callB (call_fIsiO T.kit) (by rfl) T.no_isinstance (by decide +kernel) (pa_cons (fe_var 1) (pa_cons (pe_glob (v := .ref c.Builtin) (by rfl) T.mg_Builtin rfl) pa_nil))) (pe_one (pe_cmpR (op_fEq hr.units) (fe_fld (fe_var 0) T.pl_name rfl) (fe_fld (fe_var 1) T.pl_name rfl) (nomark _))))))) pss_nil)
      (pss_one (ps_ret (pe_cmpR (op_fEq hr.units) (fe_var 0) (fe_var 1) (nomark _)))))))), ?_⟩
      walk_at "fx0"
      have k := k H (Same.refl _)
      cases r <;> cases s
      all_goals first
        | (obtain ⟨a, rfl, dx, e1⟩ := hx
           obtain ⟨b, rfl, dy, e2⟩ := hy
           repeat (first | walk_at "oxs" | simp only [e1] | simp only [e2])
           first
             | exact k
             | (simp only [RV.boo.injEq, RV.num.injEq, RV.txt.injEq, RV.bt.injEq, RV.ob.injEq] at k; exact k))
        | (obtain ⟨a, rfl, dx, e1⟩ := hx
           cases hy
           repeat (first | walk_at "oxs" | simp only [e1])
           first
             | exact k
             | (simp only [RV.boo.injEq, RV.num.injEq, RV.txt.injEq, RV.bt.injEq, RV.ob.injEq] at k; exact k))
        | (obtain ⟨b, rfl, dx, e2⟩ := hy
           cases hx
           repeat (first | walk_at "oxs" | simp only [e2])
           first
             | exact k
             | (simp only [RV.boo.injEq, RV.num.injEq, RV.txt.injEq, RV.bt.injEq, RV.ob.injEq] at k; exact k))
        | (cases hx
           cases hy
           repeat (walk_at "oxs")
           first
             | exact k
             | (simp only [RV.boo.injEq, RV.num.injEq, RV.txt.injEq, RV.bt.injEq, RV.ob.injEq] at k; exact k))
    · cases h
end

section
variable {P : Program} {w : World} {K : PySem.W.Frag} {mg : Str → Option Value} {base : Heap} {c : Cs}
/-- the things of a store, by their classes -/
def ThsOk (H : Hp) : List V → List Addr → Prop
  | [], [] => True
  | v :: vs, C :: cs => (∃ a dx fs, v = .ref a ∧ H a = some (.ins C dx fs)) ∧ ThsOk H vs cs
  | _, _ => False
theorem ThsOk.keep {tl : Addr} {xs : List V} {H H' : Hp} (k : Keep [tl] H H') (e : H tl = some (.lst xs)) : ∀ {vs : List V} {cs : List Addr}, ThsOk H vs cs → ThsOk H' vs cs
  | [], [], _ => trivial
  | v :: vs, C :: cs, ⟨⟨a, dx, fs, h1, h2⟩, h⟩ => ⟨⟨a, dx, fs, h1, k _ _ (fun m => by rw [List.mem_singleton.mp m, e] at h2; cases h2) h2⟩, h.keep k e⟩
  | [], _ :: _, h => h.elim
  | _ :: _, [], h => h.elim
theorem ThsOk.same {H H' : Hp} (s : Same H H') : ∀ {vs : List V} {cs : List Addr}, ThsOk H vs cs → ThsOk H' vs cs
  | [], [], _ => trivial
  | v :: vs, C :: cs, ⟨⟨a, dx, fs, h1, h2⟩, h⟩ => ⟨⟨a, dx, fs, h1, s _ _ h2⟩, h.same s⟩
  | [], _ :: _, h => h.elim
  | _ :: _, [], h => h.elim
theorem ThsOk.snoc {H : Hp} {v : V} {C : Addr} (hv : ∃ a dx fs, v = .ref a ∧ H a = some (.ins C dx fs)) : ∀ {vs : List V} {cs : List Addr}, ThsOk H vs cs → ThsOk H (vs ++ [v]) (cs ++ [C])
  | [], [], _ => ⟨hv, trivial⟩
  | v :: vs, C :: cs, ⟨h1, h⟩ => ⟨h1, h.snoc hv⟩
  | [], _ :: _, h => h.elim
  | _ :: _, [], h => h.elim
theorem ThsOk.get {H : Hp} : ∀ {vs : List V} {cs : List Addr} {i : Nat} {C : Addr}, ThsOk H vs cs → cs[i]? = some C → ∃ a dx fs, vs[i]? = some (.ref a) ∧ H a = some (.ins C dx fs)
  | v :: vs, C :: cs, 0, D, ⟨⟨a, dx, fs, h1, h2⟩, _⟩, e => by cases e; subst h1; exact ⟨a, dx, fs, rfl, h2⟩
  | v :: vs, C :: cs, i + 1, D, ⟨_, h⟩, e => h.get e
  | [], [], i, D, _, e => by simp at e
  | [], _ :: _, _, _, h, _ => h.elim
  | _ :: _, [], _, _, h, _ => h.elim
theorem ThsOk.len {H : Hp} : ∀ {vs : List V} {cs : List Addr}, ThsOk H vs cs → vs.length = cs.length
  | [], [], _ => rfl
  | v :: vs, C :: cs, ⟨_, h⟩ => by rw [List.length_cons, List.length_cons, h.len]
  | [], _ :: _, h => h.elim
  | _ :: _, [], h => h.elim
structure StoK (c : Cs) (H : Hp) (y tl : Addr) (cs : List Addr) : Prop where
  st : IsSt c H y tl
  th : ∃ ths, H tl = some (.lst ths) ∧ ThsOk H ths cs
theorem StoK.same {H H' : Hp} {y tl : Addr} {cs : List Addr} (h : StoK c H y tl cs) (s : Same H H') : StoK c H' y tl cs := by
  obtain ⟨⟨dx, ol, ll, tk, e⟩, ths, e1, e2⟩ := h
  exact ⟨⟨dx, ol, ll, tk, s _ _ e⟩, ths, s _ _ e1, e2.same s⟩
/-- behind a change of a list that is not the store's -/
theorem StoK.keep {H H' : Hp} {y tl q : Addr} {cs : List Addr} {xs : List V} (h : StoK c H y tl cs) (k : Keep [q] H H') (e : H q = some (.lst xs)) (ne : tl ≠ q) : StoK c H' y tl cs := by
  obtain ⟨⟨dx, ol, ll, tk, e0⟩, ths, e1, e2⟩ := h
  exact ⟨⟨dx, ol, ll, tk, k _ _ (fun m => by rw [List.mem_singleton.mp m, e] at e0; cases e0) e0⟩, ths, k _ _ (fun m => ne (List.mem_singleton.mp m)) e1, e2.keep k e⟩
def kindS : RV → Str
  | .nul => "null"
  | .boo _ => "boolean"
  | .num _ => "integer"
  | .txt _ => "text"
  | .bt _ => "function"
  | .ob n => if n = 0 then "class" else if n = 1 then "list" else if n = 2 then "map" else if n = 3 then "instance" else "function"
def eight (c : Cs) : List Addr := [c.Kin, c.Parts, c.Table, c.Instance, c.Closure, c.Bound, c.Variable, c.Cursor]
def spThing (c : Cs) : Sp := fun vs H Q _ => match vs with
  | [.ref y, v] => ∃ r, IsVal c H v r ∧ match r with
    | .ob n => ∃ tl ths w, IsSt c H y tl ∧ H tl = some (.lst ths) ∧ atI ths n = some w ∧ Q w H
    | _ => Q .non H
  | _ => False
set_option maxHeartbeats 4000000 in
theorem ok_thing (A : At K mg "thing_of" "thing_of" s_thing_of ["store", "value"]) (T : Txt K mg c) (M_Store_at : HasM P w K mg base CX0 c.Store "at" 1 ["self", "ref"] (spAt c)) : Has P w K mg base CX0 "thing_of" 2 ["store", "value"] (spThing c) := by
  have Sc := sc_thing_of
  refine has_of A Sc (fun vs H Q E h => ?_) (fun cdv f A outer s H vs Q E hr h => ?_)
  · unfold spThing at h; split at h; rfl; cases h
  · unfold spThing at h
    split at h
    · rename_i y v
      obtain ⟨r, hv, k⟩ := h
      refine ⟨_, (pss_cons (ps_if (pt_val (pe_callB (call_fIsiO T.kit) (by rfl) T.no_isinstance (by decide +kernel) (pa_cons (fe_var 1) (pa_cons (pe_glob (v := .ref c.Ref) (by rfl) T.mg_Ref rfl) pa_nil)))) (pss_one (ps_ret (fe_meth M_Store_at T.cl_Store (hr.mono (by walk_at "rm")) pass0 (fe_var 0) (pa_cons (fe_var 1) pa_nil)))) pss_nil)
      (pss_one (ps_ret pe_non))), ?_⟩
      walk_at "fx0"
      cases r
      all_goals first
        | (obtain ⟨a, rfl, dx, e1⟩ := hv
           repeat (first | walk_at "oxs" | simp only [e1])
           first
             | exact k
             | (obtain ⟨tl, ths, w, ⟨d2, o2, l2, t2, es⟩, et, ew, k⟩ := k
                simp only [es]
                walk_at "oxs"
                unfold spAt
                exact ⟨tl, ths, _, w, ⟨d2, o2, l2, t2, es⟩, et, ⟨dx, e1⟩, ew, k⟩))
        | (cases hv
           repeat (walk_at "oxs")
           exact k)
    · cases h
def spKind (c : Cs) : Sp := fun vs H Q _ => match vs with
  | [.ref y, v] => ∃ r tl, IsVal c H v r ∧ StoK c H y tl (eight c) ∧ (∀ n, r = .ob n → 0 ≤ n ∧ n < 8) ∧ Q (.str (kindS r)) H
  | _ => False
set_option maxHeartbeats 4000000 in
theorem ok_kind (A : At K mg "kind_of" "kind_of" s_kind_of ["store", "value"]) (T : Txt K mg c) (H_thing_of : Has P w K mg base CX0 "thing_of" 2 ["store", "value"] (spThing c)) : Has P w K mg base CX0 "kind_of" 3 ["store", "value"] (spKind c) := by
  have Sc := sc_kind_of
  refine has_of A Sc (fun vs H Q E h => ?_) (fun cdv f A outer s H vs Q E hr h => ?_)
  · unfold spKind at h; split at h; rfl; cases h
  · unfold spKind at h
    split at h
    · rename_i y v
      obtain ⟨r, tl, hv, hS, hb, k⟩ := h
      refine ⟨_, (pss_cons (ps_if (pt_cmpR op_fIsN (fe_var 1) pe_non (nomark _)) (pss_one (ps_ret pe_str)) pss_nil)
      (pss_cons (ps_if (pt_val (pe_callB (call_fIsiA T.kit) (by rfl) T.no_isinstance (by decide +kernel) (pa_cons (fe_var 1) (pa_cons (fe_ty (n := "bool") (by rfl) T.no_bool (by decide +kernel)) pa_nil)))) (pss_one (ps_ret pe_str)) pss_nil)
      (pss_cons (ps_if (pt_val (pe_callB (call_fIsiA T.kit) (by rfl) T.no_isinstance (by decide +kernel) (pa_cons (fe_var 1) (pa_cons (fe_ty (n := "int") (by rfl) T.no_int (by decide +kernel)) pa_nil)))) (pss_one (ps_ret pe_str)) pss_nil)
      (pss_cons (ps_if (pt_val (pe_callB (call_fIsiA T.kit) (by rfl) T.no_isinstance (by decide +kernel) (pa_cons (fe_var 1) (pa_cons (fe_ty (n := "str") (by rfl) T.no_str (by decide +kernel)) pa_nil)))) (pss_one (ps_ret pe_str)) pss_nil)
      (pss_cons (ps_set (i := 2) Sc.nd rfl (.inl rfl) (fe_call H_thing_of (hr.mono (by walk_at "rm")) (by rfl) pass0 (pa_cons (fe_var 0) (pa_cons (fe_var 1) pa_nil))))
      (pss_cons (ps_if (pt_val (pe_callB (call_fIsiO T.kit) (by rfl) T.no_isinstance (by decide +kernel) (pa_cons (fe_var 2) (pa_cons (pe_glob (v := .ref c.Parts) (by rfl) T.mg_Parts rfl) pa_nil)))) (pss_one (ps_ret pe_str)) pss_nil)
      (pss_cons (ps_if (pt_val (pe_callB (call_fIsiO T.kit) (by rfl) T.no_isinstance (by decide +kernel) (pa_cons (fe_var 2) (pa_cons (pe_glob (v := .ref c.Table) (by rfl) T.mg_Table rfl) pa_nil)))) (pss_one (ps_ret pe_str)) pss_nil)
      (pss_cons (ps_if (pt_val (pe_callB (call_fIsiO T.kit) (by rfl) T.no_isinstance (by decide +kernel) (pa_cons (fe_var 2) (pa_cons (pe_glob (v := .ref c.Instance) (by rfl) T.mg_Instance rfl) pa_nil)))) (pss_one (ps_ret pe_str)) pss_nil)
      (pss_cons (ps_if (pt_val (pe_callB (call_fIsiO T.kit) (by rfl) T.no_isinstance (by decide +kernel) (pa_cons (fe_var 2) (pa_cons (pe_glob (v := .ref c.Kin) (by rfl) T.mg_Kin rfl) pa_nil)))) (pss_one (ps_ret pe_str)) pss_nil)
      (pss_one (ps_ret pe_str))))))))))), ?_⟩
      walk_at "fx0"
      have hv0 := hv
      cases r with
      | ob n =>
        obtain ⟨a, rfl, dx, e1⟩ := hv
        obtain ⟨h0, h1⟩ := hb n rfl
        repeat (first | walk_at "oxs" | simp only [e1])
        unfold spThing
        refine ⟨.ob n, hv0, ?_⟩
        obtain ⟨st, ths, et, ht⟩ := hS
        have hn : n = 0 ∨ n = 1 ∨ n = 2 ∨ n = 3 ∨ n = 4 ∨ n = 5 ∨ n = 6 ∨ n = 7 := by omega
        have key : ∀ (j : Nat) (C : Addr), n = (j : Int) → (eight c)[j]? = some C → ∃ b dx fs, atI ths n = some (.ref b) ∧ H b = some (.ins C dx fs) := by
          intro j C hj hC
          obtain ⟨b, d, fs, g1, g2⟩ := ht.get hC
          exact ⟨b, d, fs, by rw [hj]; exact atI_nat g1, g2⟩
        rcases hn with rfl | rfl | rfl | rfl | rfl | rfl | rfl | rfl
        · obtain ⟨b, d, fs, g1, g2⟩ := key 0 _ rfl rfl
          refine ⟨tl, ths, _, st, et, g1, ?_⟩
          repeat (first | walk_at "oxs" | simp only [g2])
          exact k
        · obtain ⟨b, d, fs, g1, g2⟩ := key 1 _ rfl rfl
          refine ⟨tl, ths, _, st, et, g1, ?_⟩
          repeat (first | walk_at "oxs" | simp only [g2])
          exact k
        · obtain ⟨b, d, fs, g1, g2⟩ := key 2 _ rfl rfl
          refine ⟨tl, ths, _, st, et, g1, ?_⟩
          repeat (first | walk_at "oxs" | simp only [g2])
          exact k
        · obtain ⟨b, d, fs, g1, g2⟩ := key 3 _ rfl rfl
          refine ⟨tl, ths, _, st, et, g1, ?_⟩
          repeat (first | walk_at "oxs" | simp only [g2])
          exact k
        · obtain ⟨b, d, fs, g1, g2⟩ := key 4 _ rfl rfl
          refine ⟨tl, ths, _, st, et, g1, ?_⟩
          repeat (first | walk_at "oxs" | simp only [g2])
          exact k
        · obtain ⟨b, d, fs, g1, g2⟩ := key 5 _ rfl rfl
          refine ⟨tl, ths, _, st, et, g1, ?_⟩
          repeat (first | walk_at "oxs" | simp only [g2])
          exact k
        · obtain ⟨b, d, fs, g1, g2⟩ := key 6 _ rfl rfl
          refine ⟨tl, ths, _, st, et, g1, ?_⟩
          repeat (first | walk_at "oxs" | simp only [g2])
          exact k
        · obtain ⟨b, d, fs, g1, g2⟩ := key 7 _ rfl rfl
          refine ⟨tl, ths, _, st, et, g1, ?_⟩
          repeat (first | walk_at "oxs" | simp only [g2])
          exact k
      | bt z =>
        obtain ⟨a, rfl, dx, e1⟩ := hv
        repeat (first | walk_at "oxs" | simp only [e1])
        unfold spThing
        refine ⟨.bt z, hv0, ?_⟩
        repeat (first | walk_at "oxs" | simp only [e1])
        exact k
      | nul => cases hv; repeat (walk_at "oxs"); exact k
      | boo b => cases hv; repeat (walk_at "oxs"); exact k
      | num b => cases hv; repeat (walk_at "oxs"); exact k
      | txt b => cases hv; repeat (walk_at "oxs"); exact k
    · cases h
end

section
variable {P : Program} {w : World} {K : PySem.W.Frag} {mg : Str → Option Value} {base : Heap} {c : Cs}
def spTrue : Sp := fun vs H Q _ => match vs with
  | [x] => ∃ (c : Cs) (r : RV), IsVal c H x r ∧ Q (.bl (match r with | .nul => false | .boo b => b | _ => true)) H
  | _ => False
theorem ok_true (A : At K mg "is_true" "is_true" s_is_true ["value"]) (T : Txt K mg c) : Has P w K mg base CX0 "is_true" 1 ["value"] spTrue := by
  have Sc := sc_is_true
  refine has_of A Sc (fun vs H Q E h => ?_) (fun cdv f A outer s H vs Q E hr h => ?_)
  · unfold spTrue at h; split at h; rfl; cases h
  · unfold spTrue at h
    split at h
    · rename_i x
      obtain ⟨c', r, hv, k⟩ := h
      refine ⟨_, (pss_one (ps_ret (pe_and (pe_cmpR op_fNotN (fe_var 0) pe_non (nomark _)) (pe_one (pe_cmpR op_fNotB (fe_var 0) pe_bl (nomark _)))))), ?_⟩
      walk_at "fx0"
      cases r
      case boo b =>
        cases hv
        repeat (walk_at "oxs")
        cases b <;> exact k
      all_goals first
        | (obtain ⟨a, rfl, dx, e1⟩ := hv
           repeat (walk_at "oxs")
           exact k)
        | (cases hv
           repeat (walk_at "oxs")
           exact k)
    · cases h
def spKey (c : Cs) : Sp := fun vs H Q _ => match vs with
  | [x] => ∃ r : RV, IsVal c H x r ∧ ∀ H1, Same H H1 → Q (.bl (match r with | .bt _ => false | .ob _ => false | _ => true)) H1
  | _ => False
theorem ok_key (A : At K mg "is_key" "is_key" s_is_key ["value"]) (T : Txt K mg c) : Has P w K mg base CX0 "is_key" 1 ["value"] (spKey c) := by
  have Sc := sc_is_key
  refine has_of A Sc (fun vs H Q E h => ?_) (fun cdv f A outer s H vs Q E hr h => ?_)
  · unfold spKey at h; split at h; rfl; cases h
  · unfold spKey at h
    split at h
    · rename_i x
      obtain ⟨r, hv, k⟩ := h
      refine ⟨_, (pss_one (ps_ret (pe_not (pe_callB (call_fIsiP T.kit) (by rfl) T.no_isinstance (by decide +kernel) (pa_cons (fe_var 0) (pa_cons (fe_tup (pa_cons (pe_glob (v := .ref c.Ref) (by rfl) T.mg_Ref rfl) (pa_cons (pe_glob (v := .ref c.Builtin) (by rfl) T.mg_Builtin rfl) pa_nil))) pa_nil)))))), ?_⟩
      walk_at "fx0"
      cases r
      all_goals first
        | (obtain ⟨a, rfl, dx, e1⟩ := hv
           repeat (walk_at "oxs")
           intro p H1 np sm ep
           have e1 := sm _ _ e1
           repeat (first | walk_at "oxs" | simp only [ep] | simp only [e1])
           exact k H1 sm)
        | (cases hv
           repeat (walk_at "oxs")
           intro p H1 np sm ep
           repeat (first | walk_at "oxs" | simp only [ep])
           exact k H1 sm)
    · cases h
def spEqRef (c : Cs) : Sp := fun vs H Q _ => match vs with
  | [.ref a, .ref b] => ∃ n m, IsRef c H a n ∧ IsRef c H b m ∧ Q (.bl (decide (n = m))) H
  | _ => False
theorem ok_eqRef (A : AtM K c.Ref "__eq__" "Ref.__eq__" s_Ref___eq__ ["self", "other"]) (T : Txt K mg c) : HasM P w K mg base CX0 c.Ref "__eq__" 1 ["self", "other"] (spEqRef c) := by
  have Sc := sc_Ref___eq__
  refine hasM_of A Sc (fun vs H Q E h => ?_) (fun cdv f A outer s H vs Q E hr h => ?_)
  · unfold spEqRef at h; split at h; rfl; cases h
  · unfold spEqRef at h
    split at h
    · obtain ⟨n, m, ⟨dx, e1⟩, ⟨dy, e2⟩, k⟩ := h
      refine ⟨_, (pss_one (ps_ret (pe_and (pe_callB (call_fIsiO T.kit) (by rfl) T.no_isinstance (by decide +kernel) (pa_cons (fe_var 1) (pa_cons (pe_glob (v := .ref c.Ref) (by rfl) T.mg_Ref rfl) pa_nil))) (pe_one (pe_cmpR (op_fEq hr.units) (fe_fld (fe_var 0) T.pl_number rfl) (fe_fld (fe_var 1) T.pl_number rfl) (nomark _)))))), ?_⟩
      walk_at "fx0"
      repeat (first | walk_at "oxs" | simp only [e2] | simp only [e1])
      exact k
    · cases h
def spEqBt (c : Cs) : Sp := fun vs H Q _ => match vs with
  | [.ref a, .ref b] => ∃ n m, IsBt c H a n ∧ IsBt c H b m ∧ Q (.bl (decide (n = m))) H
  | _ => False
theorem ok_eqBt (A : AtM K c.Builtin "__eq__" "Builtin.__eq__" s_Builtin___eq__ ["self", "other"]) (T : Txt K mg c) : HasM P w K mg base CX0 c.Builtin "__eq__" 1 ["self", "other"] (spEqBt c) := by
  have Sc := sc_Builtin___eq__
  refine hasM_of A Sc (fun vs H Q E h => ?_) (fun cdv f A outer s H vs Q E hr h => ?_)
  · unfold spEqBt at h; split at h; rfl; cases h
  · unfold spEqBt at h
    split at h
    · obtain ⟨n, m, ⟨dx, e1⟩, ⟨dy, e2⟩, k⟩ := h
      refine ⟨_, (pss_one (ps_ret (pe_and (pe_callB (call_fIsiO T.kit) (by rfl) T.no_isinstance (by decide +kernel) (pa_cons (fe_var 1) (pa_cons (pe_glob (v := .ref c.Builtin) (by rfl) T.mg_Builtin rfl) pa_nil))) (pe_one (pe_cmpR (op_fEq hr.units) (fe_fld (fe_var 0) T.pl_name rfl) (fe_fld (fe_var 1) T.pl_name rfl) (nomark _)))))), ?_⟩
      walk_at "fx0"
      repeat (first | walk_at "oxs" | simp only [e2] | simp only [e1])
      exact k
    · cases h
theorem isOb_st {H : Hp} {y tl : Addr} {m : Str} (h : IsSt c H y tl) (hm : ∀ k ∈ (["things", "output", "lines", "taken"] : List Str), (m == k) = false) : isOb c.Store m (.ref y) H := by
  obtain ⟨dx, ol, ll, tk, e⟩ := h
  have h1 := hm "things" (by simp)
  have h2 := hm "output" (by simp)
  have h3 := hm "lines" (by simp)
  have h4 := hm "taken" (by simp)
  unfold isOb
  dsimp only
  rw [e]
  dsimp only
  refine ⟨rfl, ?_⟩
  simp only [List.lookup_cons, h1, h2, h3, h4, List.lookup_nil]
/-! a store that grows -/
def spMakeS (c : Cs) : Sp := fun vs H Q _ => match vs with
  | [.ref y, .ref x] => ∃ H0 tl cs C dx fs, H0 tl = none ∧ Same H0 H ∧ StoK c H y tl cs ∧ H x = some (.ins C dx fs) ∧ cs.length ≤ 10000 ∧ ∀ r H1, Same H0 H1 → StoK c H1 y tl (cs ++ [C]) → Q (.ref r) H1
  | _ => False
theorem make_S {H_ : Hp} (h : HasM P w K mg base CX0 c.Store "make" 3 ["self", "thing"] (spMake c)) : HasM P w K mg base CX0 c.Store "make" 3 ["self", "thing"] (spMakeS c) := by
  obtain ⟨f, fd, F, B, M⟩ := h.ex
  refine ⟨f, fd, F.imp fun vs H Q E q => ?_, B, M⟩
  unfold spMakeS at q
  split at q
  · rename_i y x
    obtain ⟨H0, tl, cs, C, dx, fs, n0, s0, st, ex, hl, k⟩ := q
    obtain ⟨st, ths, e1, e2⟩ := st
    refine ⟨tl, ths, st, e1, by rw [e2.len]; omega, fun r H1 nr kp e3 er => ?_⟩
    refine k r H1 (same_keep s0 kp (by intro q hq; rw [List.mem_singleton.mp hq]; exact n0)) ⟨?_, _, e3, (e2.keep kp e1).snoc ⟨x, dx, fs, rfl, kp _ _ (fun m => by rw [List.mem_singleton.mp m, e1] at ex; cases ex) ex⟩⟩
    obtain ⟨d2, o2, l2, t2, es⟩ := st
    exact ⟨d2, o2, l2, t2, kp _ _ (fun m => by rw [List.mem_singleton.mp m, e1] at es; cases es) es⟩
  · exact q.elim
def spLStore (c : Cs) : Sp := fun vs H Q _ => match vs with
  | [] => ∀ y tl H1, H tl = none → Same H H1 → StoK c H1 y tl (eight c) → Q (.ref y) H1
  | _ => False
theorem ok_lstore (A : At K mg "_law_store" "_law_store" s_law_store []) (T : Txt K mg c) (M_Store : HasC P w K mg base CX0 c.Store "Store" 3 ["self", "lines"] (spStore K c)) (M_Store_make : HasM P w K mg base CX0 c.Store "make" 3 ["self", "thing"] (spMakeS c))
    (M_Parts : HasC P w K mg base CX0 c.Parts "Parts" 1 ["self", "held"] (spMk_Parts K c)) (M_Table : HasC P w K mg base CX0 c.Table "Table" 1 ["self"] (spMk_Table K c)) (M_Instance : HasC P w K mg base CX0 c.Instance "Instance" 1 ["self", "owner"] (spMk_Instance K c))
    (M_Closure : HasC P w K mg base CX0 c.Closure "Closure" 1 ["self", "number", "wanted", "scope"] (spMk_Closure K c)) (M_Bound : HasC P w K mg base CX0 c.Bound "Bound" 1 ["self", "owner", "function"] (spMk_Bound K c))
    (M_Variable : HasC P w K mg base CX0 c.Variable "Variable" 1 ["self", "value"] (spMk_Variable K c)) (M_Cursor : HasC P w K mg base CX0 c.Cursor "Cursor" 1 ["self", "rest"] (spMk_Cursor K c)) (M_Ref : HasC P w K mg base CX0 c.Ref "Ref" 1 ["self", "number"] (spMk_Ref K c)) :
    Has P w K mg base CX0 "_law_store" 5 [] (spLStore c) := by
  have Sc := sc_law_store
  refine has_of A Sc (fun vs H Q E h => ?_) (fun cdv f A outer s H vs Q E hr h => ?_)
  · unfold spLStore at h; split at h; rfl; cases h
  · unfold spLStore at h
    split at h
    · refine ⟨_, (pss_cons (ps_set (i := 0) Sc.nd rfl (.inl rfl) (fe_make (k := _) M_Store (hr.mono (by walk_at "rm")) (by rfl) pass0 (pa_cons (fe_lst pa_nil) pa_nil)))
      (pss_cons (ps_expr (fe_meth M_Store_make T.cl_Store (hr.mono (by walk_at "rm")) pass0 (fe_var 0) (pa_cons (fe_make (k := _) M_Parts (hr.mono (by walk_at "rm")) (by rfl) pass0 (pa_cons (fe_lst pa_nil) pa_nil)) pa_nil)))
      (pss_cons (ps_expr (fe_meth M_Store_make T.cl_Store (hr.mono (by walk_at "rm")) pass0 (fe_var 0) (pa_cons (fe_make0 M_Table (hr.mono (by walk_at "rm")) (by rfl) pass0) pa_nil)))
      (pss_cons (ps_expr (fe_meth M_Store_make T.cl_Store (hr.mono (by walk_at "rm")) pass0 (fe_var 0) (pa_cons (fe_make (k := _) M_Instance (hr.mono (by walk_at "rm")) (by rfl) pass0 (pa_cons (fe_make (k := _) M_Ref (hr.mono (by walk_at "rm")) (by rfl) pass0 (pa_cons pe_int pa_nil)) pa_nil)) pa_nil)))
      (pss_cons (ps_expr (fe_meth M_Store_make T.cl_Store (hr.mono (by walk_at "rm")) pass0 (fe_var 0) (pa_cons (fe_make (k := _) M_Closure (hr.mono (by walk_at "rm")) (by rfl) pass0 (pa_cons pe_int (pa_cons pe_int (pa_cons (fe_tup pa_nil) pa_nil)))) pa_nil)))
      (pss_cons (ps_expr (fe_meth M_Store_make T.cl_Store (hr.mono (by walk_at "rm")) pass0 (fe_var 0) (pa_cons (fe_make (k := _) M_Bound (hr.mono (by walk_at "rm")) (by rfl) pass0 (pa_cons (fe_make (k := _) M_Ref (hr.mono (by walk_at "rm")) (by rfl) pass0 (pa_cons pe_int pa_nil)) (pa_cons (fe_make (k := _) M_Ref (hr.mono (by walk_at "rm")) (by rfl) pass0 (pa_cons pe_int pa_nil)) pa_nil))) pa_nil)))
      (pss_cons (ps_expr (fe_meth M_Store_make T.cl_Store (hr.mono (by walk_at "rm")) pass0 (fe_var 0) (pa_cons (fe_make (k := _) M_Variable (hr.mono (by walk_at "rm")) (by rfl) pass0 (pa_cons pe_non pa_nil)) pa_nil)))
      (pss_cons (ps_expr (fe_meth M_Store_make T.cl_Store (hr.mono (by walk_at "rm")) pass0 (fe_var 0) (pa_cons (fe_make (k := _) M_Cursor (hr.mono (by walk_at "rm")) (by rfl) pass0 (pa_cons (fe_lst pa_nil) pa_nil)) pa_nil)))
      (pss_one (ps_ret (fe_var 0))))))))))), ?_⟩
      walk_at "fx0"
      walk_at "ox"
      intro p0 H1 np0 s1 ep0
      unfold spStore
      refine ⟨[], rl_l ep0, ?_⟩
      intro y tl k H2 ny ntl nk s2 st etl ⟨kdx, md, ek⟩
      have nt : H tl = none := s1.free ntl
      have S := s1.trans s2
      have St : StoK c H2 y tl [c.Kin] := ⟨st, _, etl, ⟨⟨k, kdx, _, rfl, ek⟩, trivial⟩⟩
      refine ⟨isOb_st St.st (by decide +kernel), ?_⟩
      intro q1 G1 nq1 sq1 eq1
      try unfold spMk_Parts
      refine ⟨[], rl_l eq1, ?_⟩
      intro x1 dx1 pa1 X1 nx1 sx1 ex1 _ _ _
      have t1 := (sq1).trans sx1
      try unfold spMakeS
      refine ⟨H, tl, _, c.Parts, dx1, _, nt, S.trans t1, St.same t1, ex1, by simp, ?_⟩
      clear S St
      intro m1 M1 S St
      refine ⟨isOb_st St.st (by decide +kernel), ?_⟩
      try unfold spMk_Table
      intro x2 dx2 pa2 X2 nx2 sx2 ex2 _ _ _
      have t2 := sx2
      try unfold spMakeS
      refine ⟨H, tl, _, c.Table, dx2, _, nt, S.trans t2, St.same t2, ex2, by simp, ?_⟩
      clear S St
      intro m2 M2 S St
      refine ⟨isOb_st St.st (by decide +kernel), ?_⟩
      try unfold spMk_Ref
      intro ra_3 rda_3 Ra_3 nra_3 sra_3 era_3
      try unfold spMk_Instance
      intro x3 dx3 pa3 X3 nx3 sx3 ex3 _ _ _
      have t3 := (sra_3).trans sx3
      try unfold spMakeS
      refine ⟨H, tl, _, c.Instance, dx3, _, nt, S.trans t3, St.same t3, ex3, by simp, ?_⟩
      clear S St
      intro m3 M3 S St
      refine ⟨isOb_st St.st (by decide +kernel), ?_⟩
      intro q4 G4 nq4 sq4 eq4
      try unfold spMk_Closure
      intro x4 dx4 X4 nx4 sx4 ex4
      have t4 := (sq4).trans sx4
      try unfold spMakeS
      refine ⟨H, tl, _, c.Closure, dx4, _, nt, S.trans t4, St.same t4, ex4, by simp, ?_⟩
      clear S St
      intro m4 M4 S St
      refine ⟨isOb_st St.st (by decide +kernel), ?_⟩
      try unfold spMk_Ref
      intro ra_5 rda_5 Ra_5 nra_5 sra_5 era_5
      try unfold spMk_Ref
      intro rb_5 rdb_5 Rb_5 nrb_5 srb_5 erb_5
      try unfold spMk_Bound
      intro x5 dx5 X5 nx5 sx5 ex5
      have t5 := ((sra_5).trans srb_5).trans sx5
      try unfold spMakeS
      refine ⟨H, tl, _, c.Bound, dx5, _, nt, S.trans t5, St.same t5, ex5, by simp, ?_⟩
      clear S St
      intro m5 M5 S St
      refine ⟨isOb_st St.st (by decide +kernel), ?_⟩
      try unfold spMk_Variable
      intro x6 dx6 X6 nx6 sx6 ex6
      have t6 := sx6
      try unfold spMakeS
      refine ⟨H, tl, _, c.Variable, dx6, _, nt, S.trans t6, St.same t6, ex6, by simp, ?_⟩
      clear S St
      intro m6 M6 S St
      refine ⟨isOb_st St.st (by decide +kernel), ?_⟩
      intro q7 G7 nq7 sq7 eq7
      try unfold spMk_Cursor
      refine ⟨[], rl_l eq7, ?_⟩
      intro x7 dx7 pa7 X7 nx7 sx7 ex7 _ _ _
      have t7 := (sq7).trans sx7
      try unfold spMakeS
      refine ⟨H, tl, _, c.Cursor, dx7, _, nt, S.trans t7, St.same t7, ex7, by simp, ?_⟩
      clear S St
      intro m7 M7 S St
      exact h y tl _ nt S St
    · cases h
end

section
variable {P : Program} {w : World} {K : PySem.W.Frag} {mg : Str → Option Value} {base : Heap} {c : Cs}
theorem strK : (("null" : Str) == "boolean") = false ∧ ¬ (("null" : Str) = "boolean") ∧ (("null" : Str) == "integer") = false ∧ ¬ (("null" : Str) = "integer") ∧ (("null" : Str) == "text") = false ∧ ¬ (("null" : Str) = "text") ∧ (("null" : Str) == "built-in") = false ∧ ¬ (("null" : Str) = "built-in") ∧ (("null" : Str) == "object") = false ∧ ¬ (("null" : Str) = "object") ∧ (("boolean" : Str) == "null") = false ∧ ¬ (("boolean" : Str) = "null") ∧ (("boolean" : Str) == "integer") = false ∧ ¬ (("boolean" : Str) = "integer") ∧ (("boolean" : Str) == "text") = false ∧ ¬ (("boolean" : Str) = "text") ∧ (("boolean" : Str) == "built-in") = false ∧ ¬ (("boolean" : Str) = "built-in") ∧ (("boolean" : Str) == "object") = false ∧ ¬ (("boolean" : Str) = "object") ∧ (("integer" : Str) == "null") = false ∧ ¬ (("integer" : Str) = "null") ∧ (("integer" : Str) == "boolean") = false ∧ ¬ (("integer" : Str) = "boolean") ∧ (("integer" : Str) == "text") = false ∧ ¬ (("integer" : Str) = "text") ∧ (("integer" : Str) == "built-in") = false ∧ ¬ (("integer" : Str) = "built-in") ∧ (("integer" : Str) == "object") = false ∧ ¬ (("integer" : Str) = "object") ∧ (("text" : Str) == "null") = false ∧ ¬ (("text" : Str) = "null") ∧ (("text" : Str) == "boolean") = false ∧ ¬ (("text" : Str) = "boolean") ∧ (("text" : Str) == "integer") = false ∧ ¬ (("text" : Str) = "integer") ∧ (("text" : Str) == "built-in") = false ∧ ¬ (("text" : Str) = "built-in") ∧ (("text" : Str) == "object") = false ∧ ¬ (("text" : Str) = "object") ∧ (("built-in" : Str) == "null") = false ∧ ¬ (("built-in" : Str) = "null") ∧ (("built-in" : Str) == "boolean") = false ∧ ¬ (("built-in" : Str) = "boolean") ∧ (("built-in" : Str) == "integer") = false ∧ ¬ (("built-in" : Str) = "integer") ∧ (("built-in" : Str) == "text") = false ∧ ¬ (("built-in" : Str) = "text") ∧ (("built-in" : Str) == "object") = false ∧ ¬ (("built-in" : Str) = "object") ∧ (("object" : Str) == "null") = false ∧ ¬ (("object" : Str) = "null") ∧ (("object" : Str) == "boolean") = false ∧ ¬ (("object" : Str) = "boolean") ∧ (("object" : Str) == "integer") = false ∧ ¬ (("object" : Str) = "integer") ∧ (("object" : Str) == "text") = false ∧ ¬ (("object" : Str) = "text") ∧ (("object" : Str) == "built-in") = false ∧ ¬ (("object" : Str) = "built-in") := by (repeat' apply And.intro) <;> decide +kernel
def rkS : RV → Str
  | .nul => "null"
  | .boo _ => "boolean"
  | .num _ => "integer"
  | .txt _ => "text"
  | .bt _ => "built-in"
  | .ob _ => "object"
def rtag : RV → V
  | .nul => .non
  | .boo b => .int (if b = true then 1 else 0)
  | .num n => .int n
  | .txt z => .str z
  | .bt z => .str z
  | .ob n => .int n
def rok : RV → Prop
  | .ob n => 0 ≤ n ∧ n < 8
  | _ => True
/-- a drawn row -/
def IsRow (c : Cs) (H : Hp) (p : Addr) (r : RV) : Prop := rok r ∧ ∃ v, H p = some (.tup [.str (rkS r), rtag r, v]) ∧ IsVal c H v r
theorem IsRow.same {H H' : Hp} {p : Addr} {r : RV} (h : IsRow c H p r) (s : Same H H') : IsRow c H' p r := by
  obtain ⟨h0, v, h1, h2⟩ := h
  exact ⟨h0, v, s _ _ h1, h2.same s⟩
theorem IsVal.keep {H H' : Hp} {q : Addr} {xs : List V} {v : V} {r : RV} (h : IsVal c H v r) (k : Keep [q] H H') (e : H q = some (.lst xs)) : IsVal c H' v r := by
  cases r <;> first
    | exact h
    | (obtain ⟨a, ea, dx, h⟩ := h
       exact ⟨a, ea, dx, k _ _ (fun m => by rw [List.mem_singleton.mp m, e] at h; cases h) h⟩)
theorem IsRow.keep {H H' : Hp} {q p : Addr} {xs : List V} {r : RV} (h : IsRow c H p r) (k : Keep [q] H H') (e : H q = some (.lst xs)) : IsRow c H' p r := by
  obtain ⟨h0, v, h1, h2⟩ := h
  exact ⟨h0, v, k _ _ (fun m => by rw [List.mem_singleton.mp m, e] at h1; cases h1) h1, h2.keep k e⟩
def spLKind (c : Cs) : Sp := fun vs H Q _ => match vs with
  | [.ref p] => ∃ r, IsRow c H p r ∧ ∀ H1, Same H H1 → Q (.str (kindS r)) H1
  | _ => False
theorem ok_lkind (A : At K mg "_law_kind" "_law_kind" s_law_kind ["row"]) (T : Txt K mg c) : Has P w K mg base CX0 "_law_kind" 1 ["row"] (spLKind c) := by
  have Sc := sc_law_kind
  refine has_of A Sc (fun vs H Q E h => ?_) (fun cdv f A outer s H vs Q E hr h => ?_)
  · unfold spLKind at h; split at h; rfl; cases h
  · unfold spLKind at h
    split at h
    · rename_i p
      obtain ⟨r, ⟨h0, v, ep, hv⟩, k⟩ := h
      refine ⟨_, (pss_cons (ps_if (pt_cmpR (op_fEq hr.units) (pe_ix ix_fx (fe_var 0) pe_int (fun _ _ => rfl)) pe_str (nomark _)) (pss_one (ps_ret pe_str)) pss_nil)
      (pss_cons (ps_if (pt_cmpR (op_fEq hr.units) (pe_ix ix_fx (fe_var 0) pe_int (fun _ _ => rfl)) pe_str (nomark _)) (pss_one (ps_ret (pe_ix ix_fx (fe_tup (pa_cons pe_str (pa_cons pe_str (pa_cons pe_str (pa_cons pe_str (pa_cons pe_str (pa_cons pe_str (pa_cons pe_str (pa_cons pe_str pa_nil))))))))) (pe_ix ix_fx (fe_var 0) pe_int (fun _ _ => rfl)) (fun _ _ => rfl)))) pss_nil)
      (pss_one (ps_ret (pe_ix ix_fx (fe_var 0) pe_int (fun _ _ => rfl)))))), ?_⟩
      walk_at "fx0"
      walk_at "ox"
      refine cut_ fun N hN => ifs_ ?_
      walk_at "ox"
      refine ⟨_, rl_t ep, _, atI_nat (j := 0) rfl, ?_⟩
      cases r
      all_goals (simp only [rkS, rtag] at ep ⊢; walk_at "ox")
      all_goals (try simp only [strK, if_false, if_true])
      case bt => exact k H (Same.refl _)
      all_goals (refine hN _ _ ?_; clear hN N; walk_at "ox"; refine cut_ fun N hN => ifs_ ?_; walk_at "ox"; refine ⟨_, rl_t ep, _, atI_nat (j := 0) rfl, ?_⟩; walk_at "ox"; try simp only [strK, if_false, if_true])
      case ob n =>
        intro t H1 nt sm et
        obtain ⟨n0, n1⟩ := h0
        have hn : n = 0 ∨ n = 1 ∨ n = 2 ∨ n = 3 ∨ n = 4 ∨ n = 5 ∨ n = 6 ∨ n = 7 := by omega
        refine ⟨_, rl_t (sm _ _ ep), _, atI_nat (j := 1) rfl, ?_⟩
        have k := k H1 sm
        rcases hn with rfl | rfl | rfl | rfl | rfl | rfl | rfl | rfl <;> exact ⟨_, rl_t et, _, rfl, k⟩
      all_goals (refine hN _ _ ?_; walk_at "ox"; refine ⟨_, rl_t ep, _, atI_nat (j := 0) rfl, ?_⟩; exact k H (Same.refl _))
    · cases h
def spLValue (K : PySem.W.Frag) (c : Cs) : Sp := fun vs H Q _ => match vs with
  | [.ref s] => ∃ H0 sc ns, Dr K H0 s sc ns H ∧ ∀ p H1 r, Keep [s] H H1 → Dr K H0 s sc ns H1 → IsRow c H1 p r → Q (.ref p) H1
  | _ => False
theorem ok_lvalue (A : At K mg "_law_value" "_law_value" s_law_value ["state"]) (T : Txt K mg c) (H_law_draw : Has P w K mg base CX0 "_law_draw" 2 ["state", "many"] (spDraw K)) (H_law_pick : Has P w K mg base CX0 "_law_pick" 3 ["state", "row"] (spPick K))
    (M_Builtin : HasC P w K mg base CX0 c.Builtin "Builtin" 1 ["self", "name"] (spMk_Builtin K c)) (M_Ref : HasC P w K mg base CX0 c.Ref "Ref" 1 ["self", "number"] (spMk_Ref K c)) : Has P w K mg base CX0 "_law_value" 4 ["state"] (spLValue K c) := by
  have Sc := sc_law_value
  refine has_of A Sc (fun vs H Q E h => ?_) (fun cdv f A outer s H vs Q E hr h => ?_)
  · unfold spLValue at h; split at h; rfl; cases h
  · unfold spLValue at h
    split at h
    · rename_i st
      obtain ⟨H0, sc, ns, D, k⟩ := h
      refine ⟨_, (pss_cons (ps_set (i := 1) Sc.nd rfl (.inl rfl) (fe_call H_law_draw (hr.mono (by walk_at "rm")) (by rfl) pass0 (pa_cons (fe_var 0) (pa_cons pe_int pa_nil))))
      (pss_cons (ps_if (pt_cmpR (op_fEq hr.units) (fe_var 1) pe_int (nomark _)) (pss_one (ps_ret (fe_tup (pa_cons pe_str (pa_cons pe_non (pa_cons pe_non pa_nil)))))) pss_nil)
      (pss_cons (ps_if (pt_cmpR (op_fEq hr.units) (fe_var 1) pe_int (nomark _)) (pss_cons (ps_set (i := 2) Sc.nd rfl (.inl rfl) (fe_call H_law_draw (hr.mono (by walk_at "rm")) (by rfl) pass0 (pa_cons (fe_var 0) (pa_cons pe_int pa_nil))))
      (pss_one (ps_ret (fe_tup (pa_cons pe_str (pa_cons (fe_var 2) (pa_cons (pe_cmpR (op_fEq hr.units) (fe_var 2) pe_int (nomark _)) pa_nil))))))) pss_nil)
      (pss_cons (ps_if (pt_cmpR (op_fEq hr.units) (fe_var 1) pe_int (nomark _)) (pss_cons (ps_set (i := 3) Sc.nd rfl (.inl rfl) (fe_call H_law_pick (hr.mono (by walk_at "rm")) (by rfl) pass0 (pa_cons (fe_var 0) (pa_cons (fe_tup (pa_cons pe_int (pa_cons pe_int (pa_cons (pe_un un_fNeg pe_int) (pa_cons pe_int (pa_cons (fe_call H_law_draw (hr.mono (by walk_at "rm")) (by rfl) pass0 (pa_cons (fe_var 0) (pa_cons pe_int pa_nil))) pa_nil)))))) pa_nil))))
      (pss_one (ps_ret (fe_tup (pa_cons pe_str (pa_cons (fe_var 3) (pa_cons (fe_var 3) pa_nil))))))) pss_nil)
      (pss_cons (ps_if (pt_cmpR (op_fEq hr.units) (fe_var 1) pe_int (nomark _)) (pss_cons (ps_set (i := 4) Sc.nd rfl (.inl rfl) (pe_op op_fMul (fe_call H_law_pick (hr.mono (by walk_at "rm")) (by rfl) pass0 (pa_cons (fe_var 0) (pa_cons (fe_tup (pa_cons pe_str (pa_cons pe_str (pa_cons pe_str (pa_cons pe_str (pa_cons pe_str (pa_cons pe_str pa_nil))))))) pa_nil))) (pe_op op_fAdd pe_int (fe_call H_law_draw (hr.mono (by walk_at "rm")) (by rfl) pass0 (pa_cons (fe_var 0) (pa_cons pe_int pa_nil))))))
      (pss_one (ps_ret (fe_tup (pa_cons pe_str (pa_cons (fe_var 4) (pa_cons (fe_var 4) pa_nil))))))) pss_nil)
      (pss_cons (ps_if (pt_cmpR (op_fEq hr.units) (fe_var 1) pe_int (nomark _)) (pss_cons (ps_set (i := 5) Sc.nd rfl (.inl rfl) (fe_call H_law_pick (hr.mono (by walk_at "rm")) (by rfl) pass0 (pa_cons (fe_var 0) (pa_cons (fe_gtup (by rfl) T.g_BUILTINS) pa_nil))))
      (pss_one (ps_ret (fe_tup (pa_cons pe_str (pa_cons (fe_var 5) (pa_cons (fe_make (k := _) M_Builtin (hr.mono (by walk_at "rm")) (by rfl) pass0 (pa_cons (fe_var 5) pa_nil)) pa_nil))))))) pss_nil)
      (pss_cons (ps_set (i := 3) Sc.nd rfl (.inl rfl) (fe_call H_law_pick (hr.mono (by walk_at "rm")) (by rfl) pass0 (pa_cons (fe_var 0) (pa_cons (fe_tup (pa_cons pe_int (pa_cons pe_int (pa_cons pe_int (pa_cons pe_int (pa_cons pe_int (pa_cons pe_int (pa_cons pe_int pa_nil)))))))) pa_nil))))
      (pss_one (ps_ret (fe_tup (pa_cons pe_str (pa_cons (fe_var 3) (pa_cons (fe_make (k := _) M_Ref (hr.mono (by walk_at "rm")) (by rfl) pass0 (pa_cons (fe_var 3) pa_nil)) pa_nil))))))))))))), ?_⟩
      walk_at "fx0"
      walk_at "ox"
      try unfold spDraw
      refine ⟨H0, sc, ns, D, by decide, by decide, fun H1 d kp D1 d0 d1 => ?_⟩
      walk_at "ox"
      refine cut_ fun N hN => ifs_ ?_
      walk_at "ox"
      have dk := D1
      by_cases k0 : d = 0
      · rw [if_pos k0]
        intro p H2 np sm ep
        exact k p H2 .nul (kp.trans (Keep.of sm)) (D1.same sm) ⟨trivial, _, ep, rfl⟩
      rw [if_neg k0]
      refine hN _ _ ?_
      clear hN N
      walk_at "ox"
      refine cut_ fun N hN => ifs_ ?_
      walk_at "ox"
      by_cases k1 : d = 1
      · rw [if_pos k1]
        try unfold spDraw
        refine ⟨H0, sc, ns, D1, fun H2 d2 kp2 D2 e0 e1 => ?_⟩
        walk_at "ox"
        intro p H3 np sm ep
        have hd : d2 = 0 ∨ d2 = 1 := by omega
        refine k p H3 (.boo (decide (d2 = 1))) ((kp.trans kp2).trans (Keep.of sm)) (D2.same sm) ⟨trivial, _, ?_, rfl⟩
        rw [ep]
        rcases hd with rfl | rfl <;> rfl
      rw [if_neg k1]
      refine hN _ _ ?_
      clear hN N
      walk_at "ox"
      refine cut_ fun N hN => ifs_ ?_
      walk_at "ox"
      by_cases k2 : d = 2
      · rw [if_pos k2]
        try unfold spDraw
        refine ⟨H0, sc, ns, D1, fun H2 d2 kp2 D2 e0 e1 => ?_⟩
        walk_at "ox"
        intro t H3 nt sm3 et
        try unfold spPick
        obtain ⟨x2, j2, es2, _, _⟩ := (D2.same sm3).st
        refine ⟨H0, sc, ns, _, D2.same sm3, fun H4 kp4 => rl_t (kp4 _ _ (fun m => by rw [List.mem_singleton.mp m, es2] at et; cases et) et), by simp, by simp, fun H4 v kp4 D4 hv => ?_⟩
        have : ∃ n : Int, v = .int n := by
          simp only [List.mem_cons, List.not_mem_nil, or_false] at hv
          rcases hv with rfl | rfl | rfl | rfl | rfl <;> exact ⟨_, rfl⟩
        obtain ⟨n, rfl⟩ := this
        walk_at "ox"
        intro p H5 np sm5 ep
        exact k p H5 (.num n) ((((kp.trans kp2).trans (Keep.of sm3)).trans kp4).trans (Keep.of sm5)) (D4.same sm5) ⟨trivial, _, ep, rfl⟩
      rw [if_neg k2]
      refine hN _ _ ?_
      clear hN N
      walk_at "ox"
      refine cut_ fun N hN => ifs_ ?_
      walk_at "ox"
      by_cases k3 : d = 3
      · rw [if_pos k3]
        intro t H3 nt sm3 et
        try unfold spPick
        obtain ⟨x2, j2, es2, _, _⟩ := (D1.same sm3).st
        refine ⟨H0, sc, ns, _, D1.same sm3, fun H4 kp4 => rl_t (kp4 _ _ (fun m => by rw [List.mem_singleton.mp m, es2] at et; cases et) et), by decide, by simp, fun H4 v kp4 D4 hv => ?_⟩
        have : ∃ z : Str, v = .str z ∧ z ∈ (["", "0", "1", "a", "null", "print"] : List Str) := by
          simp only [List.mem_cons, List.not_mem_nil, or_false] at hv
          rcases hv with rfl | rfl | rfl | rfl | rfl | rfl <;> exact ⟨_, rfl, by simp⟩
        obtain ⟨z, rfl, hz⟩ := this
        try unfold spDraw
        refine ⟨H0, sc, ns, D4, fun H5 d5 kp5 D5 e0 e1 => ?_⟩
        walk_at "ox"
        have hd : d5 = 0 ∨ d5 = 1 ∨ d5 = 2 := by omega
        have mk : MulOk z (1 + d5) := by
          have all : ∀ z ∈ (["", "0", "1", "a", "null", "print"] : List Str), MulOk z 1 ∧ MulOk z 2 ∧ MulOk z 3 := by unfold MulOk; decide +kernel
          have := all z hz
          rcases hd with rfl | rfl | rfl
          · exact this.1
          · exact this.2.1
          · exact this.2.2
        refine ⟨mk, ?_⟩
        intro p H6 np sm6 ep
        exact k p H6 (.txt (Txt.mul z (1 + d5))) ((((kp.trans (Keep.of sm3)).trans kp4).trans kp5).trans (Keep.of sm6)) (D5.same sm6) ⟨trivial, _, ep, rfl⟩
      rw [if_neg k3]
      refine hN _ _ ?_
      clear hN N
      walk_at "ox"
      refine cut_ fun N hN => ifs_ ?_
      walk_at "ox"
      by_cases k4 : d = 4
      · rw [if_pos k4]
        intro t et
        try unfold spPick
        refine ⟨H0, sc, ns, _, D1, fun H4 kp4 => .inr (et H4), by decide, by simp, fun H4 v kp4 D4 hv => ?_⟩
        have : ∃ z : Str, v = .str z := by
          simp only [List.mem_cons, List.not_mem_nil, or_false] at hv
          (repeat' rcases hv with rfl | hv) <;> exact ⟨_, rfl⟩
        obtain ⟨z, rfl⟩ := this
        walk_at "ox"
        try unfold spMk_Builtin
        intro b bd H5 nb sm5 eb
        walk_at "ox"
        intro p H6 np sm6 ep
        exact k p H6 (.bt z) (((kp.trans kp4).trans (Keep.of sm5)).trans (Keep.of sm6)) ((D4.same sm5).same sm6) ⟨trivial, _, ep, b, rfl, bd, sm6 _ _ eb⟩
      rw [if_neg k4]
      refine hN _ _ ?_
      clear hN N
      walk_at "ox"
      intro t H3 nt sm3 et
      try unfold spPick
      obtain ⟨x2, j2, es2, _, _⟩ := (D1.same sm3).st
      refine ⟨H0, sc, ns, _, D1.same sm3, fun H4 kp4 => rl_t (kp4 _ _ (fun m => by rw [List.mem_singleton.mp m, es2] at et; cases et) et), by decide, by simp, fun H4 v kp4 D4 hv => ?_⟩
      have : ∃ n : Int, v = .int n ∧ 0 ≤ n ∧ n < 8 := by
        simp only [List.mem_cons, List.not_mem_nil, or_false] at hv
        rcases hv with rfl | rfl | rfl | rfl | rfl | rfl | rfl <;> exact ⟨_, rfl, by decide, by decide⟩
      obtain ⟨n, rfl, n0, n1⟩ := this
      walk_at "ox"
      try unfold spMk_Ref
      intro b bd H5 nb sm5 eb
      walk_at "ox"
      intro p H6 np sm6 ep
      exact k p H6 (.ob n) (((kp.trans (Keep.of sm3)).trans kp4).trans ((Keep.of sm5).trans (Keep.of sm6))) ((D4.same sm5).same sm6) ⟨⟨n0, n1⟩, _, ep, b, rfl, bd, sm6 _ _ eb⟩
    · cases h
def spTwo (K : PySem.W.Frag) (c : Cs) : Sp := fun vs H Q _ => match vs with
  | [.ref p, .ref q] => ∃ r s, IsRow c H p r ∧ IsRow c H q s ∧ ∀ H1, Same H H1 → Q (.bl true) H1
  | _ => False
theorem ok_two (A : At K mg "_law_two" "_law_two" s_law_two ["one", "two"]) (T : Txt K mg c) (H_equal : Has P w K mg base CX0 "equal" 1 ["x", "y"] (spEqual c))
    (M_Ref___eq__ : HasM P w K mg base CX0 c.Ref "__eq__" 1 ["self", "other"] (spEqRef c)) (M_Builtin___eq__ : HasM P w K mg base CX0 c.Builtin "__eq__" 1 ["self", "other"] (spEqBt c)) : Has P w K mg base CX0 "_law_two" 2 ["one", "two"] (spTwo K c) := by
  have Sc := sc_law_two
  refine has_of A Sc (fun vs H Q E h => ?_) (fun cdv f A outer s H vs Q E hr h => ?_)
  · unfold spTwo at h; split at h; rfl; cases h
  · unfold spTwo at h
    split at h
    · rename_i p q
      obtain ⟨r, s, ⟨h0, v, ep, hv⟩, ⟨g0, u, eq, hu⟩, k⟩ := h
      refine ⟨_, (pss_cons (ps_set (i := 2) Sc.nd rfl (.inl rfl) (fe_call H_equal (hr.mono (by walk_at "rm")) (by rfl) pass0 (pa_cons (pe_ix ix_fx (fe_var 0) pe_int (fun _ _ => rfl)) (pa_cons (pe_ix ix_fx (fe_var 1) pe_int (fun _ _ => rfl)) pa_nil))))
      (pss_cons (ps_set (i := 3) Sc.nd rfl (.inl rfl) (fe_call H_equal (hr.mono (by walk_at "rm")) (by rfl) pass0 (pa_cons (pe_ix ix_fx (fe_var 1) pe_int (fun _ _ => rfl)) (pa_cons (pe_ix ix_fx (fe_var 0) pe_int (fun _ _ => rfl)) pa_nil))))
      (pss_cons (ps_set (i := 4) Sc.nd rfl (.inl rfl) (pe_and (pe_cmpR (op_fEq hr.units) (pe_ix ix_fx (fe_var 0) pe_int (fun _ _ => rfl)) (pe_ix ix_fx (fe_var 1) pe_int (fun _ _ => rfl)) (nomark _)) (pe_one (pe_cmpR (op_fEq hr.units) (pe_ix ix_fx (fe_var 0) pe_int (fun _ _ => rfl)) (pe_ix ix_fx (fe_var 1) pe_int (fun _ _ => rfl)) (nomark _)))))
      (pss_cons (ps_if (PW.pt (pw_or (pt_not (pt_val (pe_callB (call_fIsiA T.kit) (by rfl) T.no_isinstance (by decide +kernel) (pa_cons (fe_var 2) (pa_cons (fe_ty (n := "bool") (by rfl) T.no_bool (by decide +kernel)) pa_nil))))) (pw_or (pt_not (pt_val (pe_callB (call_fIsiA T.kit) (by rfl) T.no_isinstance (by decide +kernel) (pa_cons (fe_var 3) (pa_cons (fe_ty (n := "bool") (by rfl) T.no_bool (by decide +kernel)) pa_nil))))) (pw_or (pt_cmpR (op_fNe hr.units) (fe_var 2) (fe_var 4) (nomark _)) (pw_or1 (pt_cmpR (op_fNe hr.units) (fe_var 3) (fe_var 4) (nomark _))))))) (pss_one (ps_ret pe_bl)) pss_nil)
      (pss_cons (ps_if (PW.pt (pw_and (pt_cmpR (op_fEq hr.units) (pe_ix ix_fx (fe_var 0) pe_int (fun _ _ => rfl)) (pe_ix ix_fx (fe_var 1) pe_int (fun _ _ => rfl)) (nomark _)) (pw_and1 (pt_cmpR op_fIn (pe_ix ix_fx (fe_var 0) pe_int (fun _ _ => rfl)) (fe_tup (pa_cons pe_str (pa_cons pe_str pa_nil))) (by with_unfolding_all rfl))))) (pss_one (ps_ret (pe_cmpR (op_fEq hr.units) (pe_cmpR (op_fOr (op_fEqO M_Ref___eq__ (hr.mono (by walk_at "rm")) pass0) (op_fOr (op_fEqO M_Builtin___eq__ (hr.mono (by walk_at "rm")) pass0) (op_fEq hr.units))) (pe_ix ix_fx (fe_var 0) pe_int (fun _ _ => rfl)) (pe_ix ix_fx (fe_var 1) pe_int (fun _ _ => rfl)) (nomark _)) (fe_var 4) (nomark _)))) pss_nil)
      (pss_one (ps_ret pe_bl))))))), ?_⟩
      walk_at "fx0"
      walk_at "ox"
      refine ⟨_, rl_t ep, _, atI_nat (j := 2) rfl, _, rl_t eq, _, atI_nat (j := 2) rfl, ?_⟩
      try unfold spEqual
      refine ⟨r, s, hv, hu, fun H1 sm1 => ?_⟩
      walk_at "ox"
      have ep1 := sm1 _ _ ep
      have eq1 := sm1 _ _ eq
      refine ⟨_, rl_t eq1, _, atI_nat (j := 2) rfl, _, rl_t ep1, _, atI_nat (j := 2) rfl, s, hu.same sm1, r, hv.same sm1, fun H2 sm2 => ?_⟩
      have ep2 := sm2 _ _ ep1
      have eq2 := sm2 _ _ eq1
      have k := fun H1 h => k H1 ((sm1.trans sm2).trans h)
      refine ⟨_, rl_t ep2, _, atI_nat (j := 0) rfl, _, rl_t eq2, _, atI_nat (j := 0) rfl, ?_⟩
      walk_at "ox"
      have hdue : (rkS r = rkS s ∧ rtag r = rtag s) ↔ r = s := by
        cases r <;> cases s <;> simp [rkS, rtag, strK]
        rename_i a b
        cases a <;> cases b <;> simp
      have ein : ∀ r : RV, inV (V.str (rkS r)) [V.str (Str.ofString "built-in"), V.str (Str.ofString "object")] = (match r with | .bt _ => true | .ob _ => true | _ => false) := by intro r; cases r <;> (dsimp only [rkS]; decide +kernel)
      have hscal : ∀ r s : RV, scal (rtag r) (rtag s) = true := by intro r s; cases r <;> cases s <;> rfl
      by_cases hrs : r = s
      · subst hrs
        simp only [decide_true, if_true]
        refine ⟨_, rl_t ep2, _, atI_nat (j := 1) rfl, _, rl_t eq2, _, atI_nat (j := 1) rfl, ?_⟩
        have hs2 := hscal r r
        unfold scal at hs2
        rw [if_pos hs2]
        simp only [decide_true]
        refine cut_ fun N hN => ifs_ ?_
        repeat (walk_at "oxs")
        refine hN _ _ ?_
        clear hN N
        walk_at "ox"
        refine cut_ fun N hN => ifs_ ?_
        walk_at "ox"
        refine ⟨_, rl_t ep2, _, atI_nat (j := 0) rfl, _, rl_t eq2, _, atI_nat (j := 0) rfl, ?_⟩
        walk_at "ox"
        refine ⟨_, rl_t ep2, _, atI_nat (j := 0) rfl, ?_⟩
        intro t H3 nt s3 et
        refine ⟨_, rl_t et, rfl, rfl, ?_⟩
        have hv3 := (hv.same sm1).same (sm2.trans s3)
        have hu3 := (hu.same sm1).same (sm2.trans s3)
        have k3 := k H3 s3
        rw [ein]
        cases r
        case bt z =>
          obtain ⟨a, rfl, dx, e1⟩ := hv3
          obtain ⟨b, rfl, dy, e2⟩ := hu3
          rw [if_pos rfl]
          refine ⟨_, rl_t (s3 _ _ ep2), _, atI_nat (j := 2) rfl, _, rl_t (s3 _ _ eq2), _, atI_nat (j := 2) rfl, .inr (.inl ⟨by simp only [e1], by simp only [e2], z, z, ⟨dx, e1⟩, ⟨dy, e2⟩, ?_⟩)⟩
          simp
          exact k3
        case ob z =>
          obtain ⟨a, rfl, dx, e1⟩ := hv3
          obtain ⟨b, rfl, dy, e2⟩ := hu3
          rw [if_pos rfl]
          refine ⟨_, rl_t (s3 _ _ ep2), _, atI_nat (j := 2) rfl, _, rl_t (s3 _ _ eq2), _, atI_nat (j := 2) rfl, .inl ⟨by simp only [e1], by simp only [e2], z, z, ⟨dx, e1⟩, ⟨dy, e2⟩, ?_⟩⟩
          simp
          exact k3
        all_goals
          simp only [if_false, Bool.false_eq_true]
          refine hN _ _ ?_
          walk_at "ox"
          exact k3
      · have d1 : decide (r = s) = false := decide_eq_false hrs
        have d2 : decide (s = r) = false := decide_eq_false fun h => hrs h.symm
        simp only [d1, d2]
        by_cases hk : rkS r = rkS s
        · rw [if_pos hk]
          refine ⟨_, rl_t ep2, _, atI_nat (j := 1) rfl, _, rl_t eq2, _, atI_nat (j := 1) rfl, ?_⟩
          have hs2 := hscal r s
          unfold scal at hs2
          rw [if_pos hs2]
          have d3 : decide (rtag r = rtag s) = false := decide_eq_false fun h => hrs (hdue.mp ⟨hk, h⟩)
          simp only [d3]
          refine cut_ fun N hN => ifs_ ?_
          repeat (walk_at "oxs")
          refine hN _ _ ?_
          clear hN N
          walk_at "ox"
          refine cut_ fun N hN => ifs_ ?_
          walk_at "ox"
          refine ⟨_, rl_t ep2, _, atI_nat (j := 0) rfl, _, rl_t eq2, _, atI_nat (j := 0) rfl, ?_⟩
          walk_at "ox"
          rw [if_pos hk]
          refine ⟨_, rl_t ep2, _, atI_nat (j := 0) rfl, ?_⟩
          intro t H3 nt s3 et
          refine ⟨_, rl_t et, rfl, rfl, ?_⟩
          have hv3 := (hv.same sm1).same (sm2.trans s3)
          have hu3 := (hu.same sm1).same (sm2.trans s3)
          have k3 := k H3 s3
          rw [ein]
          cases r <;> cases s
          case bt.bt z z' =>
            obtain ⟨a, rfl, dx, e1⟩ := hv3
            obtain ⟨b, rfl, dy, e2⟩ := hu3
            have hz : ¬ z = z' := fun h => hrs (by rw [h])
            rw [if_pos rfl]
            refine ⟨_, rl_t (s3 _ _ ep2), _, atI_nat (j := 2) rfl, _, rl_t (s3 _ _ eq2), _, atI_nat (j := 2) rfl, .inr (.inl ⟨by simp only [e1], by simp only [e2], z, z', ⟨dx, e1⟩, ⟨dy, e2⟩, ?_⟩)⟩
            simp [hz]
            exact k3
          case ob.ob z z' =>
            obtain ⟨a, rfl, dx, e1⟩ := hv3
            obtain ⟨b, rfl, dy, e2⟩ := hu3
            have hz : ¬ z = z' := fun h => hrs (by rw [h])
            rw [if_pos rfl]
            refine ⟨_, rl_t (s3 _ _ ep2), _, atI_nat (j := 2) rfl, _, rl_t (s3 _ _ eq2), _, atI_nat (j := 2) rfl, .inl ⟨by simp only [e1], by simp only [e2], z, z', ⟨dx, e1⟩, ⟨dy, e2⟩, ?_⟩⟩
            simp [hz]
            exact k3
          all_goals first
            | (exfalso; revert hk; simp [rkS, strK]; done)
            | (simp only [if_false, Bool.false_eq_true]
               refine hN _ _ ?_
               walk_at "ox"
               exact k3)
        · rw [if_neg hk]
          refine cut_ fun N hN => ifs_ ?_
          repeat (walk_at "oxs")
          refine hN _ _ ?_
          clear hN N
          walk_at "ox"
          refine cut_ fun N hN => ifs_ ?_
          walk_at "ox"
          refine ⟨_, rl_t ep2, _, atI_nat (j := 0) rfl, _, rl_t eq2, _, atI_nat (j := 0) rfl, ?_⟩
          walk_at "ox"
          rw [if_neg hk]
          refine hN _ _ ?_
          walk_at "ox"
          exact k _ (Same.refl _)
    · cases h
end

section
variable {P : Program} {w : World} {K : PySem.W.Frag} {mg : Str → Option Value} {base : Heap} {c : Cs}
def spLaw (K : PySem.W.Frag) : Sp := fun vs H Q _ => ∃ (a : Addr) (ns : List Int), vs = [.ref a] ∧ SqL K H a (ns.map V.int) ∧ ns.length ≤ 63 ∧ (∀ z ∈ ns, Builtin.Int.intBits z ≤ 1048576) ∧ ∀ H', Q (.bl true) H'
theorem dp_strs {H : Hp} : ∀ zs : List Str, DpAll K H (zs.map V.str) (zs.map PyData.str)
  | [] => .nil
  | z :: zs => .cons (.str z) (dp_strs zs)
def BI : List Str := ["print", "read", "str", "int", "len", "range", "kind", "abs", "min", "max", "pow", "gcd", "sqrt", "base", "parse", "char", "assert", "copy", "equals"]
theorem bi_ok : okd (.tuple (BI.map PyData.str)) = true ∧ PyData.eqv (.tuple (BI.map PyData.str)) (.tuple (BI.map PyData.str)) = true := ⟨by decide +kernel, SeqAt.eqv_refl_plain _ (by decide +kernel)⟩
theorem in_kinds (r : RV) : inV (V.str (rkS r)) [V.str (Str.ofString "built-in"), V.str (Str.ofString "object")] = (match r with | .bt _ => true | .ob _ => true | _ => false) := by cases r <;> (dsimp only [rkS]; decide +kernel)
structure LcI (K : PySem.W.Frag) (c : Cs) (H : Hp) (s a : Addr) (ns : List Int) (y tl DD : Addr) (i : Nat) (H' : Hp) : Prop where
  ps : ∃ ps : List Addr, H' DD = some (.lst (ps.map V.ref)) ∧ (∀ p ∈ ps, ∃ r, IsRow c H' p r) ∧ ps.length = i
  dr : Dr K H s a ns H'
  st : StoK c H' y tl (eight c)
set_option maxHeartbeats 16000000 in
theorem law_has {fa : Addr} {fd : FuncData} (F : Fun K "law" "law" s_law fa fd) (T : Txt K mg c) (H_law_begin : Has P w K mg base CX0 "_law_begin" 1 ["script", "k"] (spBegin K)) (H_law_store : Has P w K mg base CX0 "_law_store" 5 [] (spLStore c))
    (H_law_value : Has P w K mg base CX0 "_law_value" 4 ["state"] (spLValue K c)) (H_law_two : Has P w K mg base CX0 "_law_two" 2 ["one", "two"] (spTwo K c)) (H_is_true : Has P w K mg base CX0 "is_true" 1 ["value"] spTrue)
    (H_is_key : Has P w K mg base CX0 "is_key" 1 ["value"] (spKey c)) (H_kind_of : Has P w K mg base CX0 "kind_of" 3 ["store", "value"] (spKind c)) (H_law_kind : Has P w K mg base CX0 "_law_kind" 1 ["row"] (spLKind c))
    (M_Ref : HasC P w K mg base CX0 c.Ref "Ref" 1 ["self", "number"] (spMk_Ref K c)) (M_Builtin : HasC P w K mg base CX0 c.Builtin "Builtin" 1 ["self", "name"] (spMk_Builtin K c))
    (M_Ref___eq__ : HasM P w K mg base CX0 c.Ref "__eq__" 1 ["self", "other"] (spEqRef c)) (M_Builtin___eq__ : HasM P w K mg base CX0 c.Builtin "__eq__" 1 ["self", "other"] (spEqBt c)) : FnOk P w K mg base CX0 6 fa fd ["script"] (spLaw K) := by
  have Sc := sc_law
  refine F.ok Sc (fun vs H Q E h => ?_) (fun cdv A outer s H vs Q E hr h => ?_)
  · obtain ⟨a, ns, rfl, _⟩ := h; rfl
  · obtain ⟨a, ns, rfl, hS, hn, hb, k⟩ := h
    refine ⟨_, (pss_cons (ps_if (pt_cmpR (op_fNe hr.units) (fe_gtup (by rfl) T.g_BUILTINS) (fe_tup (pa_cons pe_str (pa_cons pe_str (pa_cons pe_str (pa_cons pe_str (pa_cons pe_str (pa_cons pe_str (pa_cons pe_str (pa_cons pe_str (pa_cons pe_str (pa_cons pe_str (pa_cons pe_str (pa_cons pe_str (pa_cons pe_str (pa_cons pe_str (pa_cons pe_str (pa_cons pe_str (pa_cons pe_str (pa_cons pe_str (pa_cons pe_str pa_nil)))))))))))))))))))) (nomark _)) (pss_one (ps_ret pe_bl)) pss_nil)
      (pss_cons (ps_set (i := 1) Sc.nd rfl (.inr rfl) (fe_call H_law_begin (hr.mono (by walk_at "rm")) (by rfl) pass0 (pa_cons (fe_var 0) (pa_cons pe_int pa_nil))))
      (pss_cons (ps_set (i := 2) Sc.nd rfl (.inl rfl) (fe_call0 H_law_store (hr.mono (by walk_at "rm")) (by rfl) pass0))
      (pss_cons (ps_setLc (i := 3) (own := [("k", 8)]) (by rfl) Sc.nd rfl rfl (sw_true rfl rfl rfl (by decide +kernel)) (pi_range1 (by rfl) T.no_range (pa_cons (pe_callB (call_fMin rfl) (by rfl) T.no_min (by decide +kernel) (pa_cons pe_int (pa_cons (pe_callB (call_fMax rfl) (by rfl) T.no_max (by decide +kernel) (pa_cons pe_int (pa_cons (pe_callB call_fLen (by rfl) T.no_len (by decide +kernel) (pa_cons (fe_var 0) pa_nil)) pa_nil))) pa_nil))) pa_nil)) (blkOk_by (own := [("k", 8)]) (N := ["script", "state", "store", "rows", "one", "two", "told", "due", "k"]) (sc := defScope s_law) (by decide +kernel)) (fun _ _ _ _ _ => (pg_name (i := 8) Sc.nd rfl (.inl rfl))) (fun _ _ _ _ _ => pts_nil) (fun _ _ _ _ _ => (fe_call H_law_value (hr.mono (by walk_at "rm")) (by rfl) pass0 (pa_cons (fe_var 1) pa_nil))))
      (pss_cons (ps_for PassesOwn.never rfl (pi_list (fe_var 3)) (pg_name (i := 4) Sc.nd rfl (.inl rfl)) (pss_cons (ps_for PassesOwn.never rfl (pi_list (fe_var 3)) (pg_name (i := 5) Sc.nd rfl (.inl rfl)) (pss_one (ps_if (pt_not (pt_val (fe_call H_law_two (hr.mono (by walk_at "rm")) (by rfl) pass0 (pa_cons (fe_var 4) (pa_cons (fe_var 5) pa_nil))))) (pss_one (ps_ret pe_bl)) pss_nil)))
      (pss_cons (ps_set (i := 6) Sc.nd rfl (.inl rfl) (fe_call H_is_true (hr.mono (by walk_at "rm")) (by rfl) pass0 (pa_cons (pe_ix ix_fx (fe_var 4) pe_int (fun _ _ => rfl)) pa_nil)))
      (pss_cons (ps_set (i := 7) Sc.nd rfl (.inl rfl) (pe_and (pe_cmpR (op_fNe hr.units) (pe_ix ix_fx (fe_var 4) pe_int (fun _ _ => rfl)) pe_str (nomark _)) (pe_one (pe_not (pe_and (pe_cmpR (op_fEq hr.units) (pe_ix ix_fx (fe_var 4) pe_int (fun _ _ => rfl)) pe_str (nomark _)) (pe_one (pe_cmpR (op_fEq hr.units) (pe_ix ix_fx (fe_var 4) pe_int (fun _ _ => rfl)) pe_int (nomark _))))))))
      (pss_cons (ps_if (PW.pt (pw_or (pt_not (pt_val (pe_callB (call_fIsiA T.kit) (by rfl) T.no_isinstance (by decide +kernel) (pa_cons (fe_var 6) (pa_cons (fe_ty (n := "bool") (by rfl) T.no_bool (by decide +kernel)) pa_nil))))) (pw_or1 (pt_cmpR (op_fNe hr.units) (fe_var 6) (fe_var 7) (nomark _))))) (pss_one (ps_ret pe_bl)) pss_nil)
      (pss_cons (ps_set (i := 6) Sc.nd rfl (.inl rfl) (fe_call H_is_key (hr.mono (by walk_at "rm")) (by rfl) pass0 (pa_cons (pe_ix ix_fx (fe_var 4) pe_int (fun _ _ => rfl)) pa_nil)))
      (pss_cons (ps_if (PW.pt (pw_or (pt_not (pt_val (pe_callB (call_fIsiA T.kit) (by rfl) T.no_isinstance (by decide +kernel) (pa_cons (fe_var 6) (pa_cons (fe_ty (n := "bool") (by rfl) T.no_bool (by decide +kernel)) pa_nil))))) (pw_or1 (pt_cmpR (op_fNe hr.units) (fe_var 6) (pe_cmpR op_fNotIn (pe_ix ix_fx (fe_var 4) pe_int (fun _ _ => rfl)) (fe_tup (pa_cons pe_str (pa_cons pe_str pa_nil))) (by with_unfolding_all rfl)) (nomark _))))) (pss_one (ps_ret pe_bl)) pss_nil)
      (pss_one (ps_if (pt_cmpR (op_fNe hr.units) (fe_call H_kind_of (hr.mono (by walk_at "rm")) (by rfl) pass0 (pa_cons (fe_var 2) (pa_cons (pe_ix ix_fx (fe_var 4) pe_int (fun _ _ => rfl)) pa_nil))) (fe_call H_law_kind (hr.mono (by walk_at "rm")) (by rfl) pass0 (pa_cons (fe_var 4) pa_nil)) (nomark _)) (pss_one (ps_ret pe_bl)) pss_nil)))))))))
      (pss_one (ps_ret (pe_and (pe_cmpR (op_fOr (op_fEqO M_Ref___eq__ (hr.mono (by walk_at "rm")) pass0) (op_fOr (op_fEqO M_Builtin___eq__ (hr.mono (by walk_at "rm")) pass0) (op_fEq hr.units))) (fe_make (k := _) M_Ref (hr.mono (by walk_at "rm")) (by rfl) pass0 (pa_cons pe_int pa_nil)) (fe_make (k := _) M_Ref (hr.mono (by walk_at "rm")) (by rfl) pass0 (pa_cons pe_int pa_nil)) (nomark _)) (pe_and (pe_cmpR (op_fOr (op_fEqO M_Ref___eq__ (hr.mono (by walk_at "rm")) pass0) (op_fOr (op_fEqO M_Builtin___eq__ (hr.mono (by walk_at "rm")) pass0) (op_fEq hr.units))) (fe_make (k := _) M_Builtin (hr.mono (by walk_at "rm")) (by rfl) pass0 (pa_cons pe_str pa_nil)) (fe_make (k := _) M_Builtin (hr.mono (by walk_at "rm")) (by rfl) pass0 (pa_cons pe_str pa_nil)) (nomark _)) (pe_one (pe_cmpR (op_fEq hr.units) (pe_callB call_fLen (by rfl) T.no_len (by decide +kernel) (pa_cons (fe_fld (fe_var 2) T.pl_things rfl) pa_nil)) pe_int (nomark _)))))))))))), ?_⟩
    walk_at "fx0"
    walk_at "ox"
    refine cut_ fun N hN => ifs_ ?_
    walk_at "ox"
    intro t et
    intro p H1 np sm ep
    have dd : ∀ H' q, SqT K H' q (BI.map V.str) → Dp K H' (.ref q) (.tuple (BI.map PyData.str)) := fun H' q h => .tup h (dp_strs BI)
    refine ⟨_, dd H1 t (et H1), _, dd H1 p (SqT.of ep), bi_ok.1, bi_ok.1, ?_⟩
    rw [bi_ok.2, if_neg (by decide)]
    refine hN _ _ ?_
    clear hN N
    walk_at "ox"
    try unfold spBegin
    walk_at "ox"
    intro s H2 ns2 sm2 es
    have D : Dr K H s a ns H2 := ⟨⟨0, 0, es, by decide, by decide⟩, hS, sm.trans sm2, sm.free ns2, hn⟩
    walk_at "ox"
    try unfold spLStore
    intro y tl H3 ntl sm3 St
    have D3 := D.same sm3
    have nts : tl ≠ s := fun q => by rw [q, es] at ntl; cases ntl
    walk_at "ox"
    refine lc_ ?_
    walk_at "ox"
    refine ⟨_, .inl (D3.sm.seq hS), ?_⟩
    rw [List.length_map]
    have hn0 : (0 : Int) ≤ ns.length := by omega
    generalize hm : (if (if (ns.length : Int) > 4 then (ns.length : Int) else 4) < 9 then (if (ns.length : Int) > 4 then (ns.length : Int) else 4) else 9) = m
    have hm9 : 0 ≤ m ∧ m ≤ 9 := by
      rw [← hm]
      split <;> split <;> omega
    refine ⟨by omega, by omega, ?_⟩
    intro DD nDD
    have ns3 : DD ≠ s := fun q => by rw [q, sm3 _ _ es] at nDD; cases nDD
    have nt3 : DD ≠ tl := fun q => by obtain ⟨_, ths, e, _⟩ := St; rw [q, e] at nDD; cases nDD
    have nH : H DD = none := D3.sm.free nDD
    refine lcx_range (LcI K c H s a ns y tl DD) ⟨⟨[], upd_same, fun _ h => (by cases h), rfl⟩, D3.same (same_new nDD), St.same (same_new nDD)⟩ ?_ ?_
    · rintro i H' hi ⟨⟨ps, e1, e2, e3⟩, D4, St4⟩
      walk_at "ox"
      try unfold spLValue
      refine ⟨H, a, ns, D4, fun p2 H5 r kp D5 hrow => ?_⟩
      have e1' : H5 DD = some (.lst (ps.map V.ref)) := kp _ _ (by simpa using ns3) e1
      obtain ⟨x4, j4, es4, _, _⟩ := D4.st
      have kD : Keep [DD] H5 (upd H5 DD (.lst (ps.map V.ref ++ [.ref p2]))) := Keep.refl.upd (by simp)
      refine ⟨_, e1', by rw [List.length_map]; exact len_line' (by omega), ⟨ps ++ [p2], by rw [upd_same, List.map_append]; rfl, ?_, by simp [e3]⟩, D5.keep kD (by simpa using ns3.symm) (by simpa using nH), (St4.keep kp es4 nts).keep kD e1' nt3.symm⟩
      intro p hp
      rcases List.mem_append.mp hp with h | h
      · obtain ⟨r', hr'⟩ := e2 p h
        exact ⟨r', (hr'.keep kp es4).keep kD e1'⟩
      · rw [List.mem_singleton.mp h]
        exact ⟨r, hrow.keep kD e1'⟩
    · rintro Hr ⟨⟨ps, e1, e2, e3⟩, D4, St4⟩
      walk_at "ox"
      refine for_ ?_
      walk_at "ox"
      refine ⟨⟨_, SqL.of e1⟩, ?_⟩
      refine loop_list (ps.map V.ref) (fun i σ H' => Same Hr H' ∧ ∃ v4 v5 v6 v7, σ = [some (.ref a), some (.ref s), some (.ref y), some (.ref DD), v4, v5, v6, v7, none]) ⟨Same.refl _, none, none, none, none, rfl⟩ ?_ ?_ ?_
      · rintro i σ H' hi ⟨sr, v4, v5, v6, v7, rfl⟩
        exact SqL.of (sr _ _ e1)
      · rintro i x σ H' hx ⟨sr, v4, v5, v6, v7, rfl⟩
        rw [List.getElem?_map] at hx
        obtain ⟨p1, hx1, rfl⟩ := Option.map_eq_some_iff.mp hx
        obtain ⟨r, hrow⟩ := e2 p1 (List.mem_of_getElem? hx1)
        walk_at "ox"
        refine cut_ fun N hN => for_ ?_
        walk_at "ox"
        refine ⟨⟨_, SqL.of (sr _ _ e1)⟩, ?_⟩
        refine loop_list (ps.map V.ref) (fun i σ H' => Same Hr H' ∧ ∃ v5, σ = [some (.ref a), some (.ref s), some (.ref y), some (.ref DD), some (.ref p1), v5, v6, v7, none]) ⟨sr, v5, rfl⟩ ?_ ?_ ?_
        · rintro j σ H5 hj ⟨sr5, v5, rfl⟩
          exact SqL.of (sr5 _ _ e1)
        · rintro j x σ H5 hx2 ⟨sr5, v5, rfl⟩
          rw [List.getElem?_map] at hx2
          obtain ⟨p2, hx3, rfl⟩ := Option.map_eq_some_iff.mp hx2
          obtain ⟨r2, hrow2⟩ := e2 p2 (List.mem_of_getElem? hx3)
          walk_at "ox"
          refine ifs_ ?_
          walk_at "ox"
          try unfold spTwo
          refine ⟨r, r2, hrow.same sr5, hrow2.same sr5, fun H6 s6 => ?_⟩
          walk_at "ox"
          exact ⟨sr5.trans s6, _, rfl⟩
        · rintro σ H5 ⟨sr5, v5, rfl⟩
          refine hN _ _ ?_
          clear hN N
          have row5 := hrow.same sr5
          obtain ⟨h0, v, ep, hv⟩ := row5
          walk_at "ox"
          refine ⟨_, rl_t ep, _, atI_nat (j := 2) rfl, ?_⟩
          try unfold spTrue
          refine ⟨c, r, hv, ?_⟩
          have hin := in_kinds r
          have hbd : ∀ n, r = .ob n → 0 ≤ n ∧ n < 8 := by rintro n rfl; exact h0
          have St5 : StoK c H5 y tl (eight c) := St4.same sr5
          have hrow5 : IsRow c H5 p1 r := ⟨h0, v, ep, hv⟩
          cases r
          case boo b =>
            cases b
            all_goals
              simp only [rkS, rtag] at ep hin
              repeat (first | walk_at "oxs" | simp only [strK] | refine ⟨_, rl_t ep, _, rfl, ?_⟩)
              try unfold spKey
              refine ⟨_, hv, fun H6 s6 => ?_⟩
              have ep6 := s6 _ _ ep
              repeat (first | walk_at "oxs" | refine ⟨_, rl_t ep6, _, rfl, ?_⟩)
              intro t H7 nt s7 et
              have ep7 := s7 _ _ ep6
              refine ⟨_, rl_t et, rfl, ?_⟩
              rw [hin]
              repeat (first | walk_at "oxs" | refine ⟨_, rl_t ep7, _, rfl, ?_⟩)
              have s57 := s6.trans s7
              try unfold spKind
              refine ⟨_, tl, hv.same s57, St5.same s57, hbd, ?_⟩
              try unfold spLKind
              refine ⟨_, hrow5.same s57, fun H8 s8 => ?_⟩
              repeat (walk_at "oxs")
              first
                | exact ⟨(sr5.trans s57).trans s8, _, rfl⟩
          all_goals
            simp only [rkS, rtag] at ep hin
            repeat (first | walk_at "oxs" | simp only [strK] | refine ⟨_, rl_t ep, _, rfl, ?_⟩)
            try unfold spKey
            refine ⟨_, hv, fun H6 s6 => ?_⟩
            have ep6 := s6 _ _ ep
            repeat (first | walk_at "oxs" | refine ⟨_, rl_t ep6, _, rfl, ?_⟩)
            intro t H7 nt s7 et
            have ep7 := s7 _ _ ep6
            refine ⟨_, rl_t et, rfl, ?_⟩
            rw [hin]
            repeat (first | walk_at "oxs" | refine ⟨_, rl_t ep7, _, rfl, ?_⟩)
            have s57 := s6.trans s7
            try unfold spKind
            refine ⟨_, tl, hv.same s57, St5.same s57, hbd, ?_⟩
            try unfold spLKind
            refine ⟨_, hrow5.same s57, fun H8 s8 => ?_⟩
            repeat (walk_at "oxs")
            first
              | exact ⟨(sr5.trans s57).trans s8, _, rfl⟩
      · rintro σ H' ⟨sr, v4, v5, v6, v7, rfl⟩
        walk_at "ox"
        try unfold spMk_Ref
        intro r1 d1 H1 n1 s1 q1 r2 d2 H2 n2 s2 q2
        refine .inl ⟨by simp only [s2 _ _ q1], by simp only [q2], 3, 3, ⟨d1, s2 _ _ q1⟩, ⟨d2, q2⟩, ?_⟩
        refine ⟨true, by simp, ?_⟩
        rw [if_pos rfl]
        try unfold spMk_Builtin
        intro r3 d3 H3 n3 s3 q3 r4 d4 H4 n4 s4 q4
        refine .inr (.inl ⟨by simp only [s4 _ _ q3], by simp only [q4], "abs", "abs", ⟨d3, s4 _ _ q3⟩, ⟨d4, q4⟩, ?_⟩)
        refine ⟨true, by simp, ?_⟩
        rw [if_pos rfl]
        have St6 := St4.same (((sr.trans s1).trans s2).trans (s3.trans s4))
        obtain ⟨⟨dx, ol, ll, tk, es6⟩, ths, et6, hth⟩ := St6
        simp only [es6]
        walk_at "ox"
        refine ⟨_, rl_l et6, ?_⟩
        rw [hth.len]
        exact k _
end

section
variable {P : Program} {w : World} {K : PySem.W.Frag} {mg : Str → Option Value} {base : Heap} {c : Cs}
theorem law_fn {fa : Addr} {fd : FuncData} (F : Fun K "law" "law" s_law fa fd) (T : Txt K mg c)
    (a_Ref___init__ : AtM K c.Ref "__init__" "Ref.__init__" s_Ref___init__ ["self", "number"])
    (a_Ref___eq__ : AtM K c.Ref "__eq__" "Ref.__eq__" s_Ref___eq__ ["self", "other"])
    (a_Builtin___init__ : AtM K c.Builtin "__init__" "Builtin.__init__" s_Builtin___init__ ["self", "name"])
    (a_Builtin___eq__ : AtM K c.Builtin "__eq__" "Builtin.__eq__" s_Builtin___eq__ ["self", "other"])
    (a_Parts___init__ : AtM K c.Parts "__init__" "Parts.__init__" s_Parts___init__ ["self", "held"])
    (a_Table___init__ : AtM K c.Table "__init__" "Table.__init__" s_Table___init__ ["self"])
    (a_Instance___init__ : AtM K c.Instance "__init__" "Instance.__init__" s_Instance___init__ ["self", "owner"])
    (a_Kin___init__ : AtM K c.Kin "__init__" "Kin.__init__" s_Kin___init__ ["self", "name", "parent"])
    (a_Closure___init__ : AtM K c.Closure "__init__" "Closure.__init__" s_Closure___init__ ["self", "number", "wanted", "scope"])
    (a_Bound___init__ : AtM K c.Bound "__init__" "Bound.__init__" s_Bound___init__ ["self", "owner", "function"])
    (a_Variable___init__ : AtM K c.Variable "__init__" "Variable.__init__" s_Variable___init__ ["self", "value"])
    (a_Cursor___init__ : AtM K c.Cursor "__init__" "Cursor.__init__" s_Cursor___init__ ["self", "rest"])
    (a_Store___init__ : AtM K c.Store "__init__" "Store.__init__" s_Store___init__ ["self", "lines"])
    (a_Store_make : AtM K c.Store "make" "Store.make" s_Store_make ["self", "thing"])
    (a_Store_at : AtM K c.Store "at" "Store.at" s_Store_at ["self", "ref"])
    (a_thing_of : At K mg "thing_of" "thing_of" s_thing_of ["store", "value"])
    (a_kind_of : At K mg "kind_of" "kind_of" s_kind_of ["store", "value"])
    (a_is_true : At K mg "is_true" "is_true" s_is_true ["value"])
    (a_equal : At K mg "equal" "equal" s_equal ["x", "y"])
    (a_is_key : At K mg "is_key" "is_key" s_is_key ["value"])
    (a_law_cell : At K mg "_law_cell" "_law_cell" s_law_cell ["script", "k"])
    (a_law_begin : At K mg "_law_begin" "_law_begin" s_law_begin ["script", "k"])
    (a_law_draw : At K mg "_law_draw" "_law_draw" s_law_draw ["state", "many"])
    (a_law_pick : At K mg "_law_pick" "_law_pick" s_law_pick ["state", "row"])
    (a_law_store : At K mg "_law_store" "_law_store" s_law_store [])
    (a_law_value : At K mg "_law_value" "_law_value" s_law_value ["state"])
    (a_law_kind : At K mg "_law_kind" "_law_kind" s_law_kind ["row"])
    (a_law_two : At K mg "_law_two" "_law_two" s_law_two ["one", "two"]) :
    FnOk P w K mg base CX0 6 fa fd ["script"] (spLaw K) := by
  have M_Ref := mk_Ref (P := P) (w := w) (base := base) a_Ref___init__ T
  have M_Builtin := mk_Builtin (P := P) (w := w) (base := base) a_Builtin___init__ T
  have M_Parts := mk_Parts (P := P) (w := w) (base := base) a_Parts___init__ T
  have M_Table := mk_Table (P := P) (w := w) (base := base) a_Table___init__ T
  have M_Instance := mk_Instance (P := P) (w := w) (base := base) a_Instance___init__ T
  have M_Kin := mk_Kin (P := P) (w := w) (base := base) a_Kin___init__ T
  have M_Closure := mk_Closure (P := P) (w := w) (base := base) a_Closure___init__ T
  have M_Bound := mk_Bound (P := P) (w := w) (base := base) a_Bound___init__ T
  have M_Variable := mk_Variable (P := P) (w := w) (base := base) a_Variable___init__ T
  have M_Cursor := mk_Cursor (P := P) (w := w) (base := base) a_Cursor___init__ T
  have M_Store := ok_store (P := P) (w := w) (base := base) a_Store___init__ T M_Kin
  have mk0 := ok_make (P := P) (w := w) (base := base) a_Store_make T M_Ref
  have M_at := ok_at (P := P) (w := w) (base := base) a_Store_at T
  have eR := ok_eqRef (P := P) (w := w) (base := base) a_Ref___eq__ T
  have eB := ok_eqBt (P := P) (w := w) (base := base) a_Builtin___eq__ T
  have h_thing := ok_thing (P := P) (w := w) (base := base) a_thing_of T M_at
  have h_kind := ok_kind (P := P) (w := w) (base := base) a_kind_of T h_thing
  have h_true := ok_true (P := P) (w := w) (base := base) a_is_true T
  have h_equal := ok_equal (P := P) (w := w) (base := base) a_equal T
  have h_key := ok_key (P := P) (w := w) (base := base) a_is_key T
  have h_cell := ok_cell (P := P) (w := w) (base := base) a_law_cell T
  have h_begin := ok_begin (P := P) (w := w) (base := base) a_law_begin T
  have h_draw := ok_draw (P := P) (w := w) (base := base) a_law_draw T h_cell
  have h_pick := ok_pick (P := P) (w := w) (base := base) a_law_pick T h_draw
  have h_store := ok_lstore (P := P) (w := w) (base := base) a_law_store T M_Store (make_S (H_ := fun _ => none) mk0) M_Parts M_Table M_Instance M_Closure M_Bound M_Variable M_Cursor M_Ref
  have h_value := ok_lvalue (P := P) (w := w) (base := base) a_law_value T h_draw h_pick M_Builtin M_Ref
  have h_lkind := ok_lkind (P := P) (w := w) (base := base) a_law_kind T
  have h_two := ok_two (P := P) (w := w) (base := base) a_law_two T h_equal eR eB
  exact law_has F T h_begin h_store h_value h_two h_true h_key h_kind h_lkind M_Ref M_Builtin eR eB
end
theorem all_mk {P : Program} {w : World} {K : PySem.W.Frag} {h : Heap} {mg : Str → Option Value} {fa : Addr} {C_Ref C_Builtin C_Parts C_Table C_Instance C_Kin C_Closure C_Bound C_Variable C_Cursor C_Store : Addr} (X : K.In h) (G : h.Ns mainGlobals mg) (hfa : mg "law" = some (.ref fa))
    (n_Ref : PySem.W.nsIn K mainGlobals "Ref" = some (some (.ref C_Ref)))
    (n_Builtin : PySem.W.nsIn K mainGlobals "Builtin" = some (some (.ref C_Builtin)))
    (n_Parts : PySem.W.nsIn K mainGlobals "Parts" = some (some (.ref C_Parts)))
    (n_Table : PySem.W.nsIn K mainGlobals "Table" = some (some (.ref C_Table)))
    (n_Instance : PySem.W.nsIn K mainGlobals "Instance" = some (some (.ref C_Instance)))
    (n_Kin : PySem.W.nsIn K mainGlobals "Kin" = some (some (.ref C_Kin)))
    (n_Closure : PySem.W.nsIn K mainGlobals "Closure" = some (some (.ref C_Closure)))
    (n_Bound : PySem.W.nsIn K mainGlobals "Bound" = some (some (.ref C_Bound)))
    (n_Variable : PySem.W.nsIn K mainGlobals "Variable" = some (some (.ref C_Variable)))
    (n_Cursor : PySem.W.nsIn K mainGlobals "Cursor" = some (some (.ref C_Cursor)))
    (n_Store : PySem.W.nsIn K mainGlobals "Store" = some (some (.ref C_Store)))
    (x_Ref : ClsFact K C_Ref)
    (x_Builtin : ClsFact K C_Builtin)
    (x_Parts : ClsFact K C_Parts)
    (x_Table : ClsFact K C_Table)
    (x_Instance : ClsFact K C_Instance)
    (x_Kin : ClsFact K C_Kin)
    (x_Closure : ClsFact K C_Closure)
    (x_Bound : ClsFact K C_Bound)
    (x_Variable : ClsFact K C_Variable)
    (x_Cursor : ClsFact K C_Cursor)
    (x_Store : ClsFact K C_Store)
    (ob : ObjFact K)
    (na__rows_Table : PySem.W.findIn K (.ref C_Table) "_rows" = some none)
    (na_function_Bound : PySem.W.findIn K (.ref C_Bound) "function" = some none)
    (na_held_Parts : PySem.W.findIn K (.ref C_Parts) "held" = some none)
    (na_lines_Store : PySem.W.findIn K (.ref C_Store) "lines" = some none)
    (na_methods_Kin : PySem.W.findIn K (.ref C_Kin) "methods" = some none)
    (na_name_Builtin : PySem.W.findIn K (.ref C_Builtin) "name" = some none)
    (na_name_Kin : PySem.W.findIn K (.ref C_Kin) "name" = some none)
    (na_named_Instance : PySem.W.findIn K (.ref C_Instance) "named" = some none)
    (na_number_Ref : PySem.W.findIn K (.ref C_Ref) "number" = some none)
    (na_number_Closure : PySem.W.findIn K (.ref C_Closure) "number" = some none)
    (na_output_Store : PySem.W.findIn K (.ref C_Store) "output" = some none)
    (na_owner_Instance : PySem.W.findIn K (.ref C_Instance) "owner" = some none)
    (na_owner_Bound : PySem.W.findIn K (.ref C_Bound) "owner" = some none)
    (na_parent_Kin : PySem.W.findIn K (.ref C_Kin) "parent" = some none)
    (na_rest_Cursor : PySem.W.findIn K (.ref C_Cursor) "rest" = some none)
    (na_scope_Closure : PySem.W.findIn K (.ref C_Closure) "scope" = some none)
    (na_taken_Store : PySem.W.findIn K (.ref C_Store) "taken" = some none)
    (na_things_Store : PySem.W.findIn K (.ref C_Store) "things" = some none)
    (na_value_Variable : PySem.W.findIn K (.ref C_Variable) "value" = some none)
    (na_wanted_Closure : PySem.W.findIn K (.ref C_Closure) "wanted" = some none)
    (oo_Ref_Ref : PySem.W.kitOne K (.ref C_Ref) (.ref C_Ref) = some (decide (C_Ref = C_Ref)))
    (oo_Ref_Parts : PySem.W.kitOne K (.ref C_Ref) (.ref C_Parts) = some (decide (C_Ref = C_Parts)))
    (oo_Ref_Table : PySem.W.kitOne K (.ref C_Ref) (.ref C_Table) = some (decide (C_Ref = C_Table)))
    (oo_Ref_Instance : PySem.W.kitOne K (.ref C_Ref) (.ref C_Instance) = some (decide (C_Ref = C_Instance)))
    (oo_Ref_Kin : PySem.W.kitOne K (.ref C_Ref) (.ref C_Kin) = some (decide (C_Ref = C_Kin)))
    (oo_Ref_Builtin : PySem.W.kitOne K (.ref C_Ref) (.ref C_Builtin) = some (decide (C_Ref = C_Builtin)))
    (oo_Builtin_Ref : PySem.W.kitOne K (.ref C_Builtin) (.ref C_Ref) = some (decide (C_Builtin = C_Ref)))
    (oo_Builtin_Parts : PySem.W.kitOne K (.ref C_Builtin) (.ref C_Parts) = some (decide (C_Builtin = C_Parts)))
    (oo_Builtin_Table : PySem.W.kitOne K (.ref C_Builtin) (.ref C_Table) = some (decide (C_Builtin = C_Table)))
    (oo_Builtin_Instance : PySem.W.kitOne K (.ref C_Builtin) (.ref C_Instance) = some (decide (C_Builtin = C_Instance)))
    (oo_Builtin_Kin : PySem.W.kitOne K (.ref C_Builtin) (.ref C_Kin) = some (decide (C_Builtin = C_Kin)))
    (oo_Builtin_Builtin : PySem.W.kitOne K (.ref C_Builtin) (.ref C_Builtin) = some (decide (C_Builtin = C_Builtin)))
    (oo_Parts_Ref : PySem.W.kitOne K (.ref C_Parts) (.ref C_Ref) = some (decide (C_Parts = C_Ref)))
    (oo_Parts_Parts : PySem.W.kitOne K (.ref C_Parts) (.ref C_Parts) = some (decide (C_Parts = C_Parts)))
    (oo_Parts_Table : PySem.W.kitOne K (.ref C_Parts) (.ref C_Table) = some (decide (C_Parts = C_Table)))
    (oo_Parts_Instance : PySem.W.kitOne K (.ref C_Parts) (.ref C_Instance) = some (decide (C_Parts = C_Instance)))
    (oo_Parts_Kin : PySem.W.kitOne K (.ref C_Parts) (.ref C_Kin) = some (decide (C_Parts = C_Kin)))
    (oo_Parts_Builtin : PySem.W.kitOne K (.ref C_Parts) (.ref C_Builtin) = some (decide (C_Parts = C_Builtin)))
    (oo_Table_Ref : PySem.W.kitOne K (.ref C_Table) (.ref C_Ref) = some (decide (C_Table = C_Ref)))
    (oo_Table_Parts : PySem.W.kitOne K (.ref C_Table) (.ref C_Parts) = some (decide (C_Table = C_Parts)))
    (oo_Table_Table : PySem.W.kitOne K (.ref C_Table) (.ref C_Table) = some (decide (C_Table = C_Table)))
    (oo_Table_Instance : PySem.W.kitOne K (.ref C_Table) (.ref C_Instance) = some (decide (C_Table = C_Instance)))
    (oo_Table_Kin : PySem.W.kitOne K (.ref C_Table) (.ref C_Kin) = some (decide (C_Table = C_Kin)))
    (oo_Table_Builtin : PySem.W.kitOne K (.ref C_Table) (.ref C_Builtin) = some (decide (C_Table = C_Builtin)))
    (oo_Instance_Ref : PySem.W.kitOne K (.ref C_Instance) (.ref C_Ref) = some (decide (C_Instance = C_Ref)))
    (oo_Instance_Parts : PySem.W.kitOne K (.ref C_Instance) (.ref C_Parts) = some (decide (C_Instance = C_Parts)))
    (oo_Instance_Table : PySem.W.kitOne K (.ref C_Instance) (.ref C_Table) = some (decide (C_Instance = C_Table)))
    (oo_Instance_Instance : PySem.W.kitOne K (.ref C_Instance) (.ref C_Instance) = some (decide (C_Instance = C_Instance)))
    (oo_Instance_Kin : PySem.W.kitOne K (.ref C_Instance) (.ref C_Kin) = some (decide (C_Instance = C_Kin)))
    (oo_Instance_Builtin : PySem.W.kitOne K (.ref C_Instance) (.ref C_Builtin) = some (decide (C_Instance = C_Builtin)))
    (oo_Kin_Ref : PySem.W.kitOne K (.ref C_Kin) (.ref C_Ref) = some (decide (C_Kin = C_Ref)))
    (oo_Kin_Parts : PySem.W.kitOne K (.ref C_Kin) (.ref C_Parts) = some (decide (C_Kin = C_Parts)))
    (oo_Kin_Table : PySem.W.kitOne K (.ref C_Kin) (.ref C_Table) = some (decide (C_Kin = C_Table)))
    (oo_Kin_Instance : PySem.W.kitOne K (.ref C_Kin) (.ref C_Instance) = some (decide (C_Kin = C_Instance)))
    (oo_Kin_Kin : PySem.W.kitOne K (.ref C_Kin) (.ref C_Kin) = some (decide (C_Kin = C_Kin)))
    (oo_Kin_Builtin : PySem.W.kitOne K (.ref C_Kin) (.ref C_Builtin) = some (decide (C_Kin = C_Builtin)))
    (oo_Closure_Ref : PySem.W.kitOne K (.ref C_Closure) (.ref C_Ref) = some (decide (C_Closure = C_Ref)))
    (oo_Closure_Parts : PySem.W.kitOne K (.ref C_Closure) (.ref C_Parts) = some (decide (C_Closure = C_Parts)))
    (oo_Closure_Table : PySem.W.kitOne K (.ref C_Closure) (.ref C_Table) = some (decide (C_Closure = C_Table)))
    (oo_Closure_Instance : PySem.W.kitOne K (.ref C_Closure) (.ref C_Instance) = some (decide (C_Closure = C_Instance)))
    (oo_Closure_Kin : PySem.W.kitOne K (.ref C_Closure) (.ref C_Kin) = some (decide (C_Closure = C_Kin)))
    (oo_Closure_Builtin : PySem.W.kitOne K (.ref C_Closure) (.ref C_Builtin) = some (decide (C_Closure = C_Builtin)))
    (oo_Bound_Ref : PySem.W.kitOne K (.ref C_Bound) (.ref C_Ref) = some (decide (C_Bound = C_Ref)))
    (oo_Bound_Parts : PySem.W.kitOne K (.ref C_Bound) (.ref C_Parts) = some (decide (C_Bound = C_Parts)))
    (oo_Bound_Table : PySem.W.kitOne K (.ref C_Bound) (.ref C_Table) = some (decide (C_Bound = C_Table)))
    (oo_Bound_Instance : PySem.W.kitOne K (.ref C_Bound) (.ref C_Instance) = some (decide (C_Bound = C_Instance)))
    (oo_Bound_Kin : PySem.W.kitOne K (.ref C_Bound) (.ref C_Kin) = some (decide (C_Bound = C_Kin)))
    (oo_Bound_Builtin : PySem.W.kitOne K (.ref C_Bound) (.ref C_Builtin) = some (decide (C_Bound = C_Builtin)))
    (oo_Variable_Ref : PySem.W.kitOne K (.ref C_Variable) (.ref C_Ref) = some (decide (C_Variable = C_Ref)))
    (oo_Variable_Parts : PySem.W.kitOne K (.ref C_Variable) (.ref C_Parts) = some (decide (C_Variable = C_Parts)))
    (oo_Variable_Table : PySem.W.kitOne K (.ref C_Variable) (.ref C_Table) = some (decide (C_Variable = C_Table)))
    (oo_Variable_Instance : PySem.W.kitOne K (.ref C_Variable) (.ref C_Instance) = some (decide (C_Variable = C_Instance)))
    (oo_Variable_Kin : PySem.W.kitOne K (.ref C_Variable) (.ref C_Kin) = some (decide (C_Variable = C_Kin)))
    (oo_Variable_Builtin : PySem.W.kitOne K (.ref C_Variable) (.ref C_Builtin) = some (decide (C_Variable = C_Builtin)))
    (oo_Cursor_Ref : PySem.W.kitOne K (.ref C_Cursor) (.ref C_Ref) = some (decide (C_Cursor = C_Ref)))
    (oo_Cursor_Parts : PySem.W.kitOne K (.ref C_Cursor) (.ref C_Parts) = some (decide (C_Cursor = C_Parts)))
    (oo_Cursor_Table : PySem.W.kitOne K (.ref C_Cursor) (.ref C_Table) = some (decide (C_Cursor = C_Table)))
    (oo_Cursor_Instance : PySem.W.kitOne K (.ref C_Cursor) (.ref C_Instance) = some (decide (C_Cursor = C_Instance)))
    (oo_Cursor_Kin : PySem.W.kitOne K (.ref C_Cursor) (.ref C_Kin) = some (decide (C_Cursor = C_Kin)))
    (oo_Cursor_Builtin : PySem.W.kitOne K (.ref C_Cursor) (.ref C_Builtin) = some (decide (C_Cursor = C_Builtin)))
    (oo_Store_Ref : PySem.W.kitOne K (.ref C_Store) (.ref C_Ref) = some (decide (C_Store = C_Ref)))
    (oo_Store_Parts : PySem.W.kitOne K (.ref C_Store) (.ref C_Parts) = some (decide (C_Store = C_Parts)))
    (oo_Store_Table : PySem.W.kitOne K (.ref C_Store) (.ref C_Table) = some (decide (C_Store = C_Table)))
    (oo_Store_Instance : PySem.W.kitOne K (.ref C_Store) (.ref C_Instance) = some (decide (C_Store = C_Instance)))
    (oo_Store_Kin : PySem.W.kitOne K (.ref C_Store) (.ref C_Kin) = some (decide (C_Store = C_Kin)))
    (oo_Store_Builtin : PySem.W.kitOne K (.ref C_Store) (.ref C_Builtin) = some (decide (C_Store = C_Builtin)))
    (bo_NoneType_Ref : PySem.W.kitOne K (.type "NoneType") (.ref C_Ref) = some false)
    (bo_NoneType_Parts : PySem.W.kitOne K (.type "NoneType") (.ref C_Parts) = some false)
    (bo_NoneType_Table : PySem.W.kitOne K (.type "NoneType") (.ref C_Table) = some false)
    (bo_NoneType_Instance : PySem.W.kitOne K (.type "NoneType") (.ref C_Instance) = some false)
    (bo_NoneType_Kin : PySem.W.kitOne K (.type "NoneType") (.ref C_Kin) = some false)
    (bo_NoneType_Builtin : PySem.W.kitOne K (.type "NoneType") (.ref C_Builtin) = some false)
    (bo_bool_Ref : PySem.W.kitOne K (.type "bool") (.ref C_Ref) = some false)
    (bo_bool_Parts : PySem.W.kitOne K (.type "bool") (.ref C_Parts) = some false)
    (bo_bool_Table : PySem.W.kitOne K (.type "bool") (.ref C_Table) = some false)
    (bo_bool_Instance : PySem.W.kitOne K (.type "bool") (.ref C_Instance) = some false)
    (bo_bool_Kin : PySem.W.kitOne K (.type "bool") (.ref C_Kin) = some false)
    (bo_bool_Builtin : PySem.W.kitOne K (.type "bool") (.ref C_Builtin) = some false)
    (bo_int_Ref : PySem.W.kitOne K (.type "int") (.ref C_Ref) = some false)
    (bo_int_Parts : PySem.W.kitOne K (.type "int") (.ref C_Parts) = some false)
    (bo_int_Table : PySem.W.kitOne K (.type "int") (.ref C_Table) = some false)
    (bo_int_Instance : PySem.W.kitOne K (.type "int") (.ref C_Instance) = some false)
    (bo_int_Kin : PySem.W.kitOne K (.type "int") (.ref C_Kin) = some false)
    (bo_int_Builtin : PySem.W.kitOne K (.type "int") (.ref C_Builtin) = some false)
    (bo_str_Ref : PySem.W.kitOne K (.type "str") (.ref C_Ref) = some false)
    (bo_str_Parts : PySem.W.kitOne K (.type "str") (.ref C_Parts) = some false)
    (bo_str_Table : PySem.W.kitOne K (.type "str") (.ref C_Table) = some false)
    (bo_str_Instance : PySem.W.kitOne K (.type "str") (.ref C_Instance) = some false)
    (bo_str_Kin : PySem.W.kitOne K (.type "str") (.ref C_Kin) = some false)
    (bo_str_Builtin : PySem.W.kitOne K (.type "str") (.ref C_Builtin) = some false)
    (bo_list_Ref : PySem.W.kitOne K (.type "list") (.ref C_Ref) = some false)
    (bo_list_Parts : PySem.W.kitOne K (.type "list") (.ref C_Parts) = some false)
    (bo_list_Table : PySem.W.kitOne K (.type "list") (.ref C_Table) = some false)
    (bo_list_Instance : PySem.W.kitOne K (.type "list") (.ref C_Instance) = some false)
    (bo_list_Kin : PySem.W.kitOne K (.type "list") (.ref C_Kin) = some false)
    (bo_list_Builtin : PySem.W.kitOne K (.type "list") (.ref C_Builtin) = some false)
    (bo_tuple_Ref : PySem.W.kitOne K (.type "tuple") (.ref C_Ref) = some false)
    (bo_tuple_Parts : PySem.W.kitOne K (.type "tuple") (.ref C_Parts) = some false)
    (bo_tuple_Table : PySem.W.kitOne K (.type "tuple") (.ref C_Table) = some false)
    (bo_tuple_Instance : PySem.W.kitOne K (.type "tuple") (.ref C_Instance) = some false)
    (bo_tuple_Kin : PySem.W.kitOne K (.type "tuple") (.ref C_Kin) = some false)
    (bo_tuple_Builtin : PySem.W.kitOne K (.type "tuple") (.ref C_Builtin) = some false)
    (bo_dict_Ref : PySem.W.kitOne K (.type "dict") (.ref C_Ref) = some false)
    (bo_dict_Parts : PySem.W.kitOne K (.type "dict") (.ref C_Parts) = some false)
    (bo_dict_Table : PySem.W.kitOne K (.type "dict") (.ref C_Table) = some false)
    (bo_dict_Instance : PySem.W.kitOne K (.type "dict") (.ref C_Instance) = some false)
    (bo_dict_Kin : PySem.W.kitOne K (.type "dict") (.ref C_Kin) = some false)
    (bo_dict_Builtin : PySem.W.kitOne K (.type "dict") (.ref C_Builtin) = some false)
    (ob_Ref_bool : PySem.W.kitOne K (.ref C_Ref) (.type "bool") = some false)
    (ob_Ref_int : PySem.W.kitOne K (.ref C_Ref) (.type "int") = some false)
    (ob_Ref_str : PySem.W.kitOne K (.ref C_Ref) (.type "str") = some false)
    (ob_Ref_list : PySem.W.kitOne K (.ref C_Ref) (.type "list") = some false)
    (ob_Ref_tuple : PySem.W.kitOne K (.ref C_Ref) (.type "tuple") = some false)
    (ob_Ref_dict : PySem.W.kitOne K (.ref C_Ref) (.type "dict") = some false)
    (ob_Builtin_bool : PySem.W.kitOne K (.ref C_Builtin) (.type "bool") = some false)
    (ob_Builtin_int : PySem.W.kitOne K (.ref C_Builtin) (.type "int") = some false)
    (ob_Builtin_str : PySem.W.kitOne K (.ref C_Builtin) (.type "str") = some false)
    (ob_Builtin_list : PySem.W.kitOne K (.ref C_Builtin) (.type "list") = some false)
    (ob_Builtin_tuple : PySem.W.kitOne K (.ref C_Builtin) (.type "tuple") = some false)
    (ob_Builtin_dict : PySem.W.kitOne K (.ref C_Builtin) (.type "dict") = some false)
    (ob_Parts_bool : PySem.W.kitOne K (.ref C_Parts) (.type "bool") = some false)
    (ob_Parts_int : PySem.W.kitOne K (.ref C_Parts) (.type "int") = some false)
    (ob_Parts_str : PySem.W.kitOne K (.ref C_Parts) (.type "str") = some false)
    (ob_Parts_list : PySem.W.kitOne K (.ref C_Parts) (.type "list") = some false)
    (ob_Parts_tuple : PySem.W.kitOne K (.ref C_Parts) (.type "tuple") = some false)
    (ob_Parts_dict : PySem.W.kitOne K (.ref C_Parts) (.type "dict") = some false)
    (ob_Table_bool : PySem.W.kitOne K (.ref C_Table) (.type "bool") = some false)
    (ob_Table_int : PySem.W.kitOne K (.ref C_Table) (.type "int") = some false)
    (ob_Table_str : PySem.W.kitOne K (.ref C_Table) (.type "str") = some false)
    (ob_Table_list : PySem.W.kitOne K (.ref C_Table) (.type "list") = some false)
    (ob_Table_tuple : PySem.W.kitOne K (.ref C_Table) (.type "tuple") = some false)
    (ob_Table_dict : PySem.W.kitOne K (.ref C_Table) (.type "dict") = some false)
    (ob_Instance_bool : PySem.W.kitOne K (.ref C_Instance) (.type "bool") = some false)
    (ob_Instance_int : PySem.W.kitOne K (.ref C_Instance) (.type "int") = some false)
    (ob_Instance_str : PySem.W.kitOne K (.ref C_Instance) (.type "str") = some false)
    (ob_Instance_list : PySem.W.kitOne K (.ref C_Instance) (.type "list") = some false)
    (ob_Instance_tuple : PySem.W.kitOne K (.ref C_Instance) (.type "tuple") = some false)
    (ob_Instance_dict : PySem.W.kitOne K (.ref C_Instance) (.type "dict") = some false)
    (ob_Kin_bool : PySem.W.kitOne K (.ref C_Kin) (.type "bool") = some false)
    (ob_Kin_int : PySem.W.kitOne K (.ref C_Kin) (.type "int") = some false)
    (ob_Kin_str : PySem.W.kitOne K (.ref C_Kin) (.type "str") = some false)
    (ob_Kin_list : PySem.W.kitOne K (.ref C_Kin) (.type "list") = some false)
    (ob_Kin_tuple : PySem.W.kitOne K (.ref C_Kin) (.type "tuple") = some false)
    (ob_Kin_dict : PySem.W.kitOne K (.ref C_Kin) (.type "dict") = some false)
    (ob_Closure_bool : PySem.W.kitOne K (.ref C_Closure) (.type "bool") = some false)
    (ob_Closure_int : PySem.W.kitOne K (.ref C_Closure) (.type "int") = some false)
    (ob_Closure_str : PySem.W.kitOne K (.ref C_Closure) (.type "str") = some false)
    (ob_Closure_list : PySem.W.kitOne K (.ref C_Closure) (.type "list") = some false)
    (ob_Closure_tuple : PySem.W.kitOne K (.ref C_Closure) (.type "tuple") = some false)
    (ob_Closure_dict : PySem.W.kitOne K (.ref C_Closure) (.type "dict") = some false)
    (ob_Bound_bool : PySem.W.kitOne K (.ref C_Bound) (.type "bool") = some false)
    (ob_Bound_int : PySem.W.kitOne K (.ref C_Bound) (.type "int") = some false)
    (ob_Bound_str : PySem.W.kitOne K (.ref C_Bound) (.type "str") = some false)
    (ob_Bound_list : PySem.W.kitOne K (.ref C_Bound) (.type "list") = some false)
    (ob_Bound_tuple : PySem.W.kitOne K (.ref C_Bound) (.type "tuple") = some false)
    (ob_Bound_dict : PySem.W.kitOne K (.ref C_Bound) (.type "dict") = some false)
    (ob_Variable_bool : PySem.W.kitOne K (.ref C_Variable) (.type "bool") = some false)
    (ob_Variable_int : PySem.W.kitOne K (.ref C_Variable) (.type "int") = some false)
    (ob_Variable_str : PySem.W.kitOne K (.ref C_Variable) (.type "str") = some false)
    (ob_Variable_list : PySem.W.kitOne K (.ref C_Variable) (.type "list") = some false)
    (ob_Variable_tuple : PySem.W.kitOne K (.ref C_Variable) (.type "tuple") = some false)
    (ob_Variable_dict : PySem.W.kitOne K (.ref C_Variable) (.type "dict") = some false)
    (ob_Cursor_bool : PySem.W.kitOne K (.ref C_Cursor) (.type "bool") = some false)
    (ob_Cursor_int : PySem.W.kitOne K (.ref C_Cursor) (.type "int") = some false)
    (ob_Cursor_str : PySem.W.kitOne K (.ref C_Cursor) (.type "str") = some false)
    (ob_Cursor_list : PySem.W.kitOne K (.ref C_Cursor) (.type "list") = some false)
    (ob_Cursor_tuple : PySem.W.kitOne K (.ref C_Cursor) (.type "tuple") = some false)
    (ob_Cursor_dict : PySem.W.kitOne K (.ref C_Cursor) (.type "dict") = some false)
    (ob_Store_bool : PySem.W.kitOne K (.ref C_Store) (.type "bool") = some false)
    (ob_Store_int : PySem.W.kitOne K (.ref C_Store) (.type "int") = some false)
    (ob_Store_str : PySem.W.kitOne K (.ref C_Store) (.type "str") = some false)
    (ob_Store_list : PySem.W.kitOne K (.ref C_Store) (.type "list") = some false)
    (ob_Store_tuple : PySem.W.kitOne K (.ref C_Store) (.type "tuple") = some false)
    (ob_Store_dict : PySem.W.kitOne K (.ref C_Store) (.type "dict") = some false)
    (ne_Ref_Builtin : C_Ref ≠ C_Builtin)
    (ne_Ref_Parts : C_Ref ≠ C_Parts)
    (ne_Ref_Table : C_Ref ≠ C_Table)
    (ne_Ref_Instance : C_Ref ≠ C_Instance)
    (ne_Ref_Kin : C_Ref ≠ C_Kin)
    (ne_Ref_Closure : C_Ref ≠ C_Closure)
    (ne_Ref_Bound : C_Ref ≠ C_Bound)
    (ne_Ref_Variable : C_Ref ≠ C_Variable)
    (ne_Ref_Cursor : C_Ref ≠ C_Cursor)
    (ne_Ref_Store : C_Ref ≠ C_Store)
    (ne_Builtin_Parts : C_Builtin ≠ C_Parts)
    (ne_Builtin_Table : C_Builtin ≠ C_Table)
    (ne_Builtin_Instance : C_Builtin ≠ C_Instance)
    (ne_Builtin_Kin : C_Builtin ≠ C_Kin)
    (ne_Builtin_Closure : C_Builtin ≠ C_Closure)
    (ne_Builtin_Bound : C_Builtin ≠ C_Bound)
    (ne_Builtin_Variable : C_Builtin ≠ C_Variable)
    (ne_Builtin_Cursor : C_Builtin ≠ C_Cursor)
    (ne_Builtin_Store : C_Builtin ≠ C_Store)
    (ne_Parts_Table : C_Parts ≠ C_Table)
    (ne_Parts_Instance : C_Parts ≠ C_Instance)
    (ne_Parts_Kin : C_Parts ≠ C_Kin)
    (ne_Parts_Closure : C_Parts ≠ C_Closure)
    (ne_Parts_Bound : C_Parts ≠ C_Bound)
    (ne_Parts_Variable : C_Parts ≠ C_Variable)
    (ne_Parts_Cursor : C_Parts ≠ C_Cursor)
    (ne_Parts_Store : C_Parts ≠ C_Store)
    (ne_Table_Instance : C_Table ≠ C_Instance)
    (ne_Table_Kin : C_Table ≠ C_Kin)
    (ne_Table_Closure : C_Table ≠ C_Closure)
    (ne_Table_Bound : C_Table ≠ C_Bound)
    (ne_Table_Variable : C_Table ≠ C_Variable)
    (ne_Table_Cursor : C_Table ≠ C_Cursor)
    (ne_Table_Store : C_Table ≠ C_Store)
    (ne_Instance_Kin : C_Instance ≠ C_Kin)
    (ne_Instance_Closure : C_Instance ≠ C_Closure)
    (ne_Instance_Bound : C_Instance ≠ C_Bound)
    (ne_Instance_Variable : C_Instance ≠ C_Variable)
    (ne_Instance_Cursor : C_Instance ≠ C_Cursor)
    (ne_Instance_Store : C_Instance ≠ C_Store)
    (ne_Kin_Closure : C_Kin ≠ C_Closure)
    (ne_Kin_Bound : C_Kin ≠ C_Bound)
    (ne_Kin_Variable : C_Kin ≠ C_Variable)
    (ne_Kin_Cursor : C_Kin ≠ C_Cursor)
    (ne_Kin_Store : C_Kin ≠ C_Store)
    (ne_Closure_Bound : C_Closure ≠ C_Bound)
    (ne_Closure_Variable : C_Closure ≠ C_Variable)
    (ne_Closure_Cursor : C_Closure ≠ C_Cursor)
    (ne_Closure_Store : C_Closure ≠ C_Store)
    (ne_Bound_Variable : C_Bound ≠ C_Variable)
    (ne_Bound_Cursor : C_Bound ≠ C_Cursor)
    (ne_Bound_Store : C_Bound ≠ C_Store)
    (ne_Variable_Cursor : C_Variable ≠ C_Cursor)
    (ne_Variable_Store : C_Variable ≠ C_Store)
    (ne_Cursor_Store : C_Cursor ≠ C_Store)
    (f0 : MFact K C_Ref "__init__" "Ref.__init__" s_Ref___init__) (f1 : MFact K C_Ref "__eq__" "Ref.__eq__" s_Ref___eq__) (f2 : MFact K C_Builtin "__init__" "Builtin.__init__" s_Builtin___init__) (f3 : MFact K C_Builtin "__eq__" "Builtin.__eq__" s_Builtin___eq__) (f4 : MFact K C_Parts "__init__" "Parts.__init__" s_Parts___init__) (f5 : MFact K C_Table "__init__" "Table.__init__" s_Table___init__) (f6 : MFact K C_Instance "__init__" "Instance.__init__" s_Instance___init__) (f7 : MFact K C_Kin "__init__" "Kin.__init__" s_Kin___init__) (f8 : MFact K C_Closure "__init__" "Closure.__init__" s_Closure___init__) (f9 : MFact K C_Bound "__init__" "Bound.__init__" s_Bound___init__) (f10 : MFact K C_Variable "__init__" "Variable.__init__" s_Variable___init__) (f11 : MFact K C_Cursor "__init__" "Cursor.__init__" s_Cursor___init__) (f12 : MFact K C_Store "__init__" "Store.__init__" s_Store___init__) (f13 : MFact K C_Store "make" "Store.make" s_Store_make) (f14 : MFact K C_Store "at" "Store.at" s_Store_at) (f15 : FnFact K "thing_of" "thing_of" s_thing_of) (f16 : FnFact K "kind_of" "kind_of" s_kind_of) (f17 : FnFact K "is_true" "is_true" s_is_true) (f18 : FnFact K "equal" "equal" s_equal) (f19 : FnFact K "is_key" "is_key" s_is_key) (f20 : FnFact K "_law_cell" "_law_cell" s_law_cell) (f21 : FnFact K "_law_begin" "_law_begin" s_law_begin) (f22 : FnFact K "_law_draw" "_law_draw" s_law_draw) (f23 : FnFact K "_law_pick" "_law_pick" s_law_pick) (f24 : FnFact K "_law_store" "_law_store" s_law_store) (f25 : FnFact K "_law_value" "_law_value" s_law_value) (f26 : FnFact K "_law_kind" "_law_kind" s_law_kind) (f27 : FnFact K "_law_two" "_law_two" s_law_two) (f28 : FnFact K "law" "law" s_law)
    (z_abs : PySem.W.nsIn K mainGlobals "abs" = some none) (z_bool : PySem.W.nsIn K mainGlobals "bool" = some none) (z_int : PySem.W.nsIn K mainGlobals "int" = some none) (z_isinstance : PySem.W.nsIn K mainGlobals "isinstance" = some none) (z_len : PySem.W.nsIn K mainGlobals "len" = some none) (z_list : PySem.W.nsIn K mainGlobals "list" = some none) (z_max : PySem.W.nsIn K mainGlobals "max" = some none) (z_min : PySem.W.nsIn K mainGlobals "min" = some none) (z_range : PySem.W.nsIn K mainGlobals "range" = some none) (z_str : PySem.W.nsIn K mainGlobals "str" = some none) (z_tuple : PySem.W.nsIn K mainGlobals "tuple" = some none)
    (q_BUILTINS : TupFact K "BUILTINS" [.str "print", .str "read", .str "str", .str "int", .str "len", .str "range", .str "kind", .str "abs", .str "min", .str "max", .str "pow", .str "gcd", .str "sqrt", .str "base", .str "parse", .str "char", .str "assert", .str "copy", .str "equals"]) (q_ERROR : ∃ t, PySem.W.nsIn K mainGlobals "ERROR" = some (some (.str "Error" t))) :
    ∃ fd : FuncData, (∀ (s : Shared) (v : Value), BindsTo s fd ⟨[v], []⟩ [("script", v)]) ∧ ∀ base : Heap, K.In base → base.Ns mainGlobals mg → FnOk P w K mg base CX0 6 fa fd ["script"] (spLaw K) := by
  have T : Txt K mg ⟨C_Ref, C_Builtin, C_Parts, C_Table, C_Instance, C_Kin, C_Closure, C_Bound, C_Variable, C_Cursor, C_Store⟩ := ⟨PySem.W.mg_none_of X G z_abs,
    PySem.W.mg_none_of X G z_bool,
    PySem.W.mg_none_of X G z_int,
    PySem.W.mg_none_of X G z_isinstance,
    PySem.W.mg_none_of X G z_len,
    PySem.W.mg_none_of X G z_list,
    PySem.W.mg_none_of X G z_max,
    PySem.W.mg_none_of X G z_min,
    PySem.W.mg_none_of X G z_range,
    PySem.W.mg_none_of X G z_str,
    PySem.W.mg_none_of X G z_tuple,
    (TupFact.get X G q_BUILTINS),
    (let ⟨t, h⟩ := q_ERROR; ⟨t, PySem.W.mg_of X G h⟩),
    PySem.W.mg_of X G n_Ref,
    x_Ref.cls,
    ⟨x_Ref.mks, x_Ref.kp, PySem.W.mg_of X G n_Ref⟩,
    PySem.W.mg_of X G n_Builtin,
    x_Builtin.cls,
    ⟨x_Builtin.mks, x_Builtin.kp, PySem.W.mg_of X G n_Builtin⟩,
    PySem.W.mg_of X G n_Parts,
    x_Parts.cls,
    ⟨x_Parts.mks, x_Parts.kp, PySem.W.mg_of X G n_Parts⟩,
    PySem.W.mg_of X G n_Table,
    x_Table.cls,
    ⟨x_Table.mks, x_Table.kp, PySem.W.mg_of X G n_Table⟩,
    PySem.W.mg_of X G n_Instance,
    x_Instance.cls,
    ⟨x_Instance.mks, x_Instance.kp, PySem.W.mg_of X G n_Instance⟩,
    PySem.W.mg_of X G n_Kin,
    x_Kin.cls,
    ⟨x_Kin.mks, x_Kin.kp, PySem.W.mg_of X G n_Kin⟩,
    PySem.W.mg_of X G n_Closure,
    x_Closure.cls,
    ⟨x_Closure.mks, x_Closure.kp, PySem.W.mg_of X G n_Closure⟩,
    PySem.W.mg_of X G n_Bound,
    x_Bound.cls,
    ⟨x_Bound.mks, x_Bound.kp, PySem.W.mg_of X G n_Bound⟩,
    PySem.W.mg_of X G n_Variable,
    x_Variable.cls,
    ⟨x_Variable.mks, x_Variable.kp, PySem.W.mg_of X G n_Variable⟩,
    PySem.W.mg_of X G n_Cursor,
    x_Cursor.cls,
    ⟨x_Cursor.mks, x_Cursor.kp, PySem.W.mg_of X G n_Cursor⟩,
    PySem.W.mg_of X G n_Store,
    x_Store.cls,
    ⟨x_Store.mks, x_Store.kp, PySem.W.mg_of X G n_Store⟩,
    (all_cons ⟨x_Table.cls, na__rows_Table⟩ all_nil),
    (all_cons ⟨x_Bound.cls, na_function_Bound⟩ all_nil),
    (all_cons ⟨x_Parts.cls, na_held_Parts⟩ all_nil),
    (all_cons ⟨x_Store.cls, na_lines_Store⟩ all_nil),
    (all_cons ⟨x_Kin.cls, na_methods_Kin⟩ all_nil),
    (all_cons ⟨x_Builtin.cls, na_name_Builtin⟩ (all_cons ⟨x_Kin.cls, na_name_Kin⟩ all_nil)),
    (all_cons ⟨x_Instance.cls, na_named_Instance⟩ all_nil),
    (all_cons ⟨x_Ref.cls, na_number_Ref⟩ (all_cons ⟨x_Closure.cls, na_number_Closure⟩ all_nil)),
    (all_cons ⟨x_Store.cls, na_output_Store⟩ all_nil),
    (all_cons ⟨x_Instance.cls, na_owner_Instance⟩ (all_cons ⟨x_Bound.cls, na_owner_Bound⟩ all_nil)),
    (all_cons ⟨x_Kin.cls, na_parent_Kin⟩ all_nil),
    (all_cons ⟨x_Cursor.cls, na_rest_Cursor⟩ all_nil),
    (all_cons ⟨x_Closure.cls, na_scope_Closure⟩ all_nil),
    (all_cons ⟨x_Store.cls, na_taken_Store⟩ all_nil),
    (all_cons ⟨x_Store.cls, na_things_Store⟩ all_nil),
    (all_cons ⟨x_Variable.cls, na_value_Variable⟩ all_nil),
    (all_cons ⟨x_Closure.cls, na_wanted_Closure⟩ all_nil),
    ob,
    ⟨(all_cons (x_Ref.ocls ob) (all_cons (x_Builtin.ocls ob) (all_cons (x_Parts.ocls ob) (all_cons (x_Table.ocls ob) (all_cons (x_Instance.ocls ob) (all_cons (x_Kin.ocls ob) (all_cons (x_Closure.ocls ob) (all_cons (x_Bound.ocls ob) (all_cons (x_Variable.ocls ob) (all_cons (x_Cursor.ocls ob) (all_cons (x_Store.ocls ob) all_nil))))))))))), (all_cons (all_cons oo_Ref_Ref (all_cons oo_Ref_Parts (all_cons oo_Ref_Table (all_cons oo_Ref_Instance (all_cons oo_Ref_Kin (all_cons oo_Ref_Builtin all_nil)))))) (all_cons (all_cons oo_Builtin_Ref (all_cons oo_Builtin_Parts (all_cons oo_Builtin_Table (all_cons oo_Builtin_Instance (all_cons oo_Builtin_Kin (all_cons oo_Builtin_Builtin all_nil)))))) (all_cons (all_cons oo_Parts_Ref (all_cons oo_Parts_Parts (all_cons oo_Parts_Table (all_cons oo_Parts_Instance (all_cons oo_Parts_Kin (all_cons oo_Parts_Builtin all_nil)))))) (all_cons (all_cons oo_Table_Ref (all_cons oo_Table_Parts (all_cons oo_Table_Table (all_cons oo_Table_Instance (all_cons oo_Table_Kin (all_cons oo_Table_Builtin all_nil)))))) (all_cons (all_cons oo_Instance_Ref (all_cons oo_Instance_Parts (all_cons oo_Instance_Table (all_cons oo_Instance_Instance (all_cons oo_Instance_Kin (all_cons oo_Instance_Builtin all_nil)))))) (all_cons (all_cons oo_Kin_Ref (all_cons oo_Kin_Parts (all_cons oo_Kin_Table (all_cons oo_Kin_Instance (all_cons oo_Kin_Kin (all_cons oo_Kin_Builtin all_nil)))))) (all_cons (all_cons oo_Closure_Ref (all_cons oo_Closure_Parts (all_cons oo_Closure_Table (all_cons oo_Closure_Instance (all_cons oo_Closure_Kin (all_cons oo_Closure_Builtin all_nil)))))) (all_cons (all_cons oo_Bound_Ref (all_cons oo_Bound_Parts (all_cons oo_Bound_Table (all_cons oo_Bound_Instance (all_cons oo_Bound_Kin (all_cons oo_Bound_Builtin all_nil)))))) (all_cons (all_cons oo_Variable_Ref (all_cons oo_Variable_Parts (all_cons oo_Variable_Table (all_cons oo_Variable_Instance (all_cons oo_Variable_Kin (all_cons oo_Variable_Builtin all_nil)))))) (all_cons (all_cons oo_Cursor_Ref (all_cons oo_Cursor_Parts (all_cons oo_Cursor_Table (all_cons oo_Cursor_Instance (all_cons oo_Cursor_Kin (all_cons oo_Cursor_Builtin all_nil)))))) (all_cons (all_cons oo_Store_Ref (all_cons oo_Store_Parts (all_cons oo_Store_Table (all_cons oo_Store_Instance (all_cons oo_Store_Kin (all_cons oo_Store_Builtin all_nil)))))) all_nil))))))))))), (all_cons (all_cons bo_NoneType_Ref (all_cons bo_NoneType_Parts (all_cons bo_NoneType_Table (all_cons bo_NoneType_Instance (all_cons bo_NoneType_Kin (all_cons bo_NoneType_Builtin all_nil)))))) (all_cons (all_cons bo_bool_Ref (all_cons bo_bool_Parts (all_cons bo_bool_Table (all_cons bo_bool_Instance (all_cons bo_bool_Kin (all_cons bo_bool_Builtin all_nil)))))) (all_cons (all_cons bo_int_Ref (all_cons bo_int_Parts (all_cons bo_int_Table (all_cons bo_int_Instance (all_cons bo_int_Kin (all_cons bo_int_Builtin all_nil)))))) (all_cons (all_cons bo_str_Ref (all_cons bo_str_Parts (all_cons bo_str_Table (all_cons bo_str_Instance (all_cons bo_str_Kin (all_cons bo_str_Builtin all_nil)))))) (all_cons (all_cons bo_list_Ref (all_cons bo_list_Parts (all_cons bo_list_Table (all_cons bo_list_Instance (all_cons bo_list_Kin (all_cons bo_list_Builtin all_nil)))))) (all_cons (all_cons bo_tuple_Ref (all_cons bo_tuple_Parts (all_cons bo_tuple_Table (all_cons bo_tuple_Instance (all_cons bo_tuple_Kin (all_cons bo_tuple_Builtin all_nil)))))) (all_cons (all_cons bo_dict_Ref (all_cons bo_dict_Parts (all_cons bo_dict_Table (all_cons bo_dict_Instance (all_cons bo_dict_Kin (all_cons bo_dict_Builtin all_nil)))))) all_nil))))))), (all_cons (all_cons ob_Ref_bool (all_cons ob_Ref_int (all_cons ob_Ref_str (all_cons ob_Ref_list (all_cons ob_Ref_tuple (all_cons ob_Ref_dict all_nil)))))) (all_cons (all_cons ob_Builtin_bool (all_cons ob_Builtin_int (all_cons ob_Builtin_str (all_cons ob_Builtin_list (all_cons ob_Builtin_tuple (all_cons ob_Builtin_dict all_nil)))))) (all_cons (all_cons ob_Parts_bool (all_cons ob_Parts_int (all_cons ob_Parts_str (all_cons ob_Parts_list (all_cons ob_Parts_tuple (all_cons ob_Parts_dict all_nil)))))) (all_cons (all_cons ob_Table_bool (all_cons ob_Table_int (all_cons ob_Table_str (all_cons ob_Table_list (all_cons ob_Table_tuple (all_cons ob_Table_dict all_nil)))))) (all_cons (all_cons ob_Instance_bool (all_cons ob_Instance_int (all_cons ob_Instance_str (all_cons ob_Instance_list (all_cons ob_Instance_tuple (all_cons ob_Instance_dict all_nil)))))) (all_cons (all_cons ob_Kin_bool (all_cons ob_Kin_int (all_cons ob_Kin_str (all_cons ob_Kin_list (all_cons ob_Kin_tuple (all_cons ob_Kin_dict all_nil)))))) (all_cons (all_cons ob_Closure_bool (all_cons ob_Closure_int (all_cons ob_Closure_str (all_cons ob_Closure_list (all_cons ob_Closure_tuple (all_cons ob_Closure_dict all_nil)))))) (all_cons (all_cons ob_Bound_bool (all_cons ob_Bound_int (all_cons ob_Bound_str (all_cons ob_Bound_list (all_cons ob_Bound_tuple (all_cons ob_Bound_dict all_nil)))))) (all_cons (all_cons ob_Variable_bool (all_cons ob_Variable_int (all_cons ob_Variable_str (all_cons ob_Variable_list (all_cons ob_Variable_tuple (all_cons ob_Variable_dict all_nil)))))) (all_cons (all_cons ob_Cursor_bool (all_cons ob_Cursor_int (all_cons ob_Cursor_str (all_cons ob_Cursor_list (all_cons ob_Cursor_tuple (all_cons ob_Cursor_dict all_nil)))))) (all_cons (all_cons ob_Store_bool (all_cons ob_Store_int (all_cons ob_Store_str (all_cons ob_Store_list (all_cons ob_Store_tuple (all_cons ob_Store_dict all_nil)))))) all_nil)))))))))))⟩,
    ⟨eq_false ne_Ref_Builtin, eq_false ne_Ref_Parts, eq_false ne_Ref_Table, eq_false ne_Ref_Instance, eq_false ne_Ref_Kin, eq_false ne_Ref_Closure, eq_false ne_Ref_Bound, eq_false ne_Ref_Variable, eq_false ne_Ref_Cursor, eq_false ne_Ref_Store, eq_false (fun h => ne_Ref_Builtin h.symm), eq_false ne_Builtin_Parts, eq_false ne_Builtin_Table, eq_false ne_Builtin_Instance, eq_false ne_Builtin_Kin, eq_false ne_Builtin_Closure, eq_false ne_Builtin_Bound, eq_false ne_Builtin_Variable, eq_false ne_Builtin_Cursor, eq_false ne_Builtin_Store, eq_false (fun h => ne_Ref_Parts h.symm), eq_false (fun h => ne_Builtin_Parts h.symm), eq_false ne_Parts_Table, eq_false ne_Parts_Instance, eq_false ne_Parts_Kin, eq_false ne_Parts_Closure, eq_false ne_Parts_Bound, eq_false ne_Parts_Variable, eq_false ne_Parts_Cursor, eq_false ne_Parts_Store, eq_false (fun h => ne_Ref_Table h.symm), eq_false (fun h => ne_Builtin_Table h.symm), eq_false (fun h => ne_Parts_Table h.symm), eq_false ne_Table_Instance, eq_false ne_Table_Kin, eq_false ne_Table_Closure, eq_false ne_Table_Bound, eq_false ne_Table_Variable, eq_false ne_Table_Cursor, eq_false ne_Table_Store, eq_false (fun h => ne_Ref_Instance h.symm), eq_false (fun h => ne_Builtin_Instance h.symm), eq_false (fun h => ne_Parts_Instance h.symm), eq_false (fun h => ne_Table_Instance h.symm), eq_false ne_Instance_Kin, eq_false ne_Instance_Closure, eq_false ne_Instance_Bound, eq_false ne_Instance_Variable, eq_false ne_Instance_Cursor, eq_false ne_Instance_Store, eq_false (fun h => ne_Ref_Kin h.symm), eq_false (fun h => ne_Builtin_Kin h.symm), eq_false (fun h => ne_Parts_Kin h.symm), eq_false (fun h => ne_Table_Kin h.symm), eq_false (fun h => ne_Instance_Kin h.symm), eq_false ne_Kin_Closure, eq_false ne_Kin_Bound, eq_false ne_Kin_Variable, eq_false ne_Kin_Cursor, eq_false ne_Kin_Store, eq_false (fun h => ne_Ref_Closure h.symm), eq_false (fun h => ne_Builtin_Closure h.symm), eq_false (fun h => ne_Parts_Closure h.symm), eq_false (fun h => ne_Table_Closure h.symm), eq_false (fun h => ne_Instance_Closure h.symm), eq_false (fun h => ne_Kin_Closure h.symm), eq_false ne_Closure_Bound, eq_false ne_Closure_Variable, eq_false ne_Closure_Cursor, eq_false ne_Closure_Store, eq_false (fun h => ne_Ref_Bound h.symm), eq_false (fun h => ne_Builtin_Bound h.symm), eq_false (fun h => ne_Parts_Bound h.symm), eq_false (fun h => ne_Table_Bound h.symm), eq_false (fun h => ne_Instance_Bound h.symm), eq_false (fun h => ne_Kin_Bound h.symm), eq_false (fun h => ne_Closure_Bound h.symm), eq_false ne_Bound_Variable, eq_false ne_Bound_Cursor, eq_false ne_Bound_Store, eq_false (fun h => ne_Ref_Variable h.symm), eq_false (fun h => ne_Builtin_Variable h.symm), eq_false (fun h => ne_Parts_Variable h.symm), eq_false (fun h => ne_Table_Variable h.symm), eq_false (fun h => ne_Instance_Variable h.symm), eq_false (fun h => ne_Kin_Variable h.symm), eq_false (fun h => ne_Closure_Variable h.symm), eq_false (fun h => ne_Bound_Variable h.symm), eq_false ne_Variable_Cursor, eq_false ne_Variable_Store, eq_false (fun h => ne_Ref_Cursor h.symm), eq_false (fun h => ne_Builtin_Cursor h.symm), eq_false (fun h => ne_Parts_Cursor h.symm), eq_false (fun h => ne_Table_Cursor h.symm), eq_false (fun h => ne_Instance_Cursor h.symm), eq_false (fun h => ne_Kin_Cursor h.symm), eq_false (fun h => ne_Closure_Cursor h.symm), eq_false (fun h => ne_Bound_Cursor h.symm), eq_false (fun h => ne_Variable_Cursor h.symm), eq_false ne_Cursor_Store, eq_false (fun h => ne_Ref_Store h.symm), eq_false (fun h => ne_Builtin_Store h.symm), eq_false (fun h => ne_Parts_Store h.symm), eq_false (fun h => ne_Table_Store h.symm), eq_false (fun h => ne_Instance_Store h.symm), eq_false (fun h => ne_Kin_Store h.symm), eq_false (fun h => ne_Closure_Store h.symm), eq_false (fun h => ne_Bound_Store h.symm), eq_false (fun h => ne_Variable_Store h.symm), eq_false (fun h => ne_Cursor_Store h.symm)⟩⟩
  have a0 : AtM K C_Ref "__init__" "Ref.__init__" s_Ref___init__ ["self", "number"] := AtM.of f0 fun _ _ _ _ _ _ us hl => match us, hl with | [_, _], _ => rfl
  have a1 : AtM K C_Ref "__eq__" "Ref.__eq__" s_Ref___eq__ ["self", "other"] := AtM.of f1 fun _ _ _ _ _ _ us hl => match us, hl with | [_, _], _ => rfl
  have a2 : AtM K C_Builtin "__init__" "Builtin.__init__" s_Builtin___init__ ["self", "name"] := AtM.of f2 fun _ _ _ _ _ _ us hl => match us, hl with | [_, _], _ => rfl
  have a3 : AtM K C_Builtin "__eq__" "Builtin.__eq__" s_Builtin___eq__ ["self", "other"] := AtM.of f3 fun _ _ _ _ _ _ us hl => match us, hl with | [_, _], _ => rfl
  have a4 : AtM K C_Parts "__init__" "Parts.__init__" s_Parts___init__ ["self", "held"] := AtM.of f4 fun _ _ _ _ _ _ us hl => match us, hl with | [_, _], _ => rfl
  have a5 : AtM K C_Table "__init__" "Table.__init__" s_Table___init__ ["self"] := AtM.of f5 fun _ _ _ _ _ _ us hl => match us, hl with | [_], _ => rfl
  have a6 : AtM K C_Instance "__init__" "Instance.__init__" s_Instance___init__ ["self", "owner"] := AtM.of f6 fun _ _ _ _ _ _ us hl => match us, hl with | [_, _], _ => rfl
  have a7 : AtM K C_Kin "__init__" "Kin.__init__" s_Kin___init__ ["self", "name", "parent"] := AtM.of f7 fun _ _ _ _ _ _ us hl => match us, hl with | [_, _, _], _ => rfl
  have a8 : AtM K C_Closure "__init__" "Closure.__init__" s_Closure___init__ ["self", "number", "wanted", "scope"] := AtM.of f8 fun _ _ _ _ _ _ us hl => match us, hl with | [_, _, _, _], _ => rfl
  have a9 : AtM K C_Bound "__init__" "Bound.__init__" s_Bound___init__ ["self", "owner", "function"] := AtM.of f9 fun _ _ _ _ _ _ us hl => match us, hl with | [_, _, _], _ => rfl
  have a10 : AtM K C_Variable "__init__" "Variable.__init__" s_Variable___init__ ["self", "value"] := AtM.of f10 fun _ _ _ _ _ _ us hl => match us, hl with | [_, _], _ => rfl
  have a11 : AtM K C_Cursor "__init__" "Cursor.__init__" s_Cursor___init__ ["self", "rest"] := AtM.of f11 fun _ _ _ _ _ _ us hl => match us, hl with | [_, _], _ => rfl
  have a12 : AtM K C_Store "__init__" "Store.__init__" s_Store___init__ ["self", "lines"] := AtM.of f12 fun _ _ _ _ _ _ us hl => match us, hl with | [_, _], _ => rfl
  have a13 : AtM K C_Store "make" "Store.make" s_Store_make ["self", "thing"] := AtM.of f13 fun _ _ _ _ _ _ us hl => match us, hl with | [_, _], _ => rfl
  have a14 : AtM K C_Store "at" "Store.at" s_Store_at ["self", "ref"] := AtM.of f14 fun _ _ _ _ _ _ us hl => match us, hl with | [_, _], _ => rfl
  have a15 : At K mg "thing_of" "thing_of" s_thing_of ["store", "value"] := At.of X G f15 fun _ _ _ _ _ _ us hl => match us, hl with | [_, _], _ => rfl
  have a16 : At K mg "kind_of" "kind_of" s_kind_of ["store", "value"] := At.of X G f16 fun _ _ _ _ _ _ us hl => match us, hl with | [_, _], _ => rfl
  have a17 : At K mg "is_true" "is_true" s_is_true ["value"] := At.of X G f17 fun _ _ _ _ _ _ us hl => match us, hl with | [_], _ => rfl
  have a18 : At K mg "equal" "equal" s_equal ["x", "y"] := At.of X G f18 fun _ _ _ _ _ _ us hl => match us, hl with | [_, _], _ => rfl
  have a19 : At K mg "is_key" "is_key" s_is_key ["value"] := At.of X G f19 fun _ _ _ _ _ _ us hl => match us, hl with | [_], _ => rfl
  have a20 : At K mg "_law_cell" "_law_cell" s_law_cell ["script", "k"] := At.of X G f20 fun _ _ _ _ _ _ us hl => match us, hl with | [_, _], _ => rfl
  have a21 : At K mg "_law_begin" "_law_begin" s_law_begin ["script", "k"] := At.of X G f21 fun _ _ _ _ _ _ us hl => match us, hl with | [_, _], _ => rfl
  have a22 : At K mg "_law_draw" "_law_draw" s_law_draw ["state", "many"] := At.of X G f22 fun _ _ _ _ _ _ us hl => match us, hl with | [_, _], _ => rfl
  have a23 : At K mg "_law_pick" "_law_pick" s_law_pick ["state", "row"] := At.of X G f23 fun _ _ _ _ _ _ us hl => match us, hl with | [_, _], _ => rfl
  have a24 : At K mg "_law_store" "_law_store" s_law_store [] := At.of X G f24 fun _ _ _ _ _ _ us hl => match us, hl with | [], _ => rfl
  have a25 : At K mg "_law_value" "_law_value" s_law_value ["state"] := At.of X G f25 fun _ _ _ _ _ _ us hl => match us, hl with | [_], _ => rfl
  have a26 : At K mg "_law_kind" "_law_kind" s_law_kind ["row"] := At.of X G f26 fun _ _ _ _ _ _ us hl => match us, hl with | [_], _ => rfl
  have a27 : At K mg "_law_two" "_law_two" s_law_two ["one", "two"] := At.of X G f27 fun _ _ _ _ _ _ us hl => match us, hl with | [_, _], _ => rfl
  obtain ⟨f, oc, od, an, sl, kV, dc, pm, cd, ct, a, l, cc, k⟩ := f28.ex
  have e := hfa.symm.trans (PySem.W.mg_of X G a)
  cases e
  have F1 := fun_mk (st := s_law) l cc k
  have al : At K mg "law" "law" s_law ["script"] := ⟨_, _, F1, F1.binds fun _ _ _ _ _ _ us hl => match us, hl with | [_], _ => rfl, PySem.W.mg_of X G a⟩
  refine ⟨PySem.W.fnOf "law" "law" (defArgs s_law) (defBody s_law) (defScope s_law) .none kV dc pm an cd ct, fun s v => .of_eq rfl, fun base _ _ => ?_⟩
  exact law_fn F1 T a0 a1 a2 a3 a4 a5 a6 a7 a8 a9 a10 a11 a12 a13 a14 a15 a16 a17 a18 a19 a20 a21 a22 a23 a24 a25 a26 a27
end My
open PySem PySem.W PyProof.Rows
set_option maxRecDepth 100000 in
set_option maxHeartbeats 0 in
theorem PySem.Challenge.cw_livequill_k19_equality_and_truth_holds : PySem.Challenge.rw_livequill_k19_equality_and_truth.Holds := by
  w_on; o_law; k_head; (case hw => w_witness2)
  k_fill
  refine L2.walk_ofB (l := PySem.Challenge.rw_livequill_k19_equality_and_truth) (n := 63) (k := 6) (x := "script") (CX := fun _ => L2.CX0) (sp := fun w => My.spLaw _) rfl (by decide) rfl ⟨rfl, by decide, by decide⟩ (fun w h Y => PySem.W.kIn_of Y) ?F (fun _ _ a ns hl hb _ hS => ⟨a, ns, rfl, hS, hl, hb, fun _ => rfl⟩) (fun _ _ _ _ _ h => h)
  case F =>
    intro w mg fa h KX G hmg
    refine' My.all_mk KX G hmg ?n_Ref ?n_Builtin ?n_Parts ?n_Table ?n_Instance ?n_Kin ?n_Closure ?n_Bound ?n_Variable ?n_Cursor ?n_Store (Fx.ClsFact.mk ?pg_Ref ?hd_Ref ?po_Ref ?sa_Ref ?ci_Ref ?mr_Ref ?mk_Ref ?kp_Ref) (Fx.ClsFact.mk ?pg_Builtin ?hd_Builtin ?po_Builtin ?sa_Builtin ?ci_Builtin ?mr_Builtin ?mk_Builtin ?kp_Builtin) (Fx.ClsFact.mk ?pg_Parts ?hd_Parts ?po_Parts ?sa_Parts ?ci_Parts ?mr_Parts ?mk_Parts ?kp_Parts) (Fx.ClsFact.mk ?pg_Table ?hd_Table ?po_Table ?sa_Table ?ci_Table ?mr_Table ?mk_Table ?kp_Table) (Fx.ClsFact.mk ?pg_Instance ?hd_Instance ?po_Instance ?sa_Instance ?ci_Instance ?mr_Instance ?mk_Instance ?kp_Instance) (Fx.ClsFact.mk ?pg_Kin ?hd_Kin ?po_Kin ?sa_Kin ?ci_Kin ?mr_Kin ?mk_Kin ?kp_Kin) (Fx.ClsFact.mk ?pg_Closure ?hd_Closure ?po_Closure ?sa_Closure ?ci_Closure ?mr_Closure ?mk_Closure ?kp_Closure) (Fx.ClsFact.mk ?pg_Bound ?hd_Bound ?po_Bound ?sa_Bound ?ci_Bound ?mr_Bound ?mk_Bound ?kp_Bound) (Fx.ClsFact.mk ?pg_Variable ?hd_Variable ?po_Variable ?sa_Variable ?ci_Variable ?mr_Variable ?mk_Variable ?kp_Variable) (Fx.ClsFact.mk ?pg_Cursor ?hd_Cursor ?po_Cursor ?sa_Cursor ?ci_Cursor ?mr_Cursor ?mk_Cursor ?kp_Cursor) (Fx.ClsFact.mk ?pg_Store ?hd_Store ?po_Store ?sa_Store ?ci_Store ?mr_Store ?mk_Store ?kp_Store) (Fx.ObjFact.mk ?ob_gd ?ob_tk) ?na__rows_Table ?na_function_Bound ?na_held_Parts ?na_lines_Store ?na_methods_Kin ?na_name_Builtin ?na_name_Kin ?na_named_Instance ?na_number_Ref ?na_number_Closure ?na_output_Store ?na_owner_Instance ?na_owner_Bound ?na_parent_Kin ?na_rest_Cursor ?na_scope_Closure ?na_taken_Store ?na_things_Store ?na_value_Variable ?na_wanted_Closure ?oo_Ref_Ref ?oo_Ref_Parts ?oo_Ref_Table ?oo_Ref_Instance ?oo_Ref_Kin ?oo_Ref_Builtin ?oo_Builtin_Ref ?oo_Builtin_Parts ?oo_Builtin_Table ?oo_Builtin_Instance ?oo_Builtin_Kin ?oo_Builtin_Builtin ?oo_Parts_Ref ?oo_Parts_Parts ?oo_Parts_Table ?oo_Parts_Instance ?oo_Parts_Kin ?oo_Parts_Builtin ?oo_Table_Ref ?oo_Table_Parts ?oo_Table_Table ?oo_Table_Instance ?oo_Table_Kin ?oo_Table_Builtin ?oo_Instance_Ref ?oo_Instance_Parts ?oo_Instance_Table ?oo_Instance_Instance ?oo_Instance_Kin ?oo_Instance_Builtin ?oo_Kin_Ref ?oo_Kin_Parts ?oo_Kin_Table ?oo_Kin_Instance ?oo_Kin_Kin ?oo_Kin_Builtin ?oo_Closure_Ref ?oo_Closure_Parts ?oo_Closure_Table ?oo_Closure_Instance ?oo_Closure_Kin ?oo_Closure_Builtin ?oo_Bound_Ref ?oo_Bound_Parts ?oo_Bound_Table ?oo_Bound_Instance ?oo_Bound_Kin ?oo_Bound_Builtin ?oo_Variable_Ref ?oo_Variable_Parts ?oo_Variable_Table ?oo_Variable_Instance ?oo_Variable_Kin ?oo_Variable_Builtin ?oo_Cursor_Ref ?oo_Cursor_Parts ?oo_Cursor_Table ?oo_Cursor_Instance ?oo_Cursor_Kin ?oo_Cursor_Builtin ?oo_Store_Ref ?oo_Store_Parts ?oo_Store_Table ?oo_Store_Instance ?oo_Store_Kin ?oo_Store_Builtin ?bo_NoneType_Ref ?bo_NoneType_Parts ?bo_NoneType_Table ?bo_NoneType_Instance ?bo_NoneType_Kin ?bo_NoneType_Builtin ?bo_bool_Ref ?bo_bool_Parts ?bo_bool_Table ?bo_bool_Instance ?bo_bool_Kin ?bo_bool_Builtin ?bo_int_Ref ?bo_int_Parts ?bo_int_Table ?bo_int_Instance ?bo_int_Kin ?bo_int_Builtin ?bo_str_Ref ?bo_str_Parts ?bo_str_Table ?bo_str_Instance ?bo_str_Kin ?bo_str_Builtin ?bo_list_Ref ?bo_list_Parts ?bo_list_Table ?bo_list_Instance ?bo_list_Kin ?bo_list_Builtin ?bo_tuple_Ref ?bo_tuple_Parts ?bo_tuple_Table ?bo_tuple_Instance ?bo_tuple_Kin ?bo_tuple_Builtin ?bo_dict_Ref ?bo_dict_Parts ?bo_dict_Table ?bo_dict_Instance ?bo_dict_Kin ?bo_dict_Builtin ?ob_Ref_bool ?ob_Ref_int ?ob_Ref_str ?ob_Ref_list ?ob_Ref_tuple ?ob_Ref_dict ?ob_Builtin_bool ?ob_Builtin_int ?ob_Builtin_str ?ob_Builtin_list ?ob_Builtin_tuple ?ob_Builtin_dict ?ob_Parts_bool ?ob_Parts_int ?ob_Parts_str ?ob_Parts_list ?ob_Parts_tuple ?ob_Parts_dict ?ob_Table_bool ?ob_Table_int ?ob_Table_str ?ob_Table_list ?ob_Table_tuple ?ob_Table_dict ?ob_Instance_bool ?ob_Instance_int ?ob_Instance_str ?ob_Instance_list ?ob_Instance_tuple ?ob_Instance_dict ?ob_Kin_bool ?ob_Kin_int ?ob_Kin_str ?ob_Kin_list ?ob_Kin_tuple ?ob_Kin_dict ?ob_Closure_bool ?ob_Closure_int ?ob_Closure_str ?ob_Closure_list ?ob_Closure_tuple ?ob_Closure_dict ?ob_Bound_bool ?ob_Bound_int ?ob_Bound_str ?ob_Bound_list ?ob_Bound_tuple ?ob_Bound_dict ?ob_Variable_bool ?ob_Variable_int ?ob_Variable_str ?ob_Variable_list ?ob_Variable_tuple ?ob_Variable_dict ?ob_Cursor_bool ?ob_Cursor_int ?ob_Cursor_str ?ob_Cursor_list ?ob_Cursor_tuple ?ob_Cursor_dict ?ob_Store_bool ?ob_Store_int ?ob_Store_str ?ob_Store_list ?ob_Store_tuple ?ob_Store_dict ?ne_Ref_Builtin ?ne_Ref_Parts ?ne_Ref_Table ?ne_Ref_Instance ?ne_Ref_Kin ?ne_Ref_Closure ?ne_Ref_Bound ?ne_Ref_Variable ?ne_Ref_Cursor ?ne_Ref_Store ?ne_Builtin_Parts ?ne_Builtin_Table ?ne_Builtin_Instance ?ne_Builtin_Kin ?ne_Builtin_Closure ?ne_Builtin_Bound ?ne_Builtin_Variable ?ne_Builtin_Cursor ?ne_Builtin_Store ?ne_Parts_Table ?ne_Parts_Instance ?ne_Parts_Kin ?ne_Parts_Closure ?ne_Parts_Bound ?ne_Parts_Variable ?ne_Parts_Cursor ?ne_Parts_Store ?ne_Table_Instance ?ne_Table_Kin ?ne_Table_Closure ?ne_Table_Bound ?ne_Table_Variable ?ne_Table_Cursor ?ne_Table_Store ?ne_Instance_Kin ?ne_Instance_Closure ?ne_Instance_Bound ?ne_Instance_Variable ?ne_Instance_Cursor ?ne_Instance_Store ?ne_Kin_Closure ?ne_Kin_Bound ?ne_Kin_Variable ?ne_Kin_Cursor ?ne_Kin_Store ?ne_Closure_Bound ?ne_Closure_Variable ?ne_Closure_Cursor ?ne_Closure_Store ?ne_Bound_Variable ?ne_Bound_Cursor ?ne_Bound_Store ?ne_Variable_Cursor ?ne_Variable_Store ?ne_Cursor_Store (Fx.MFact.of ?a0 ?l0 ?c0 ?k0 ?i0) (Fx.MFact.of ?a1 ?l1 ?c1 ?k1 ?i1) (Fx.MFact.of ?a2 ?l2 ?c2 ?k2 ?i2) (Fx.MFact.of ?a3 ?l3 ?c3 ?k3 ?i3) (Fx.MFact.of ?a4 ?l4 ?c4 ?k4 ?i4) (Fx.MFact.of ?a5 ?l5 ?c5 ?k5 ?i5) (Fx.MFact.of ?a6 ?l6 ?c6 ?k6 ?i6) (Fx.MFact.of ?a7 ?l7 ?c7 ?k7 ?i7) (Fx.MFact.of ?a8 ?l8 ?c8 ?k8 ?i8) (Fx.MFact.of ?a9 ?l9 ?c9 ?k9 ?i9) (Fx.MFact.of ?a10 ?l10 ?c10 ?k10 ?i10) (Fx.MFact.of ?a11 ?l11 ?c11 ?k11 ?i11) (Fx.MFact.of ?a12 ?l12 ?c12 ?k12 ?i12) (Fx.MFact.of ?a13 ?l13 ?c13 ?k13 ?i13) (Fx.MFact.of ?a14 ?l14 ?c14 ?k14 ?i14) (Fx.FnFact.of ?a15 ?l15 ?c15 ?k15) (Fx.FnFact.of ?a16 ?l16 ?c16 ?k16) (Fx.FnFact.of ?a17 ?l17 ?c17 ?k17) (Fx.FnFact.of ?a18 ?l18 ?c18 ?k18) (Fx.FnFact.of ?a19 ?l19 ?c19 ?k19) (Fx.FnFact.of ?a20 ?l20 ?c20 ?k20) (Fx.FnFact.of ?a21 ?l21 ?c21 ?k21) (Fx.FnFact.of ?a22 ?l22 ?c22 ?k22) (Fx.FnFact.of ?a23 ?l23 ?c23 ?k23) (Fx.FnFact.of ?a24 ?l24 ?c24 ?k24) (Fx.FnFact.of ?a25 ?l25 ?c25 ?k25) (Fx.FnFact.of ?a26 ?l26 ?c26 ?k26) (Fx.FnFact.of ?a27 ?l27 ?c27 ?k27) (Fx.FnFact.of ?a28 ?l28 ?c28 ?k28) ?z_abs ?z_bool ?z_int ?z_isinstance ?z_len ?z_list ?z_max ?z_min ?z_range ?z_str ?z_tuple (Fx.TupFact.of ?qa_BUILTINS ?qb_BUILTINS ?qc_BUILTINS ?qd_BUILTINS) (Fx.gstr_of ?q_ERROR)
    (case n_Ref => k_is)
    (case n_Builtin => k_is)
    (case n_Parts => k_is)
    (case n_Table => k_is)
    (case n_Instance => k_is)
    (case n_Kin => k_is)
    (case n_Closure => k_is)
    (case n_Bound => k_is)
    (case n_Variable => k_is)
    (case n_Cursor => k_is)
    (case n_Store => k_is)
    (case pg_Ref => k_is); (case hd_Ref => k_is); (case po_Ref => k_is); (case sa_Ref => k_is); (case ci_Ref => k_is); (case mr_Ref => k_is); (case mk_Ref => k_is); (case kp_Ref => k_is)
    (case pg_Builtin => k_is); (case hd_Builtin => k_is); (case po_Builtin => k_is); (case sa_Builtin => k_is); (case ci_Builtin => k_is); (case mr_Builtin => k_is); (case mk_Builtin => k_is); (case kp_Builtin => k_is)
    (case pg_Parts => k_is); (case hd_Parts => k_is); (case po_Parts => k_is); (case sa_Parts => k_is); (case ci_Parts => k_is); (case mr_Parts => k_is); (case mk_Parts => k_is); (case kp_Parts => k_is)
    (case pg_Table => k_is); (case hd_Table => k_is); (case po_Table => k_is); (case sa_Table => k_is); (case ci_Table => k_is); (case mr_Table => k_is); (case mk_Table => k_is); (case kp_Table => k_is)
    (case pg_Instance => k_is); (case hd_Instance => k_is); (case po_Instance => k_is); (case sa_Instance => k_is); (case ci_Instance => k_is); (case mr_Instance => k_is); (case mk_Instance => k_is); (case kp_Instance => k_is)
    (case pg_Kin => k_is); (case hd_Kin => k_is); (case po_Kin => k_is); (case sa_Kin => k_is); (case ci_Kin => k_is); (case mr_Kin => k_is); (case mk_Kin => k_is); (case kp_Kin => k_is)
    (case pg_Closure => k_is); (case hd_Closure => k_is); (case po_Closure => k_is); (case sa_Closure => k_is); (case ci_Closure => k_is); (case mr_Closure => k_is); (case mk_Closure => k_is); (case kp_Closure => k_is)
    (case pg_Bound => k_is); (case hd_Bound => k_is); (case po_Bound => k_is); (case sa_Bound => k_is); (case ci_Bound => k_is); (case mr_Bound => k_is); (case mk_Bound => k_is); (case kp_Bound => k_is)
    (case pg_Variable => k_is); (case hd_Variable => k_is); (case po_Variable => k_is); (case sa_Variable => k_is); (case ci_Variable => k_is); (case mr_Variable => k_is); (case mk_Variable => k_is); (case kp_Variable => k_is)
    (case pg_Cursor => k_is); (case hd_Cursor => k_is); (case po_Cursor => k_is); (case sa_Cursor => k_is); (case ci_Cursor => k_is); (case mr_Cursor => k_is); (case mk_Cursor => k_is); (case kp_Cursor => k_is)
    (case pg_Store => k_is); (case hd_Store => k_is); (case po_Store => k_is); (case sa_Store => k_is); (case ci_Store => k_is); (case mr_Store => k_is); (case mk_Store => k_is); (case kp_Store => k_is)
    (case ob_gd => k_is); (case ob_tk => k_is)
    (case na__rows_Table => k_is)
    (case na_function_Bound => k_is)
    (case na_held_Parts => k_is)
    (case na_lines_Store => k_is)
    (case na_methods_Kin => k_is)
    (case na_name_Builtin => k_is)
    (case na_name_Kin => k_is)
    (case na_named_Instance => k_is)
    (case na_number_Ref => k_is)
    (case na_number_Closure => k_is)
    (case na_output_Store => k_is)
    (case na_owner_Instance => k_is)
    (case na_owner_Bound => k_is)
    (case na_parent_Kin => k_is)
    (case na_rest_Cursor => k_is)
    (case na_scope_Closure => k_is)
    (case na_taken_Store => k_is)
    (case na_things_Store => k_is)
    (case na_value_Variable => k_is)
    (case na_wanted_Closure => k_is)
    (case oo_Ref_Ref => kit_is)
    (case oo_Ref_Parts => kit_is)
    (case oo_Ref_Table => kit_is)
    (case oo_Ref_Instance => kit_is)
    (case oo_Ref_Kin => kit_is)
    (case oo_Ref_Builtin => kit_is)
    (case oo_Builtin_Ref => kit_is)
    (case oo_Builtin_Parts => kit_is)
    (case oo_Builtin_Table => kit_is)
    (case oo_Builtin_Instance => kit_is)
    (case oo_Builtin_Kin => kit_is)
    (case oo_Builtin_Builtin => kit_is)
    (case oo_Parts_Ref => kit_is)
    (case oo_Parts_Parts => kit_is)
    (case oo_Parts_Table => kit_is)
    (case oo_Parts_Instance => kit_is)
    (case oo_Parts_Kin => kit_is)
    (case oo_Parts_Builtin => kit_is)
    (case oo_Table_Ref => kit_is)
    (case oo_Table_Parts => kit_is)
    (case oo_Table_Table => kit_is)
    (case oo_Table_Instance => kit_is)
    (case oo_Table_Kin => kit_is)
    (case oo_Table_Builtin => kit_is)
    (case oo_Instance_Ref => kit_is)
    (case oo_Instance_Parts => kit_is)
    (case oo_Instance_Table => kit_is)
    (case oo_Instance_Instance => kit_is)
    (case oo_Instance_Kin => kit_is)
    (case oo_Instance_Builtin => kit_is)
    (case oo_Kin_Ref => kit_is)
    (case oo_Kin_Parts => kit_is)
    (case oo_Kin_Table => kit_is)
    (case oo_Kin_Instance => kit_is)
    (case oo_Kin_Kin => kit_is)
    (case oo_Kin_Builtin => kit_is)
    (case oo_Closure_Ref => kit_is)
    (case oo_Closure_Parts => kit_is)
    (case oo_Closure_Table => kit_is)
    (case oo_Closure_Instance => kit_is)
    (case oo_Closure_Kin => kit_is)
    (case oo_Closure_Builtin => kit_is)
    (case oo_Bound_Ref => kit_is)
    (case oo_Bound_Parts => kit_is)
    (case oo_Bound_Table => kit_is)
    (case oo_Bound_Instance => kit_is)
    (case oo_Bound_Kin => kit_is)
    (case oo_Bound_Builtin => kit_is)
    (case oo_Variable_Ref => kit_is)
    (case oo_Variable_Parts => kit_is)
    (case oo_Variable_Table => kit_is)
    (case oo_Variable_Instance => kit_is)
    (case oo_Variable_Kin => kit_is)
    (case oo_Variable_Builtin => kit_is)
    (case oo_Cursor_Ref => kit_is)
    (case oo_Cursor_Parts => kit_is)
    (case oo_Cursor_Table => kit_is)
    (case oo_Cursor_Instance => kit_is)
    (case oo_Cursor_Kin => kit_is)
    (case oo_Cursor_Builtin => kit_is)
    (case oo_Store_Ref => kit_is)
    (case oo_Store_Parts => kit_is)
    (case oo_Store_Table => kit_is)
    (case oo_Store_Instance => kit_is)
    (case oo_Store_Kin => kit_is)
    (case oo_Store_Builtin => kit_is)
    (case bo_NoneType_Ref => kit_is)
    (case bo_NoneType_Parts => kit_is)
    (case bo_NoneType_Table => kit_is)
    (case bo_NoneType_Instance => kit_is)
    (case bo_NoneType_Kin => kit_is)
    (case bo_NoneType_Builtin => kit_is)
    (case bo_bool_Ref => kit_is)
    (case bo_bool_Parts => kit_is)
    (case bo_bool_Table => kit_is)
    (case bo_bool_Instance => kit_is)
    (case bo_bool_Kin => kit_is)
    (case bo_bool_Builtin => kit_is)
    (case bo_int_Ref => kit_is)
    (case bo_int_Parts => kit_is)
    (case bo_int_Table => kit_is)
    (case bo_int_Instance => kit_is)
    (case bo_int_Kin => kit_is)
    (case bo_int_Builtin => kit_is)
    (case bo_str_Ref => kit_is)
    (case bo_str_Parts => kit_is)
    (case bo_str_Table => kit_is)
    (case bo_str_Instance => kit_is)
    (case bo_str_Kin => kit_is)
    (case bo_str_Builtin => kit_is)
    (case bo_list_Ref => kit_is)
    (case bo_list_Parts => kit_is)
    (case bo_list_Table => kit_is)
    (case bo_list_Instance => kit_is)
    (case bo_list_Kin => kit_is)
    (case bo_list_Builtin => kit_is)
    (case bo_tuple_Ref => kit_is)
    (case bo_tuple_Parts => kit_is)
    (case bo_tuple_Table => kit_is)
    (case bo_tuple_Instance => kit_is)
    (case bo_tuple_Kin => kit_is)
    (case bo_tuple_Builtin => kit_is)
    (case bo_dict_Ref => kit_is)
    (case bo_dict_Parts => kit_is)
    (case bo_dict_Table => kit_is)
    (case bo_dict_Instance => kit_is)
    (case bo_dict_Kin => kit_is)
    (case bo_dict_Builtin => kit_is)
    (case ob_Ref_bool => kit_is)
    (case ob_Ref_int => kit_is)
    (case ob_Ref_str => kit_is)
    (case ob_Ref_list => kit_is)
    (case ob_Ref_tuple => kit_is)
    (case ob_Ref_dict => kit_is)
    (case ob_Builtin_bool => kit_is)
    (case ob_Builtin_int => kit_is)
    (case ob_Builtin_str => kit_is)
    (case ob_Builtin_list => kit_is)
    (case ob_Builtin_tuple => kit_is)
    (case ob_Builtin_dict => kit_is)
    (case ob_Parts_bool => kit_is)
    (case ob_Parts_int => kit_is)
    (case ob_Parts_str => kit_is)
    (case ob_Parts_list => kit_is)
    (case ob_Parts_tuple => kit_is)
    (case ob_Parts_dict => kit_is)
    (case ob_Table_bool => kit_is)
    (case ob_Table_int => kit_is)
    (case ob_Table_str => kit_is)
    (case ob_Table_list => kit_is)
    (case ob_Table_tuple => kit_is)
    (case ob_Table_dict => kit_is)
    (case ob_Instance_bool => kit_is)
    (case ob_Instance_int => kit_is)
    (case ob_Instance_str => kit_is)
    (case ob_Instance_list => kit_is)
    (case ob_Instance_tuple => kit_is)
    (case ob_Instance_dict => kit_is)
    (case ob_Kin_bool => kit_is)
    (case ob_Kin_int => kit_is)
    (case ob_Kin_str => kit_is)
    (case ob_Kin_list => kit_is)
    (case ob_Kin_tuple => kit_is)
    (case ob_Kin_dict => kit_is)
    (case ob_Closure_bool => kit_is)
    (case ob_Closure_int => kit_is)
    (case ob_Closure_str => kit_is)
    (case ob_Closure_list => kit_is)
    (case ob_Closure_tuple => kit_is)
    (case ob_Closure_dict => kit_is)
    (case ob_Bound_bool => kit_is)
    (case ob_Bound_int => kit_is)
    (case ob_Bound_str => kit_is)
    (case ob_Bound_list => kit_is)
    (case ob_Bound_tuple => kit_is)
    (case ob_Bound_dict => kit_is)
    (case ob_Variable_bool => kit_is)
    (case ob_Variable_int => kit_is)
    (case ob_Variable_str => kit_is)
    (case ob_Variable_list => kit_is)
    (case ob_Variable_tuple => kit_is)
    (case ob_Variable_dict => kit_is)
    (case ob_Cursor_bool => kit_is)
    (case ob_Cursor_int => kit_is)
    (case ob_Cursor_str => kit_is)
    (case ob_Cursor_list => kit_is)
    (case ob_Cursor_tuple => kit_is)
    (case ob_Cursor_dict => kit_is)
    (case ob_Store_bool => kit_is)
    (case ob_Store_int => kit_is)
    (case ob_Store_str => kit_is)
    (case ob_Store_list => kit_is)
    (case ob_Store_tuple => kit_is)
    (case ob_Store_dict => kit_is)
    (case ne_Ref_Builtin => decide)
    (case ne_Ref_Parts => decide)
    (case ne_Ref_Table => decide)
    (case ne_Ref_Instance => decide)
    (case ne_Ref_Kin => decide)
    (case ne_Ref_Closure => decide)
    (case ne_Ref_Bound => decide)
    (case ne_Ref_Variable => decide)
    (case ne_Ref_Cursor => decide)
    (case ne_Ref_Store => decide)
    (case ne_Builtin_Parts => decide)
    (case ne_Builtin_Table => decide)
    (case ne_Builtin_Instance => decide)
    (case ne_Builtin_Kin => decide)
    (case ne_Builtin_Closure => decide)
    (case ne_Builtin_Bound => decide)
    (case ne_Builtin_Variable => decide)
    (case ne_Builtin_Cursor => decide)
    (case ne_Builtin_Store => decide)
    (case ne_Parts_Table => decide)
    (case ne_Parts_Instance => decide)
    (case ne_Parts_Kin => decide)
    (case ne_Parts_Closure => decide)
    (case ne_Parts_Bound => decide)
    (case ne_Parts_Variable => decide)
    (case ne_Parts_Cursor => decide)
    (case ne_Parts_Store => decide)
    (case ne_Table_Instance => decide)
    (case ne_Table_Kin => decide)
    (case ne_Table_Closure => decide)
    (case ne_Table_Bound => decide)
    (case ne_Table_Variable => decide)
    (case ne_Table_Cursor => decide)
    (case ne_Table_Store => decide)
    (case ne_Instance_Kin => decide)
    (case ne_Instance_Closure => decide)
    (case ne_Instance_Bound => decide)
    (case ne_Instance_Variable => decide)
    (case ne_Instance_Cursor => decide)
    (case ne_Instance_Store => decide)
    (case ne_Kin_Closure => decide)
    (case ne_Kin_Bound => decide)
    (case ne_Kin_Variable => decide)
    (case ne_Kin_Cursor => decide)
    (case ne_Kin_Store => decide)
    (case ne_Closure_Bound => decide)
    (case ne_Closure_Variable => decide)
    (case ne_Closure_Cursor => decide)
    (case ne_Closure_Store => decide)
    (case ne_Bound_Variable => decide)
    (case ne_Bound_Cursor => decide)
    (case ne_Bound_Store => decide)
    (case ne_Variable_Cursor => decide)
    (case ne_Variable_Store => decide)
    (case ne_Cursor_Store => decide)
    (case a0 => k_is); (case l0 => k_is); (case c0 => k_is); (case k0 => k_is); (case i0 => k_is)
    (case a1 => k_is); (case l1 => k_is); (case c1 => k_is); (case k1 => k_is); (case i1 => k_is)
    (case a2 => k_is); (case l2 => k_is); (case c2 => k_is); (case k2 => k_is); (case i2 => k_is)
    (case a3 => k_is); (case l3 => k_is); (case c3 => k_is); (case k3 => k_is); (case i3 => k_is)
    (case a4 => k_is); (case l4 => k_is); (case c4 => k_is); (case k4 => k_is); (case i4 => k_is)
    (case a5 => k_is); (case l5 => k_is); (case c5 => k_is); (case k5 => k_is); (case i5 => k_is)
    (case a6 => k_is); (case l6 => k_is); (case c6 => k_is); (case k6 => k_is); (case i6 => k_is)
    (case a7 => k_is); (case l7 => k_is); (case c7 => k_is); (case k7 => k_is); (case i7 => k_is)
    (case a8 => k_is); (case l8 => k_is); (case c8 => k_is); (case k8 => k_is); (case i8 => k_is)
    (case a9 => k_is); (case l9 => k_is); (case c9 => k_is); (case k9 => k_is); (case i9 => k_is)
    (case a10 => k_is); (case l10 => k_is); (case c10 => k_is); (case k10 => k_is); (case i10 => k_is)
    (case a11 => k_is); (case l11 => k_is); (case c11 => k_is); (case k11 => k_is); (case i11 => k_is)
    (case a12 => k_is); (case l12 => k_is); (case c12 => k_is); (case k12 => k_is); (case i12 => k_is)
    (case a13 => k_is); (case l13 => k_is); (case c13 => k_is); (case k13 => k_is); (case i13 => k_is)
    (case a14 => k_is); (case l14 => k_is); (case c14 => k_is); (case k14 => k_is); (case i14 => k_is)
    (case a15 => k_is); (case l15 => k_is); (case c15 => k_is); (case k15 => k_is)
    (case a16 => k_is); (case l16 => k_is); (case c16 => k_is); (case k16 => k_is)
    (case a17 => k_is); (case l17 => k_is); (case c17 => k_is); (case k17 => k_is)
    (case a18 => k_is); (case l18 => k_is); (case c18 => k_is); (case k18 => k_is)
    (case a19 => k_is); (case l19 => k_is); (case c19 => k_is); (case k19 => k_is)
    (case a20 => k_is); (case l20 => k_is); (case c20 => k_is); (case k20 => k_is)
    (case a21 => k_is); (case l21 => k_is); (case c21 => k_is); (case k21 => k_is)
    (case a22 => k_is); (case l22 => k_is); (case c22 => k_is); (case k22 => k_is)
    (case a23 => k_is); (case l23 => k_is); (case c23 => k_is); (case k23 => k_is)
    (case a24 => k_is); (case l24 => k_is); (case c24 => k_is); (case k24 => k_is)
    (case a25 => k_is); (case l25 => k_is); (case c25 => k_is); (case k25 => k_is)
    (case a26 => k_is); (case l26 => k_is); (case c26 => k_is); (case k26 => k_is)
    (case a27 => k_is); (case l27 => k_is); (case c27 => k_is); (case k27 => k_is)
    (case a28 => k_is); (case l28 => k_is); (case c28 => k_is); (case k28 => k_is)
    (case z_abs => k_is); (case z_bool => k_is); (case z_int => k_is); (case z_isinstance => k_is); (case z_len => k_is); (case z_list => k_is); (case z_max => k_is); (case z_min => k_is); (case z_range => k_is); (case z_str => k_is); (case z_tuple => k_is)
    (case qa_BUILTINS => k_is); (case qb_BUILTINS => k_is); (case qc_BUILTINS => decide +kernel); (case qd_BUILTINS => decide +kernel)
    (case q_ERROR => k_is)
