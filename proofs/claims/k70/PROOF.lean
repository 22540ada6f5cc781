import PyProof.Rows.All
import Wide.All
import OpenK.AllK
import Wide.FinOn
import HandS.ForMost
import HandS.StrMore
import HandS.Wide
import HandS.IsInst
import HandS.Flow
import HandS.Codes
import HandS.Deep
import HandS.EndBits
import HandS.Walk
import KE.DataEq
import HandS.OwnEq
import HandS.Comp
import HandS.Property
import KE.KIsAll
import KE.KExcIs
import HandS.Exc
import HandS.ExcOwn
import HandS.ExcInit
import HandS.ExcField
import HandS.ExcIs
import HandS.TryOnly
import HandS.TryMany
import HandS.CallSlots
import HandS.WordsExc
import HandS.Small
import HandS.FStr
import HandS.More
import KE.KeyNested
import KE.KDictKeyed
import HandS.TupLen
import HandS.Iter
import HandS.DictComp
import HandS.List
import PySem.Challenge.RW_livequill_k70_references_and_sizes
set_option Elab.async false
set_option linter.all false
set_option maxRecDepth 100000
/-! Fx: readings that compute: every operation is one function of its values, whatever their kinds. -/
namespace Fx
open PySem PySem.Spec PyProof.Rows L2

/-! ### weakening -/
section
variable {X : Cx}
theorem pe_wk {e : Expr} {t t' : TE} (h : PE X e t) (w : ∀ σ H Q, t' σ H Q → t σ H Q) : PE X e t' := ⟨fun pins s σ H Q I q => h.run pins s σ H Q I (w σ H Q q)⟩
theorem pt_wk {e : Expr} {t t' : TT} (h : PT X e t) (w : ∀ σ H Q, t' σ H Q → t σ H Q) : PT X e t' := ⟨fun pins s σ H Q I q => h.run pins s σ H Q I (w σ H Q q)⟩
theorem ps_wk {e : Stmt} {t t' : TS} (h : PS X e t) (w : ∀ D σ H, t' D σ H → t D σ H) : PS X e t' := ⟨fun pins s σ H D I q => h.run pins s σ H D I (w D σ H q)⟩
theorem op_wk {f : Value → Value → Sem Value} {r r' : R2} (h : OpR X f r) (w : ∀ x y H Q, r' x y H Q → r x y H Q) : OpR X f r' := fun pins s σ H x y v u Q I rx ry q => h pins s σ H x y v u Q I rx ry (w x y H Q q)
theorem call_wk {f : Value} {r r' : List V → Hp → VK → Prop} (h : CallR X f r) (w : ∀ xs H Q, r' xs H Q → r xs H Q) : CallR X f r' := fun pins s σ H xs us Q I rx q => h pins s σ H xs us Q I rx (w xs H Q q)

/-! ### names -/
def fVar (i : Nat) : TE := fun σ H Q => match σ[i]? with
  | some (some v) => Q v H
  | _ => False
theorem fe_var (i : Nat) {x : Str} {pos : Pos} (hN : X.N[i]? = some x := by rfl) (hv : Vis X.env.scope x := by first | exact Or.inl rfl | exact Or.inr (Or.inl rfl) | exact Or.inr (Or.inr rfl)) (hd : (x == ("__debug__" : Str)) = false := by decide)
    (hcd : (x == ("__classdict__" : Str)) = false := by decide) : PE X (.Name x pos) (fVar i) := pe_wk (pe_var hN hv hd hcd) fun σ H Q q => by
  unfold fVar at q
  split at q
  · exact ⟨_, by assumption, q⟩
  · exact q.elim

theorem same_new {H : Hp} {p : Addr} {o : HO} (h : H p = none) : Same H (upd H p o) := fun b x e => by
  rw [upd_ne (ne_of_none e h)]
  exact e
/-- a new tuple, a new list: behind it a heap that has it and keeps the rest -/
def fTup (t : TA) : TE := fun σ H Q => t σ H fun xs H1 => xs.length ≤ 100000 ∧ ∀ p H2, H1 p = none → Same H1 H2 → H2 p = some (.tup xs) → Q (.ref p) H2
def fLst (t : TA) : TE := fun σ H Q => t σ H fun xs H1 => xs.length ≤ 100000 ∧ ∀ p H2, H1 p = none → Same H1 H2 → H2 p = some (.lst xs) → Q (.ref p) H2
theorem line5 {n : Nat} (h : n ≤ 100000) : n ≤ sizeLine := Nat.le_trans h (by decide)
section
variable {es : List Expr} {t : TA} {pos : Pos}
theorem fe_tup {x1} (h : PA X es t) : PE X (.Tuple es x1 pos) (fTup t) := by
  refine ⟨fun pins s σ H Q I hq => ?_⟩
  refine wpAny_Tuple_spliced (thn (h.run pos pins s σ H _ I hq) fun us s1 ⟨xs, H1, I1, r, z, q⟩ => ⟨by rw [← r.length]; exact line5 z, ?_⟩)
  have hf : H1 s1.heap.objs.size = none := I1.hok.fresh (Nat.le_refl _)
  refine ⟨.ref s1.heap.objs.size, upd H1 s1.heap.objs.size (.tup xs), I1.laid (t' := s1.toks) (fun b u e => Heap.get?_push_of_some _ e) (Nat.le_refl _) ?_, rfl, q _ _ hf (same_new hf) upd_same⟩
  exact ⟨line5 z, us, r, ⟨_, Heap.get?_push_size _ rfl, rfl, _, rfl⟩⟩
theorem fe_lst (h : PA X es t) : PE X (.List es pos) (fLst t) := by
  refine ⟨fun pins s σ H Q I hq => ?_⟩
  refine wpAny_List_spliced (thn (h.run pos pins s σ H _ I hq) fun us s1 ⟨xs, H1, I1, r, z, q⟩ => ⟨by rw [← r.length]; exact line5 z, ?_⟩)
  have hf : H1 s1.heap.objs.size = none := I1.hok.fresh (Nat.le_refl _)
  refine ⟨.ref s1.heap.objs.size, upd H1 s1.heap.objs.size (.lst xs), I1.laid (t' := s1.toks) (fun b u e => Heap.get?_push_of_some _ e) (Nat.le_refl _) ?_, rfl, q _ _ hf (same_new hf) upd_same⟩
  exact ⟨line5 z, us, 0, r, Heap.get?_push_size _ rfl⟩
end
/-! ### a list or a tuple that is read -/
def Rl (K : PySem.W.Frag) (H : Hp) (a : Addr) (xs : List V) : Prop := SqL K H a xs ∨ SqT K H a xs
theorem rl_l {K : PySem.W.Frag} {H : Hp} {a : Addr} {xs : List V} (h : H a = some (.lst xs)) : Rl K H a xs := .inl (SqL.of h)
theorem rl_t {K : PySem.W.Frag} {H : Hp} {a : Addr} {xs : List V} (h : H a = some (.tup xs)) : Rl K H a xs := .inr (SqT.of h)

/-! ### operators by values -/
def fAdd (K : PySem.W.Frag) : R2 := fun x y H Q => match x, y with
  | .int i, .int j => Q (.int (i + j)) H
  | .str a, .str b => a.length + b.length ≤ sizeLine ∧ Q (.str (a ++ b)) H
  | .ref l, .ref b => match H l, H b with
    | some (.lst xs), some (.lst zs) => xs.length + zs.length ≤ sizeLine ∧ ∀ p H1, H p = none → Same H H1 → H1 p = some (.lst (xs ++ zs)) → Q (.ref p) H1
    | _, _ => False
  | _, _ => False
theorem op_fAdd : OpR X (binaryOp .Add) (fAdd X.K) := by
  intro pins s σ H x y v u Q I rx ry h
  cases x <;> cases y <;> first
    | exact False.elim h
    | exact op_add pins s σ H _ _ v u Q I rx ry ⟨_, _, rfl, rfl, h⟩
    | exact op_add_str pins s σ H _ _ v u Q I rx ry ⟨_, _, rfl, rfl, h⟩
    | (dsimp only [fAdd] at h
       split at h
       · exact op_cat pins s σ H _ _ v u Q I rx ry ⟨_, _, _, _, rfl, rfl, by assumption, by assumption, h.1, fun p np => h.2 p _ np (same_new np) upd_same⟩
       · exact h.elim)
def fSub : R2 := fun x y H Q => match x, y with
  | .int i, .int j => Q (.int (i - j)) H
  | _, _ => False
theorem op_fSub : OpR X (binaryOp .Sub) fSub := by
  intro pins s σ H x y v u Q I rx ry h
  cases x <;> cases y <;> first
    | exact False.elim h
    | exact op_sub pins s σ H _ _ v u Q I rx ry ⟨_, _, rfl, rfl, h⟩
def fMul : R2 := fun x y H Q => match x, y with
  | .int i, .int j => IntMulOk i j ∧ Q (.int (i * j)) H
  | .str a, .int j => MulOk a j ∧ Q (.str (Txt.mul a j)) H
  | .ref l, .int k => rRep (.ref l) (.int k) H Q
  | _, _ => False
theorem op_fMul : OpR X (binaryOp .Mult) fMul := by
  intro pins s σ H x y v u Q I rx ry h
  match x, y, rx, ry, h with
  | .int i, .int j, ⟨t, e⟩, ⟨t', e'⟩, ⟨hm, q⟩ =>
    subst e e'
    exact mul_int ⟨.int _, H, I.tok _, ⟨_, rfl⟩, q⟩ hm
  | .str a, .int j, ⟨t, e⟩, ⟨t', e'⟩, ⟨hm, q⟩ =>
    subst e e'
    exact SB.mul hm fun t' k => ⟨.str _, H, I.tok _, ⟨_, rfl⟩, q⟩
  | .ref l, .int k, rx, ry, h => exact op_rep pins s σ H _ _ v u Q I rx ry h
def fDiv : R2 := fun x y H Q => match x, y with
  | .int i, .int j => CDivW i j ∧ Q (.int (i / j)) H
  | _, _ => False
theorem op_fDiv : OpR X (binaryOp .FloorDiv) fDiv := by
  intro pins s σ H x y v u Q I rx ry h
  cases x <;> cases y <;> first
    | exact False.elim h
    | exact op_fdivW pins s σ H _ _ v u Q I rx ry ⟨_, _, rfl, rfl, h⟩
def fMod : R2 := fun x y H Q => match x, y with
  | .int i, .int j => 0 < j ∧ Q (.int (i % j)) H
  | _, _ => False
theorem op_fMod : OpR X (binaryOp .Mod) fMod := by
  intro pins s σ H x y v u Q I rx ry h
  cases x <;> cases y <;> first
    | exact False.elim h
    | exact op_mod pins s σ H _ _ v u Q I rx ry ⟨_, _, rfl, rfl, h⟩
def fNeg : V → Hp → VK → Prop := fun x H Q => match x with
  | .int i => Q (.int (-i)) H
  | _ => False
theorem un_fNeg : UnR X (unaryOp .USub) fNeg := by
  intro pins s σ H x v Q I rx h
  cases x <;> first
    | exact False.elim h
    | exact un_neg pins s σ H _ v Q I rx ⟨_, rfl, h⟩
/-- data that == may look at -/
def okd (d : PyData) : Bool := d.plain && decide (d.depth ≤ 64)
/-- == of scalars as such, of lists and tuples as data -/
def fEq (K : PySem.W.Frag) (neg : Bool) : R2 := fun x y H Q =>
  if scal x y = true then Q (.bl (if neg = true then !decide (x = y) else decide (x = y))) H
  else ∃ d e, Dp K H x d ∧ Dp K H y e ∧ okd d = true ∧ okd e = true ∧ Q (.bl (if neg = true then !PyData.eqv d e else PyData.eqv d e)) H
theorem op_fEq (hu : X.A.units + 64 < cLine) : OpR X (compareOp .Eq) (fEq X.K false) := by
  intro pins s σ H x y v u Q I rx ry h
  unfold fEq at h
  split at h
  · exact op_eq pins s σ H x y v u Q I rx ry ⟨by assumption, h⟩
  · obtain ⟨d, e, hd, he, sd, se, q⟩ := h
    obtain ⟨as, r1⟩ := Dp.reads I d x v hd rx
    obtain ⟨bs, r2⟩ := Dp.reads I e y u he ry
    have sd := Bool.and_eq_true_iff.mp sd
    have se := Bool.and_eq_true_iff.mp se
    have d1 := of_decide_eq_true sd.2
    exact SeqAt.eq_plain r1 r2 sd.1 se.1 (by omega) ⟨.bl _, H, I, rfl, q⟩
theorem op_fNe (hu : X.A.units + 64 < cLine) : OpR X (compareOp .NotEq) (fEq X.K true) := by
  intro pins s σ H x y v u Q I rx ry h
  unfold fEq at h
  split at h
  · exact op_ne pins s σ H x y v u Q I rx ry ⟨by assumption, h⟩
  · obtain ⟨d, e, hd, he, sd, se, q⟩ := h
    obtain ⟨as, r1⟩ := Dp.reads I d x v hd rx
    obtain ⟨bs, r2⟩ := Dp.reads I e y u he ry
    have sd := Bool.and_eq_true_iff.mp sd
    have se := Bool.and_eq_true_iff.mp se
    have d1 := of_decide_eq_true sd.2
    exact SeqAt.ne_plain r1 r2 sd.1 se.1 (by omega) ⟨.bl _, H, I, rfl, q⟩
def fLt : R2 := fun x y H Q => match x, y with
  | .int i, .int j => Q (.bl (decide (i < j))) H
  | .str i, .str j => Q (.bl (decide (i.cps.toList < j.cps.toList))) H
  | _, _ => False
theorem op_fLt : OpR X (compareOp .Lt) fLt := by
  intro pins s σ H x y v u Q I rx ry h
  cases x <;> cases y <;> first
    | exact False.elim h
    | exact op_lt pins s σ H _ _ v u Q I rx ry ⟨_, _, rfl, rfl, h⟩
    | exact op_lt_str pins s σ H _ _ v u Q I rx ry ⟨_, _, rfl, rfl, h⟩
def fLe : R2 := fun x y H Q => match x, y with
  | .int i, .int j => Q (.bl (decide (i ≤ j))) H
  | .str i, .str j => Q (.bl (!decide (j.cps.toList < i.cps.toList))) H
  | _, _ => False
theorem op_fLe : OpR X (compareOp .LtE) fLe := by
  intro pins s σ H x y v u Q I rx ry h
  cases x <;> cases y <;> first
    | exact False.elim h
    | exact op_le pins s σ H _ _ v u Q I rx ry ⟨_, _, rfl, rfl, h⟩
    | exact op_le_str pins s σ H _ _ v u Q I rx ry ⟨_, _, rfl, rfl, h⟩
def fGt : R2 := fun x y H Q => match x, y with
  | .int i, .int j => Q (.bl (decide (j < i))) H
  | .str i, .str j => Q (.bl (decide (j.cps.toList < i.cps.toList))) H
  | _, _ => False
theorem op_fGt : OpR X (compareOp .Gt) fGt := by
  intro pins s σ H x y v u Q I rx ry h
  cases x <;> cases y <;> first
    | exact False.elim h
    | exact op_gt pins s σ H _ _ v u Q I rx ry ⟨_, _, rfl, rfl, h⟩
    | exact op_gt_str pins s σ H _ _ v u Q I rx ry ⟨_, _, rfl, rfl, h⟩
def fGe : R2 := fun x y H Q => match x, y with
  | .int i, .int j => Q (.bl (decide (j ≤ i))) H
  | .str i, .str j => Q (.bl (!decide (i.cps.toList < j.cps.toList))) H
  | _, _ => False
theorem op_fGe : OpR X (compareOp .GtE) fGe := by
  intro pins s σ H x y v u Q I rx ry h
  cases x <;> cases y <;> first
    | exact False.elim h
    | exact op_ge pins s σ H _ _ v u Q I rx ry ⟨_, _, rfl, rfl, h⟩
    | exact op_ge_str pins s σ H _ _ v u Q I rx ry ⟨_, _, rfl, rfl, h⟩
/-- x in y: one sign in a text; a text in a text; a flat value in a list or tuple of flat values -/
def fIn (K : PySem.W.Frag) (neg : Bool) : R2 := fun x y H Q => match x, y with
  | .str a, .str b => match a.cps.toList with
    | [c] => Q (.bl (if neg = true then !decide (c ∈ b.cps.toList) else decide (c ∈ b.cps.toList))) H
    | _ => Q (.bl (if neg = true then !(!(Builtin.Str.occurrences b a 0 b.length 1).isEmpty) else !(Builtin.Str.occurrences b a 0 b.length 1).isEmpty)) H
  | x, .ref p => ∃ xs, Rl K H p xs ∧ flatV x = true ∧ xs.all flatV = true ∧ Q (.bl (if neg = true then !inV x xs else inV x xs)) H
  | _, _ => False
theorem str_one {a : Str} {c : Nat} (h : a.cps.toList = [c]) : a = ⟨#[c]⟩ := by
  obtain ⟨⟨l⟩⟩ := a
  have h' : l = [c] := h
  subst h'
  rfl
theorem op_fIn : OpR X (compareOp .In) (fIn X.K false) := by
  intro pins s σ H x y v u Q I rx ry h
  cases y with
  | str b =>
    cases x with
    | str a =>
      dsimp only [fIn] at h
      split at h
      · rename_i c e
        cases str_one e
        exact op_in_sign pins s σ H _ _ v u Q I rx ry ⟨_, _, rfl, rfl, h⟩
      · exact op_in_str pins s σ H _ _ v u Q I rx ry ⟨_, _, rfl, rfl, h⟩
    | _ => exact False.elim h
  | ref p =>
    have h' : ∃ xs, Rl X.K H p xs ∧ flatV x = true ∧ xs.all flatV = true ∧ Q (.bl (if false = true then !inV x xs else inV x xs)) H := by
      cases x <;> exact h
    obtain ⟨xs, h1, h2, h3, h4⟩ := h'
    exact op_in_seq pins s σ H _ _ v u Q I rx ry ⟨p, xs, rfl, h1, h2, h3, h4⟩
  | _ => cases x <;> exact False.elim h
theorem op_fNotIn : OpR X (compareOp .NotIn) (fIn X.K true) := by
  intro pins s σ H x y v u Q I rx ry h
  cases y with
  | str b =>
    cases x with
    | str a =>
      dsimp only [fIn] at h
      split at h
      · rename_i c e
        cases str_one e
        exact op_notIn_sign pins s σ H _ _ v u Q I rx ry ⟨_, _, rfl, rfl, h⟩
      · exact op_notin_str pins s σ H _ _ v u Q I rx ry ⟨_, _, rfl, rfl, h⟩
    | _ => exact False.elim h
  | ref p =>
    have h' : ∃ xs, Rl X.K H p xs ∧ flatV x = true ∧ xs.all flatV = true ∧ Q (.bl (if true = true then !inV x xs else inV x xs)) H := by
      cases x <;> exact h
    obtain ⟨xs, h1, h2, h3, h4⟩ := h'
    exact op_notIn_seq pins s σ H _ _ v u Q I rx ry ⟨p, xs, rfl, h1, h2, h3, h4⟩
  | _ => cases x <;> exact False.elim h
/-- is, with None on the right -/
def fIsN : R2 := fun x y H Q => y = .non ∧ Q (.bl (decide (x = .non))) H
def fNotN : R2 := fun x y H Q => y = .non ∧ Q (.bl (!decide (x = .non))) H
theorem op_fIsN : OpR X (compareOp .Is) fIsN := op_isN
theorem op_fNotN : OpR X (compareOp .IsNot) fNotN := op_notN
/-- x[i] -/
def fIx (K : PySem.W.Frag) : R2 := fun x y H Q => match x, y with
  | .str z, .int i => z.length ≤ sizeLine ∧ ∃ c, atI z.cps.toList i = some c ∧ Q (.str ⟨#[c]⟩) H
  | .ref p, .int i => ∃ xs, Rl K H p xs ∧ ∃ v, atI xs i = some v ∧ Q v H
  | _, _ => False
theorem ix_fx : IxR X (fIx X.K) := by
  intro e1 e2 pins s σ H x y v u Q I rx ry h hs
  cases x <;> cases y <;> first
    | exact False.elim h
    | (obtain ⟨h1, c, h2, h3⟩ := h
       exact ix_str e1 e2 pins s σ H _ _ v u Q I rx ry ⟨_, _, c, rfl, rfl, h1, h2, h3⟩ hs)
    | (obtain ⟨xs, h1, w, h2, h3⟩ := h
       rcases h1 with h1 | h1
       · exact ix_list e1 e2 pins s σ H _ _ v u Q I rx ry ⟨_, xs, _, w, rfl, rfl, h1, h2, h3⟩ hs
       · exact ix_tup e1 e2 pins s σ H _ _ v u Q I rx ry ⟨_, xs, _, w, rfl, rfl, h1, h2, h3⟩ hs)
/-- x[lo:hi] of a text, of a list -/
def fSl (K : PySem.W.Frag) : V → Option Int → Option Int → Hp → VK → Prop := fun x lo hi H Q => match x with
  | .str z => z.length ≤ sizeLine ∧ Q (.str (cutS z lo hi)) H
  | .ref a => ∃ xs, SqL K H a xs ∧ ∀ p H1, H p = none → Same H H1 → H1 p = some (.lst (cutV xs lo hi)) → Q (.ref p) H1
  | _ => False
theorem sl_fx : SlR X (fSl X.K) := by
  intro pins s σ H x v vl vu lo hi sl Q I rx hs pl pu h
  cases x <;> first
    | exact False.elim h
    | exact sl_str pins s σ H _ v vl vu lo hi sl Q I rx hs pl pu ⟨_, rfl, h⟩
    | (obtain ⟨xs, h1, h2⟩ := h
       exact sl_list pins s σ H _ v vl vu lo hi sl Q I rx hs pl pu ⟨_, xs, rfl, h1, fun p np => h2 p _ np (same_new np) upd_same⟩)
/-- o[i] = v of a list -/
def fSet : TSet := fun o i v H Q => match o, i with
  | .ref p, .int k => match H p with
    | some (.lst xs) => ∃ j, ixN xs.length k = some j ∧ Q (upd H p (.lst (xs.set j v)))
    | _ => False
  | _, _ => False
theorem set_fx : PSet X fSet := by
  intro pins s σ H o i v ov iv u Q I ro ri rv h
  cases o <;> cases i <;> first
    | exact False.elim h
    | (dsimp only [fSet] at h
       split at h
       · obtain ⟨j, h2, h3⟩ := h
         exact set_list pins s σ H _ _ v ov iv u Q I ro ri rv ⟨_, _, _, j, rfl, rfl, by assumption, h2, h3⟩
       · exact h.elim)
/-- name += e -/
def fIAdd : TIp := fun x y H Q => match x, y with
  | .int i, .int j => Q (.int (i + j)) H
  | .str a, .str b => a.length + b.length ≤ sizeLine ∧ Q (.str (a ++ b)) H
  | _, _ => False
theorem ip_fAdd : PIp X .Add fIAdd := by
  intro pins s σ H x y v u Q I rx ry h
  cases x <;> cases y <;> first
    | exact False.elim h
    | exact ip_add pins s σ H _ _ v u Q I rx ry ⟨_, _, rfl, rfl, h⟩
    | exact iop_add_str pins s σ H _ _ v u Q I rx ry ⟨_, _, rfl, rfl, h⟩
def fISub : TIp := fun x y H Q => match x, y with
  | .int i, .int j => Q (.int (i - j)) H
  | _, _ => False
theorem ip_fSub : PIp X .Sub fISub := by
  intro pins s σ H x y v u Q I rx ry h
  cases x <;> cases y <;> first
    | exact False.elim h
    | exact ip_sub pins s σ H _ _ v u Q I rx ry ⟨_, _, rfl, rfl, h⟩
/-! ### built-in calls -/
def fLen (K : PySem.W.Frag) : List V → Hp → VK → Prop := fun xs H Q => match xs with
  | [.str z] => z.length ≤ sizeLine ∧ Q (.int z.length) H
  | [.ref p] => ∃ ys, Rl K H p ys ∧ Q (.int ys.length) H
  | _ => False
theorem call_fLen : CallR X (.builtin "len") (fLen X.K) := by
  intro pins s σ H xs us Q I r h
  match xs, r, h with
  | [.str z], r, h => exact call_len_str pins s σ H _ us Q I r ⟨z, rfl, h⟩
  | [.ref p], r, h =>
    obtain ⟨ys, h1, h2⟩ := h
    exact call_len_seq pins s σ H _ us Q I r ⟨p, ys, rfl, h1, h2⟩
/-- len of a dict -/
def fLenD : List V → Hp → VK → Prop := fun xs H Q => match xs with
  | [.ref p] => ∃ kvs, H p = some (.dK kvs) ∧ Q (.int kvs.length) H
  | _ => False
theorem call_fLenD : CallR X (.builtin "len") fLenD := by
  intro pins s σ H xs us Q I r h
  match xs, r, h with
  | [.ref p], r, h =>
    obtain ⟨kvs, h1, h2⟩ := h
    exact call_lenD pins s σ H _ us Q I r ⟨p, kvs, rfl, h1, h2⟩
def fInt : List V → Hp → VK → Prop := fun xs H Q => match xs with
  | [.int i] => Q (.int i) H
  | [.bl k] => Q (.int (if k then 1 else 0)) H
  | [.str a] => ∃ n, PySem.intText? a = some n ∧ a.length ≤ 640 ∧ Q (.int n) H
  | _ => False
theorem call_fInt : CallR X (.type "int") fInt := by
  intro pins s σ H xs us Q I r h
  match xs, r, h with
  | [.int i], r, h => exact call_int1 pins s σ H _ us Q I r (.inl ⟨i, rfl, h⟩)
  | [.bl k], r, h => exact call_int1 pins s σ H _ us Q I r (.inr ⟨k, rfl, h⟩)
  | [.str a], r, h =>
    obtain ⟨n, h1, h2, h3⟩ := h
    exact call_int_str pins s σ H _ us Q I r ⟨a, n, rfl, h1, h2, h3⟩
def fStr : List V → Hp → VK → Prop := fun xs H Q => match xs with
  | [.int i] => i.natAbs.log2 < 1920 ∧ Q (.str (toString i)) H
  | _ => False
theorem call_fStr : CallR X (.type "str") fStr := by
  intro pins s σ H xs us Q I r h
  match xs, r, h with
  | [.int i], r, h => exact call_str_int pins s σ H _ us Q I r ⟨i, rfl, h⟩
def fAbs : List V → Hp → VK → Prop := fun xs H Q => match xs with
  | [.int i] => Q (.int (if i < 0 then -i else i)) H
  | _ => False
theorem call_fAbs : CallR X (.builtin "abs") fAbs := by
  intro pins s σ H xs us Q I r h
  match xs, r, h with
  | [.int i], r, h => exact call_abs pins s σ H _ us Q I r ⟨i, rfl, h⟩
def fMax : List V → Hp → VK → Prop := fun xs H Q => match xs with
  | [.int i, .int j] => Q (.int (if j > i then j else i)) H
  | _ => False
theorem call_fMax (hc : X.calm = true) : CallR X (.builtin "max") fMax := by
  intro pins s σ H xs us Q I r h
  match xs, r, h with
  | [.int i, .int j], r, h => exact call_max2 hc pins s σ H _ us Q I r ⟨i, j, rfl, h⟩
def fMin : List V → Hp → VK → Prop := fun xs H Q => match xs with
  | [.int i, .int j] => Q (.int (if j < i then j else i)) H
  | _ => False
theorem call_fMin (hc : X.calm = true) : CallR X (.builtin "min") fMin := by
  intro pins s σ H xs us Q I r h
  match xs, r, h with
  | [.int i, .int j], r, h => exact call_min2 hc pins s σ H _ us Q I r ⟨i, j, rfl, h⟩
def fOrd : List V → Hp → VK → Prop := fun xs H Q => match xs with
  | [.str x] => ∃ c, x.cps.toList = [c] ∧ Q (.int (c : Nat)) H
  | _ => False
theorem call_fOrd : CallR X (.builtin "ord") fOrd := by
  intro pins s σ H xs us Q I r h
  match xs, r, h with
  | [.str x], r, h =>
    obtain ⟨c, h1, h2⟩ := h
    cases str_one h1
    exact call_ord pins s σ H _ us Q I r ⟨_, rfl, rfl, h2⟩
def fChr : List V → Hp → VK → Prop := fun xs H Q => match xs with
  | [.int i] => (0 ≤ i ∧ i ≤ 1114111) ∧ Q (.str ⟨#[i.toNat]⟩) H
  | _ => False
theorem call_fChr : CallR X (.builtin "chr") fChr := by
  intro pins s σ H xs us Q I r h
  match xs, r, h with
  | [.int i], r, h => exact call_chr pins s σ H _ us Q I r ⟨i, rfl, h.1.1, h.1.2, h.2⟩
/-- list(x): a new list -/
def fListOf (K : PySem.W.Frag) : List V → Hp → VK → Prop := fun xs H Q => match xs with
  | [.ref p] => ∃ ys, Rl K H p ys ∧ ∀ l H1, H l = none → Same H H1 → H1 l = some (.lst ys) → Q (.ref l) H1
  | _ => False
theorem call_fListOf : CallR X (.type "list") (fListOf X.K) := by
  intro pins s σ H xs us Q I r h
  match xs, r, h with
  | [.ref p], r, h =>
    obtain ⟨ys, h1, h2⟩ := h
    exact call_list_of pins s σ H _ us Q I r ⟨p, ys, rfl, h1, fun l nl => h2 l _ nl (same_new nl) upd_same⟩
/-! ### isinstance of a built-in class -/
/-- a value's built-in class (by the abstract heap), where it is plain -/
def tyOf (H : Hp) : V → Option String
  | .non => some "NoneType"
  | .bl _ => some "bool"
  | .int _ => some "int"
  | .str _ => some "str"
  | .ref a => match H a with
    | some (.lst _) => some "list"
    | some (.tup _) => some "tuple"
    | some (.dK _) => some "dict"
    | some (.dT _) => some "dict"
    | _ => none
  | _ => none
theorem tyX_of {K : PySem.W.Frag} {H : Hp} {x : V} {t : String} (h : tyOf H x = some t) : TyX K H x (.type t) := by
  cases x with
  | non => cases h; exact .base .non
  | bl b => cases h; exact .base (.bl b)
  | int b => cases h; exact .base (.int b)
  | str b => cases h; exact .base (.str b)
  | ref a =>
    dsimp only [tyOf] at h
    split at h <;> first
      | (cases h; exact .base (.lst (by assumption)))
      | (cases h; exact .base (.tup (by assumption)))
      | (cases h; exact .base (.dK (by assumption)))
      | (cases h; exact .base (.dT (by assumption)))
      | cases h
  | _ => cases h
/-- one of some built-in classes -/
def kitBs (t : String) : List V → Option Bool
  | [] => some false
  | .ty n :: cs => match kitB t n, kitBs t cs with
    | some b, some r => some (b || r)
    | _, _ => none
  | _ => none
theorem kitBs_any {K : PySem.W.Frag} {t : String} : ∀ {cs : List V} {r : Bool}, kitBs t cs = some r → ∃ us, Paired ClsV cs us ∧ PySem.W.kitAny K (.type t) us = some r
  | [], r, h => by cases h; exact ⟨[], .nil, kitAny_nil⟩
  | c :: cs, r, h => by
    cases c <;> first
      | cases h
      | (rename_i n
         unfold kitBs at h
         split at h
         · rename_i b r' e e2
           cases h
           obtain ⟨us, p, q⟩ := kitBs_any e2
           refine ⟨_, .cons (.ty n) p, kitAny_cons (kit_ty e) (fun hb => ?_) fun hb => ?_⟩
           · rw [hb]; exact q
           · rw [hb]; rfl
         · cases h)
theorem kitBv : kitB "NoneType" "bool" = some false ∧ kitB "NoneType" "int" = some false ∧ kitB "NoneType" "str" = some false ∧ kitB "NoneType" "list" = some false ∧ kitB "NoneType" "tuple" = some false ∧ kitB "NoneType" "dict" = some false ∧ kitB "bool" "bool" = some true ∧ kitB "bool" "int" = some true ∧ kitB "bool" "str" = some false ∧ kitB "bool" "list" = some false ∧ kitB "bool" "tuple" = some false ∧ kitB "bool" "dict" = some false ∧ kitB "int" "bool" = some false ∧ kitB "int" "int" = some true ∧ kitB "int" "str" = some false ∧ kitB "int" "list" = some false ∧ kitB "int" "tuple" = some false ∧ kitB "int" "dict" = some false ∧ kitB "str" "bool" = some false ∧ kitB "str" "int" = some false ∧ kitB "str" "str" = some true ∧ kitB "str" "list" = some false ∧ kitB "str" "tuple" = some false ∧ kitB "str" "dict" = some false ∧ kitB "list" "bool" = some false ∧ kitB "list" "int" = some false ∧ kitB "list" "str" = some false ∧ kitB "list" "list" = some true ∧ kitB "list" "tuple" = some false ∧ kitB "list" "dict" = some false ∧ kitB "tuple" "bool" = some false ∧ kitB "tuple" "int" = some false ∧ kitB "tuple" "str" = some false ∧ kitB "tuple" "list" = some false ∧ kitB "tuple" "tuple" = some true ∧ kitB "tuple" "dict" = some false ∧ kitB "dict" "bool" = some false ∧ kitB "dict" "int" = some false ∧ kitB "dict" "str" = some false ∧ kitB "dict" "list" = some false ∧ kitB "dict" "tuple" = some false ∧ kitB "dict" "dict" = some true := by decide +kernel
/-- isinstance(x, T), T a built-in class, or a new tuple of such -/
def fIsi : List V → Hp → VK → Prop := fun xs H Q => match xs with
  | [x, .ty n] => ∃ t, tyOf H x = some t ∧ ∃ b, kitB t n = some b ∧ Q (.bl b) H
  | [x, .ref p] => match H p with
    | some (.tup cs) => ∃ t, tyOf H x = some t ∧ ∃ b, kitBs t cs = some b ∧ Q (.bl b) H
    | _ => False
  | _ => False
theorem call_fIsi : CallR X (.builtin "isinstance") fIsi := by
  intro pins s σ H xs us Q I r h
  match xs, r, h with
  | [x, .ty n], r, h =>
    obtain ⟨t, h1, b, h2, h3⟩ := h
    exact call_isi pins s σ H _ us Q I r ⟨x, .ty n, _, _, b, rfl, .ty n, tyX_of h1, kit_ty h2, h3⟩
  | [x, .ref p], r, h =>
    dsimp only [fIsi] at h
    split at h
    · obtain ⟨t, h1, b, h2, h3⟩ := h
      obtain ⟨ws, h4, h5⟩ := kitBs_any h2
      exact call_isiT pins s σ H _ us Q I r ⟨x, p, _, _, ws, b, rfl, by assumption, h4, tyX_of h1, h5, h3⟩
    · exact h.elim
/-! ### methods of built-in types -/
def isLst : V → Hp → Prop := fun x H => match x with
  | .ref p => match H p with
    | some (.lst _) => True
    | _ => False
  | _ => False
theorem isLst_ty {K : PySem.W.Frag} {x : V} {H : Hp} (h : isLst x H) : tyV K "list" x H := by
  unfold isLst at h
  split at h
  · split at h
    · exact .inl ⟨rfl, _, SqL.of (by assumption)⟩
    · exact h.elim
  · exact h.elim
def isDct : V → Hp → Prop := fun x H => match x with
  | .ref p => match H p with
    | some (.dK _) => True
    | _ => False
  | _ => False
theorem isDct_ty {K : PySem.W.Frag} {x : V} {H : Hp} (h : isDct x H) : tyV K "dict" x H := by
  unfold isDct at h
  split at h
  · split at h
    · exact .inr (.inr (.inl ⟨rfl, .inl ⟨_, by assumption⟩⟩))
    · exact h.elim
  · exact h.elim
def isStr : V → Hp → Prop := fun x _ => match x with
  | .str _ => True
  | _ => False
theorem isStr_ty {K : PySem.W.Frag} {x : V} {H : Hp} (h : isStr x H) : tyV K "str" x H := by
  cases x <;> first | exact rfl | exact False.elim h
section
variable {o e : Expr} {es : List Expr} {to te : TE} {t : TA} {apos cpos : Pos} {T id : String} {name : Str} {r : V → List V → Hp → VK → Prop} {ty : V → Hp → Prop}
def fBM0 (ty : V → Hp → Prop) (r : V → List V → Hp → VK → Prop) (to : TE) : TE := fun σ H Q => to σ H fun x H1 => ty x H1 ∧ r x [] H1 Q
def fBM (ty : V → Hp → Prop) (r : V → List V → Hp → VK → Prop) (to : TE) (t : TA) : TE := fun σ H Q => to σ H fun x H1 => ty x H1 ∧ t σ H1 fun xs H2 => r x xs H2 Q
theorem fe_bm0 (pa : PlainAttrs T) (slot : Slot T name id) (hty : typeOf (.builtin id) = pure (.type "method_descriptor")) (hT : ∀ {K : PySem.W.Frag} {x : V} {H : Hp}, ty x H → tyV K T x H) (hm : MtR X id r) (ho : PE X o to)
    (hbase : attributeBase o name X.env (eval o X.env) = eval o X.env := by rfl) (hline : (apos.endLine == cpos.line) = true := by rfl) : PE X (.Call (.Attribute o name apos) [] [] cpos) (fBM0 ty r to) := by
  refine ⟨fun pins s σ H Q I h => ?_⟩
  refine wpAny_Call_method0_late hbase hline (thn (ho.run pins s σ H _ I h) fun v s1 ⟨x, H1, I1, r1, tyx, q1⟩ => ?_)
  obtain ⟨h1, h2⟩ := tyV_is I1 r1 (hT tyx)
  exact ⟨T, id, pa, slot, hty, h1, h2, Calls.callWith_builtin rfl (PySem.evalArgs_none (hm pins s1 σ H1 x [] v [] Q I1 r1 .nil q1))⟩
theorem fe_bm (pa : PlainAttrs T) (slot : Slot T name id) (hty : typeOf (.builtin id) = pure (.type "method_descriptor")) (hT : ∀ {K : PySem.W.Frag} {x : V} {H : Hp}, ty x H → tyV K T x H) (hm : MtR X id r) (ho : PE X o to) (ha : PA X (e :: es) t)
    (hbase : attributeBase o name X.env (eval o X.env) = eval o X.env := by rfl)
    (hfew : ((backTo cpos (starEach (e :: es) X.env)).all (fun x => !x.1) && (backToKw cpos (keywordEach [] X.env)).all (fun x => x.1.isSome)
      && decide ((e :: es).length + ([] : List Keyword).length + (if ([] : List Keyword).isEmpty then 0 else 1) < 30)) = true := by rfl)
    (hline : (apos.endLine == cpos.line) = true := by rfl) (hs : starEach (e :: es) X.env = (false, eval e X.env) :: starEach es X.env := by rfl) (hplain : (backTo cpos (starEach es X.env)).any (·.1) = false := by rfl) :
    PE X (.Call (.Attribute o name apos) (e :: es) [] cpos) (fBM ty r to t) := by
  refine ⟨fun pins s σ H Q I h => ?_⟩
  refine wpAny_Call_method_late hbase hfew hline rfl (thn (ho.run pins s σ H _ I h) fun v s1 ⟨x, H1, I1, r1, tyx, q1⟩ => ?_)
  obtain ⟨h1, h2⟩ := tyV_is I1 r1 (hT tyx)
  refine ⟨T, id, pa, slot, hty, h1, h2, ?_⟩
  have hA := ha.run cpos pins s1 σ H1 _ I1 q1
  rw [hs] at hA ⊢
  refine Calls.callWith_builtin (by show (false || (backTo cpos (starEach es X.env)).any (·.1)) = false; rw [hplain] <;> rfl) (Calls.evalArgs_plain ?_)
  exact thn hA fun us s2 ⟨vs, H2, I2, r2, q2⟩ => hm pins s2 σ H2 x vs v us Q I2 r1 r2 q2
end
def fAppend : V → List V → Hp → VK → Prop := fun x vs H Q => match x, vs with
  | .ref l, [y] => match H l with
    | some (.lst xs) => xs.length < sizeLine ∧ Q .non (upd H l (.lst (xs ++ [y])))
    | _ => False
  | _, _ => False
theorem mt_fAppend : MtR X "list.append" fAppend := by
  intro pins s σ H x xs v us Q I rx rs h
  unfold fAppend at h
  split at h
  · split at h
    · exact mt_append pins s σ H _ _ v us Q I rx rs ⟨_, _, _, rfl, rfl, by assumption, h⟩
    · exact h.elim
  · exact h.elim
/-- a text's method with one text, by its function -/
def fS1 (g : Str → Str → V) : V → List V → Hp → VK → Prop := fun x vs H Q => match x, vs with
  | .str a, [.str b] => Q (g a b) H
  | _, _ => False
theorem mt_fS1 {id : String} {g : Str → Str → V} (h : MtR X id (fun x xs H Q => ∃ a b, x = .str a ∧ xs = [.str b] ∧ Q (g a b) H)) : MtR X id (fS1 g) := by
  intro pins s σ H x xs v us Q I rx rs q
  unfold fS1 at q
  split at q
  · exact h pins s σ H _ _ v us Q I rx rs ⟨_, _, rfl, rfl, q⟩
  · exact q.elim
theorem mt_fCount : MtR X "str.count" (fS1 fun a b => .int (Txt.count a b)) := mt_fS1 mt_count
theorem mt_fFind : MtR X "str.find" (fS1 fun a b => .int (Txt.find a b)) := mt_fS1 mt_find
theorem mt_fRfind : MtR X "str.rfind" (fS1 fun a b => .int (Txt.rfind a b)) := mt_fS1 mt_rfind
theorem mt_fStarts : MtR X "str.startswith" (fS1 fun a b => .bl (Txt.startswith a b)) := mt_fS1 mt_startswith
theorem mt_fEnds : MtR X "str.endswith" (fS1 fun a b => .bl (Txt.endswith a b)) := mt_fS1 mt_endswith

/-! ### statements, loops -/
theorem seq_ {t1 t2 : TS} {D : Ends} {σ : L2.St} {H : Hp} (h : ∀ N : L2.St → Hp → Prop, (∀ σ H, t2 D σ H → N σ H) → t1 { D with nx := N } σ H) : tSeq t1 t2 D σ H := h _ fun _ _ x => x
/-- what follows is a word of its own -/
theorem cut_ {t : TS} {D : Ends} {σ : L2.St} {H : Hp} (h : ∀ N : L2.St → Hp → Prop, (∀ σ H, D.nx σ H → N σ H) → t { D with nx := N } σ H) : t D σ H := h _ fun _ _ x => x
theorem ifs_ {c : TT} {t u : TS} {D : Ends} {σ : L2.St} {H : Hp} (h : c σ H fun b H1 => if b = true then t D σ H1 else u D σ H1) : tIfS c t u D σ H := h
/-- a loop that is at hand -/
def Loop (J : It) (g : TG) (tb : TS) (D : Ends) (σ : L2.St) (H : Hp) : Prop := ∃ W : Nat → Nat → L2.St → Hp → Prop, (∃ m, W 0 m σ H) ∧ ∀ i m σ H, W i m σ H →
  (J.stop i H ∧ D.nx σ H) ∨ (J.go i H ∧ ∃ N : L2.St → Hp → Prop, (∀ σ' H', N σ' H' → ∃ m', m' < m ∧ W (i + 1) m' σ' H') ∧ ∀ x H', J.yld i H x H' → g x σ H' fun σ2 H2 => tb { D with nx := N, ct := N, bk := D.nx } σ2 H2)
theorem for_eq (wi : TI) (g : TG) (tb : TS) (D : Ends) (σ : L2.St) (H : Hp) : tFor wi g tb D σ H = wi σ H fun J H1 => Loop J g tb D σ H1 := rfl
theorem for_ {wi : TI} {g : TG} {tb : TS} {D : Ends} {σ : L2.St} {H : Hp} (h : wi σ H fun J H1 => Loop J g tb D σ H1) : tFor wi g tb D σ H := h
theorem loop_range {lo : Int} {n : Nat} {g : TG} {tb : TS} {D : Ends} {σ : L2.St} {H : Hp} (Pv : Nat → L2.St → Hp → Prop) (h0 : Pv 0 σ H)
    (hs : ∀ i σ H, i < n → Pv i σ H → g (.int (lo + i)) σ H fun σ2 H2 => tb { D with nx := Pv (i + 1), ct := Pv (i + 1), bk := D.nx } σ2 H2) (hd : ∀ σ H, Pv n σ H → D.nx σ H) : Loop (Itr lo n) g tb D σ H := for_range Pv h0 hs hd
theorem loop_list {K : PySem.W.Frag} {a : Addr} {g : TG} {tb : TS} {D : Ends} {σ : L2.St} {H : Hp} (xs : List V) (Pv : Nat → L2.St → Hp → Prop) (h0 : Pv 0 σ H) (hl : ∀ i σ H, i ≤ xs.length → Pv i σ H → SqL K H a xs)
    (hs : ∀ i x σ H, xs[i]? = some x → Pv i σ H → g x σ H fun σ2 H2 => tb { D with nx := Pv (i + 1), ct := Pv (i + 1), bk := D.nx } σ2 H2) (hd : ∀ σ H, Pv xs.length σ H → D.nx σ H) : Loop (Itl K a) g tb D σ H := for_list Pv h0 hl hs hd
theorem loop_tup {K : PySem.W.Frag} {a : Addr} {g : TG} {tb : TS} {D : Ends} {σ : L2.St} {H : Hp} (xs : List V) (Pv : Nat → L2.St → Hp → Prop) (h0 : Pv 0 σ H) (hl : ∀ i σ H, i ≤ xs.length → Pv i σ H → SqT K H a xs)
    (hs : ∀ i x σ H, xs[i]? = some x → Pv i σ H → g x σ H fun σ2 H2 => tb { D with nx := Pv (i + 1), ct := Pv (i + 1), bk := D.nx } σ2 H2) (hd : ∀ σ H, Pv xs.length σ H → D.nx σ H) : Loop (Itt K a) g tb D σ H := for_tup Pv h0 hl hs hd
theorem loop_str {z : Str} {g : TG} {tb : TS} {D : Ends} {σ : L2.St} {H : Hp} (Pv : Nat → L2.St → Hp → Prop) (h0 : Pv 0 σ H)
    (hs : ∀ i c σ H, z.cps.toList[i]? = some c → Pv i σ H → g (.str ⟨#[c]⟩) σ H fun σ2 H2 => tb { D with nx := Pv (i + 1), ct := Pv (i + 1), bk := D.nx } σ2 H2) (hd : ∀ σ H, Pv z.length σ H → D.nx σ H) : Loop (Its z) g tb D σ H :=
  for_it walk_str Pv h0 (fun _ _ _ _ _ => trivial) (fun i x σ H H' hi p y => by
    obtain ⟨rfl, c, hc, rfl⟩ := y
    exact hs i c σ _ (by rw [Array.getElem?_toList]; exact hc) p) hd
end
end Fx

/-! ### defs by name -/
namespace Fx
open PySem PySem.Spec PyProof.Rows L2
/-- the def that stands at the module's name x keeps the promise sp -/
structure Has (P : Program) (w : World) (K : PySem.W.Frag) (mg : Str → Option Value) (base : Heap) (CX : CXT) (x : Str) (k : Nat) (ps : List Str) (sp : Sp) : Prop where
  ex : ∃ (f : Addr) (fd : FuncData), FnOk P w K mg base CX k f fd ps sp ∧ Binds K fd ps [] ∧ mg x = some (.ref f) ∧ PySem.W.keepIn K (.ref f) = true
/-- what the top has written of a def -/
structure FnFact (K : PySem.W.Frag) (x qual : Str) (st : Stmt) : Prop where
  ex : ∃ (f : Addr) (oc : Value) (od an : Option Addr) (sl : Array (Option Value)) (kV dc pm cd ct : Value),
    PySem.W.nsIn K mainGlobals x = some (some (.ref f)) ∧ K.lookup f = some ⟨oc, od, .func (PySem.W.fnOf x qual (defArgs st) (defBody st) (defScope st) .none kV dc pm an cd ct), sl⟩ ∧
    PySem.W.codeIn K cd qual = true ∧ PySem.W.keepIn K (.ref f) = true
theorem FnFact.of {K : PySem.W.Frag} {x qual : Str} {st : Stmt} {f : Addr} {oc : Value} {od an : Option Addr} {sl : Array (Option Value)} {kV dc pm cd ct : Value}
    (a : PySem.W.nsIn K mainGlobals x = some (some (.ref f))) (l : K.lookup f = some ⟨oc, od, .func (PySem.W.fnOf x qual (defArgs st) (defBody st) (defScope st) .none kV dc pm an cd ct), sl⟩)
    (c : PySem.W.codeIn K cd qual = true) (k : PySem.W.keepIn K (.ref f) = true) : FnFact K x qual st := ⟨f, oc, od, an, sl, kV, dc, pm, cd, ct, a, l, c, k⟩
/-- a def as it stands -/
structure At (K : PySem.W.Frag) (mg : Str → Option Value) (x qual : Str) (st : Stmt) (ps : List Str) : Prop where
  ex : ∃ (f : Addr) (fd : FuncData), Fun K x qual st f fd ∧ Binds K fd ps [] ∧ mg x = some (.ref f)
theorem At.of {K : PySem.W.Frag} {mg : Str → Option Value} {x qual : Str} {st : Stmt} {ps : List Str} {h : Heap} (X : K.In h) (G : h.Ns mainGlobals mg) (F : FnFact K x qual st)
    (hb : ∀ (kV doc pm : Value) (an : Option Addr) (cdv ct : Value) (us : List Value), us.length = ps.length → bindArgs (PySem.W.fnOf x qual (defArgs st) (defBody st) (defScope st) .none kV doc pm an cdv ct) ⟨us, []⟩ = pure (ps.zip us)) : At K mg x qual st ps := by
  obtain ⟨f, oc, od, an, sl, kV, dc, pm, cd, ct, a, l, c, k⟩ := F.ex
  have F1 := fun_mk (st := st) l c k
  exact ⟨_, _, F1, F1.binds hb, PySem.W.mg_of X G a⟩
section
variable {P : Program} {w : World} {K : PySem.W.Frag} {mg : Str → Option Value} {base : Heap}
theorem has_of {x qual : Str} {st : Stmt} {N ps : List Str} {k : Nat} {sp : Sp} (A : At K mg x qual st ps) (S : FnScope N ps (defScope st)) (len : ∀ vs H Q E, sp vs H Q E → vs.length = ps.length)
    (hbody : ∀ (cdv : Value) (f : Addr) (A : Around) (outer : List Env) (s : Shared) (H : Hp) (vs : List V) (Q : VK) (E : XK), Room k (A.deeper (envOfC qual (defScope st) s.heap.objs.size f cdv)) → sp vs H Q E →
      ∃ t, PSs (cxOf CX0 P w K mg base N qual (defScope st) f cdv A outer s H E).nox (defBody st) t ∧ t { nx := fun _ H' => Q .non H', rt := Q } (start N vs) H) : Has P w K mg base CX0 x (k + 1) ps sp := by
  obtain ⟨f, fd, F, B, G⟩ := A.ex
  exact ⟨f, fd, F.ok S len fun cdv A outer s H vs Q E hr h => hbody cdv f A outer s H vs Q E hr h, B, G, F.kp⟩
def spNone : Sp := fun _ _ _ _ => False
/-- a def of which nothing is promised -/
theorem At.never {x qual : Str} {st : Stmt} {ps : List Str} (A : At K mg x qual st ps) : Has P w K mg base CX0 x 0 ps spNone := by
  obtain ⟨f, fd, F, B, G⟩ := A.ex
  exact ⟨f, fd, ⟨fun _ _ _ _ h => h.elim, fun _ _ _ _ _ _ _ _ _ _ _ _ _ h => h.elim⟩, B, G, F.kp⟩
theorem Has.mono {CX : CXT} {x : Str} {j k : Nat} {ps : List Str} {sp : Sp} (h : Has P w K mg base CX x j ps sp) (hk : j ≤ k) : Has P w K mg base CX x k ps sp := by
  obtain ⟨f, fd, F, B, G, kp⟩ := h.ex
  exact ⟨f, fd, F.mono hk, B, G, kp⟩
end
section
variable {X : Cx} {CX : CXT} {k : Nat} {x : Str} {p pos : Pos} {e : Expr} {es : List Expr} {t : TA} {ps : List Str} {sp : Sp} {E : XK}
theorem fe_call (h : Has X.prog X.w X.K X.mg X.base CX x k ps sp) (hr : Room k X.A) (hg : Gl X x) (hx : Passes CX X E) (ha : PA X (e :: es) t) (hd : (x == ("__debug__" : Str)) = false := by decide)
    (hs : starEach (e :: es) X.env = (false, eval e X.env) :: starEach es X.env := by rfl) (hplain : (backTo pos (starEach es X.env)).any (·.1) = false := by rfl) : PE X (.Call (.Name x p) (e :: es) [] pos) (tCall sp [] E t) := by
  obtain ⟨f, fd, F, B, G, kp⟩ := h.ex
  exact pe_call F hr hg G kp B .nil hx ha hd hs hplain
theorem fe_call0 (h : Has X.prog X.w X.K X.mg X.base CX x k ps sp) (hr : Room k X.A) (hg : Gl X x) (hx : Passes CX X E) (hd : (x == ("__debug__" : Str)) = false := by decide) : PE X (.Call (.Name x p) [] [] pos) (tCall sp [] E tNil) := by
  obtain ⟨f, fd, F, B, G, kp⟩ := h.ex
  exact pe_call0 F hr hg G kp B .nil hx hd
end
end Fx

namespace Fx
open PySem PySem.Spec PyProof.Rows L2
section
variable {X : Cx}
/-- a built-in class as a value -/
theorem fe_ty {x : Str} {n : String} {pos : Pos} (hg : Gl X x) (hm : X.mg x = none) (hv : bootBuiltins x = some (.type n)) (hn : x ≠ "__name__" := by decide) (hd : (x == ("__debug__" : Str)) = false := by decide) : PE X (.Name x pos) (tC (.ty n)) := pe_bltn hg hm hv rfl hn hd
end
/-! ### texts as lists -/
def S (l : List Nat) : Str := ⟨l.toArray⟩
def L (z : Str) : List Nat := z.cps.toList
theorem S_L (z : Str) : S (L z) = z := by
  obtain ⟨⟨l⟩⟩ := z
  rfl
theorem L_S (l : List Nat) : L (S l) = l := rfl
theorem S_len (l : List Nat) : (S l).length = l.length := by simp [S, Str.length]
theorem L_len (z : Str) : (L z).length = z.length := by simp [L, Str.length]
theorem S_app (a b : List Nat) : S a ++ S b = S (a ++ b) := by
  show (⟨a.toArray ++ b.toArray⟩ : Str) = ⟨(a ++ b).toArray⟩
  simp
theorem S_cps (l : List Nat) : (S l).cps.toList = l := by simp [S]
theorem S_one (c : Nat) : (⟨#[c]⟩ : Str) = S [c] := rfl
theorem S_inj {a b : List Nat} (h : S a = S b) : a = b := by
  have := congrArg L h
  exact this
theorem cut_take (l : List Nat) {o : Int} (h0 : 0 ≤ o) (h1 : o ≤ l.length) : cutS (S l) none (some o) = S (l.take o.toNat) := by
  unfold cutS
  obtain ⟨k, rfl⟩ := Int.eq_ofNat_of_zero_le h0
  have e : HT.sIx (S l).length (S l).length (some (k : Int)) = min k (S l).length := HT.sIx_nat _ _ _
  rw [HT.sIx_none, e, S_len, S_cps]
  have : min k l.length = k := by omega
  rw [this]
  simp [S]
theorem cut_drop (l : List Nat) {o : Int} (h0 : 0 ≤ o) (h1 : o ≤ l.length) : cutS (S l) (some o) none = S (l.drop o.toNat) := by
  unfold cutS
  obtain ⟨k, rfl⟩ := Int.eq_ofNat_of_zero_le h0
  have e : HT.sIx (S l).length 0 (some (k : Int)) = min k (S l).length := HT.sIx_nat _ _ _
  rw [HT.sIx_none, e, S_len, S_cps]
  have : min k l.length = k := by omega
  rw [this]
  have : (l.drop k).take (l.length - k) = l.drop k := List.take_of_length_le (by rw [List.length_drop]; omega)
  simp [S, this]
theorem cut_mid (l : List Nat) {a b : Int} (h0 : 0 ≤ a) (h1 : a ≤ b) (h2 : b ≤ l.length) : cutS (S l) (some a) (some b) = S ((l.drop a.toNat).take (b.toNat - a.toNat)) := by
  unfold cutS
  obtain ⟨k, rfl⟩ := Int.eq_ofNat_of_zero_le h0
  obtain ⟨m, rfl⟩ := Int.eq_ofNat_of_zero_le (Int.le_trans h0 h1)
  have e1 : HT.sIx (S l).length 0 (some (k : Int)) = min k (S l).length := HT.sIx_nat _ _ _
  have e2 : HT.sIx (S l).length (S l).length (some (m : Int)) = min m (S l).length := HT.sIx_nat _ _ _
  rw [e1, e2, S_len, S_cps]
  have q1 : min k l.length = k := by omega
  have q2 : min m l.length = m := by omega
  rw [q1, q2]
  rfl
theorem len_line {n : Nat} (h : n ≤ 100000) : n ≤ sizeLine := Nat.le_trans h (by decide)
theorem len_line' {n : Nat} (h : n < 100000) : n < sizeLine := Nat.lt_of_lt_of_le h (by decide)
theorem small_div {i j : Int} (h : 0 < j) (h2 : j < 1073741824) : CDivW i j := wide_div (b := 30) h (by omega) (by decide) (by decide)
theorem mul_left {i j : Int} (h : -(2 ^ 64) < i) (h2 : i < 2 ^ 64) : IntMulOk i j := CMul.ok (.inl ⟨h, h2⟩)
theorem mul_right {i j : Int} (h : -(2 ^ 64) < j) (h2 : j < 2 ^ 64) : IntMulOk i j := CMul.ok (.inr ⟨h, h2⟩)
theorem same_mut {H H' : Hp} {p : Addr} {o : HO} (s : Same H H') (h : H p = none) : Same H (upd H' p o) := fun b x e => by
  rw [upd_ne (ne_of_none e h)]
  exact s b x e
theorem ex2 {α β : Type} {a : α} {b : β} {P : α → β → Prop} : (∃ i j, (a = i ∧ b = j) ∧ P i j) ↔ P a b := ⟨fun ⟨_, _, ⟨e1, e2⟩, h⟩ => e1 ▸ e2 ▸ h, fun h => ⟨a, b, ⟨rfl, rfl⟩, h⟩⟩
theorem at_ints {ns : List Int} {i : Int} (h0 : 0 ≤ i) (h1 : i < ns.length) : ∃ z, atI (ns.map V.int) i = some (.int z) := by
  obtain ⟨k, rfl⟩ := Int.eq_ofNat_of_zero_le h0
  have hk : k < ns.length := by omega
  exact ⟨ns[k], atI_nat (by rw [List.getElem?_map, List.getElem?_eq_getElem hk]; rfl)⟩
theorem at_strs {ns : List Str} {i : Int} (h0 : 0 ≤ i) (h1 : i < ns.length) : ∃ z, z ∈ ns ∧ atI (ns.map V.str) i = some (.str z) := by
  obtain ⟨k, rfl⟩ := Int.eq_ofNat_of_zero_le h0
  have hk : k < ns.length := by omega
  exact ⟨ns[k], List.getElem_mem hk, atI_nat (by rw [List.getElem?_map, List.getElem?_eq_getElem hk]; rfl)⟩
theorem getD_eq {α : Type} {ns : List α} {i : Nat} (d : α) (h : i < ns.length) : ns.getD i d = ns[i] := by
  simp [List.getD, List.getElem?_eq_getElem h]
theorem at_getD {ns : List Str} {i : Int} (d : Str) (h0 : 0 ≤ i) (h1 : i < ns.length) : atI (ns.map V.str) i = some (.str (ns.getD i.toNat d)) := by
  obtain ⟨k, rfl⟩ := Int.eq_ofNat_of_zero_le h0
  have hk : k < ns.length := by omega
  refine atI_nat ?_
  rw [List.getElem?_map, List.getElem?_eq_getElem hk, Int.toNat_natCast, getD_eq _ hk]
  rfl
theorem at_getN {ns : List Nat} {i : Int} (d : Nat) (h0 : 0 ≤ i) (h1 : i < ns.length) : atI ns i = some (ns.getD i.toNat d) := by
  obtain ⟨k, rfl⟩ := Int.eq_ofNat_of_zero_le h0
  have hk : k < ns.length := by omega
  refine atI_nat ?_
  rw [List.getElem?_eq_getElem hk, Int.toNat_natCast, getD_eq _ hk]
theorem getD_mem {α : Type} {ns : List α} {i : Nat} (d : α) (h : i < ns.length) : ns.getD i d ∈ ns := by
  rw [getD_eq _ h]
  exact List.getElem_mem h
theorem at_ints_mem {ns : List Int} {i : Int} (h0 : 0 ≤ i) (h1 : i < ns.length) : ∃ z, z ∈ ns ∧ atI (ns.map V.int) i = some (.int z) := by
  obtain ⟨k, rfl⟩ := Int.eq_ofNat_of_zero_le h0
  have hk : k < ns.length := by omega
  exact ⟨ns[k], List.getElem_mem hk, atI_nat (by rw [List.getElem?_map, List.getElem?_eq_getElem hk]; rfl)⟩
theorem emod_lo (r : Int) {m : Int} (h : 0 < m) : 0 ≤ r % m := Int.emod_nonneg _ (by omega)
theorem emod_hi (r : Int) {m : Int} (h : 0 < m) : r % m < m := Int.emod_lt_of_pos _ h
theorem at_vs {xs : List V} {i : Int} (h0 : 0 ≤ i) (h1 : i < xs.length) : ∃ z, z ∈ xs ∧ atI xs i = some z := by
  obtain ⟨k, rfl⟩ := Int.eq_ofNat_of_zero_le h0
  have hk : k < xs.length := by omega
  exact ⟨xs[k], List.getElem_mem hk, atI_nat (List.getElem?_eq_getElem hk)⟩
end Fx

/-! ### constants of the module, more of texts -/
namespace Fx
open PySem PySem.Spec PyProof.Rows L2
theorem one_list (c : Nat) : (⟨#[c]⟩ : Str).cps.toList = [c] := rfl
theorem absV_rel {u : Value} {x : V} (h : absV u = some x) : RelV x u := by
  cases u <;> first
    | (cases h; rfl)
    | (cases h; exact ⟨_, rfl⟩)
    | cases h
def absVs : List Value → Option (List V)
  | [] => some []
  | u :: us => match absV u, absVs us with
    | some x, some xs => some (x :: xs)
    | _, _ => none
theorem absVs_rel : ∀ {us : List Value} {xs : List V}, absVs us = some xs → Vals xs us
  | [], xs, h => by cases h; exact .nil
  | u :: us, xs, h => by
    unfold absVs at h
    split at h
    · rename_i x ys h1 h2
      cases h
      exact .cons (absV_rel h1) (absVs_rel h2)
    · cases h
/-- a tuple of the module -/
structure TupFact (K : PySem.W.Frag) (x : Str) (xs : List V) : Prop where
  ex : ∃ (a : Addr) (od : Option Addr) (its : Array Value) (n : Nat) (sl : Array (Option Value)), PySem.W.nsIn K mainGlobals x = some (some (.ref a)) ∧ K.lookup a = some ⟨.type "tuple", od, .seq its n, sl⟩ ∧ absVs its.toList = some xs ∧ its.size ≤ 1000
theorem TupFact.of {K : PySem.W.Frag} {x : Str} {xs : List V} {a : Addr} {od : Option Addr} {its : Array Value} {n : Nat} {sl : Array (Option Value)} (h1 : PySem.W.nsIn K mainGlobals x = some (some (.ref a))) (h2 : K.lookup a = some ⟨.type "tuple", od, .seq its n, sl⟩)
    (h3 : absVs its.toList = some xs) (h4 : its.size ≤ 1000) : TupFact K x xs := ⟨a, od, its, n, sl, h1, h2, h3, h4⟩
theorem gstr_of {K : PySem.W.Frag} {x z : Str} {t : Tok} (h : PySem.W.nsIn K mainGlobals x = some (some (.str z t))) : ∃ t, PySem.W.nsIn K mainGlobals x = some (some (.str z t)) := ⟨t, h⟩
theorem gint_of {K : PySem.W.Frag} {x : Str} {z : Int} {t : Tok} (h : PySem.W.nsIn K mainGlobals x = some (some (.int z t))) : ∃ t, PySem.W.nsIn K mainGlobals x = some (some (.int z t)) := ⟨t, h⟩
def GTup (K : PySem.W.Frag) (mg : Str → Option Value) (x : Str) (xs : List V) : Prop := ∃ a, mg x = some (.ref a) ∧ ∀ H, SqT K H a xs
theorem TupFact.get {K : PySem.W.Frag} {mg : Str → Option Value} {x : Str} {xs : List V} {h : Heap} (X : K.In h) (G : h.Ns mainGlobals mg) (F : TupFact K x xs) : GTup K mg x xs := by
  obtain ⟨a, od, its, n, sl, h1, h2, h3, h4⟩ := F.ex
  exact ⟨a, PySem.W.mg_of X G h1, fun H => .inr ⟨_, its, n, h2, rfl, rfl, Nat.le_trans h4 (by decide), absVs_rel h3⟩⟩
def fGt_ (K : PySem.W.Frag) (xs : List V) : TE := fun _ H Q => ∀ a, (∀ H', SqT K H' a xs) → Q (.ref a) H
section
variable {X : Cx} {x : Str} {pos : Pos}
theorem fe_gstr {z : Str} (hg : Gl X x) (h : ∃ t, X.mg x = some (.str z t)) (hd : (x == ("__debug__" : Str)) = false := by decide) : PE X (.Name x pos) (tC (.str z)) := by
  obtain ⟨t, h⟩ := h
  exact pe_glob hg h ⟨t, rfl⟩ hd
theorem fe_gint {z : Int} (hg : Gl X x) (h : ∃ t, X.mg x = some (.int z t)) (hd : (x == ("__debug__" : Str)) = false := by decide) : PE X (.Name x pos) (tC (.int z)) := by
  obtain ⟨t, h⟩ := h
  exact pe_glob hg h ⟨t, rfl⟩ hd
theorem fe_gtup {xs : List V} (hg : Gl X x) (h : GTup X.K X.mg x xs) (hd : (x == ("__debug__" : Str)) = false := by decide) : PE X (.Name x pos) (fGt_ X.K xs) := by
  obtain ⟨a, h, hs⟩ := h
  exact pe_wk (pe_glob hg h (v := .ref a) rfl hd) fun σ H Q q => q a hs
/-- ''.join(list or tuple of texts) -/
def fJoin (K : PySem.W.Frag) : V → List V → Hp → VK → Prop := fun x vs H Q => match x, vs with
  | .str a, [.ref p] => ∃ ys : List Str, Rl K H p (ys.map V.str) ∧ (ys.map (·.length)).sum + ys.length * a.length ≤ 16777216 ∧ Q (.str (Txt.join a ys)) H
  | _, _ => False
theorem mt_fJoin : MtR X "str.join" (fJoin X.K) := by
  intro pins s σ H x xs v us Q I rx rs q
  unfold fJoin at q
  split at q
  · obtain ⟨ys, h1, h2, h3⟩ := q
    exact mt_join pins s σ H _ _ v us Q I rx rs ⟨_, _, ys, rfl, rfl, h1, h2, h3⟩
  · exact q.elim
def fLstripC : V → List V → Hp → VK → Prop := fun x vs H Q => match x, vs with
  | .str a, [.str b] => a.length ≤ sizeLine ∧ Q (.str (Txt.lstripChars a b)) H
  | _, _ => False
theorem mt_fLstripC : MtR X "str.lstrip" fLstripC := by
  intro pins s σ H x xs v us Q I rx rs q
  unfold fLstripC at q
  split at q
  · exact mt_lstripChars pins s σ H _ _ v us Q I rx rs ⟨_, _, rfl, rfl, q⟩
  · exact q.elim
end
theorem join_ones : ∀ cs : List Nat, Txt.join (S []) (cs.map fun c => S [c]) = S cs := by
  intro cs
  show (⟨_⟩ : Str) = ⟨_⟩
  congr 1
  cases cs with
  | nil => rfl
  | cons c r =>
    have go : ∀ (r : List Nat) (acc : List Nat), ((r.map fun c => S [c]).foldl (fun (acc : Array Nat) (p : Str) => acc ++ (S []).cps ++ p.cps) acc.toArray) = (acc ++ r).toArray := by
      intro r
      induction r with
      | nil => intro acc; simp
      | cons d r ih =>
        intro acc
        rw [List.map_cons, List.foldl_cons]
        have e : acc.toArray ++ (S []).cps ++ (S [d]).cps = (acc ++ [d]).toArray := by simp [S]
        rw [e, ih, List.append_assoc]
        rfl
    have := go r [c]
    simpa [S] using this
theorem drop_tw (p : Nat → Bool) : ∀ l : List Nat, l.drop (l.takeWhile p).length = l.dropWhile p
  | [] => rfl
  | c :: r => by
    rw [List.takeWhile_cons, List.dropWhile_cons]
    by_cases h : p c = true
    · rw [if_pos h, if_pos h, List.length_cons, List.drop_succ_cons, drop_tw p r]
    · rw [if_neg h, if_neg h, List.length_nil, List.drop_zero]
theorem lstrip_zero (l : List Nat) (b : Nat) : Txt.lstripChars (S l) (S [b]) = S (l.dropWhile (· == b)) := by
  have hp : ((S [b]).cps.contains : Nat → Bool) = (· == b) := by
    funext c
    simp only [S, List.contains_toArray, List.contains_cons, List.contains_nil, Bool.or_false]
  unfold Txt.lstripChars
  rw [hp]
  have ht : (stripLo (· == b) true (S l)) = (l.takeWhile (· == b)).length := rfl
  unfold Txt.stripBy
  split
  · rename_i h
    unfold stripSame at h
    have h0 : stripLo (· == b) true (S l) = 0 := by
      have := (Bool.and_eq_true_iff.mp h).1
      exact eq_of_beq this
    rw [ht] at h0
    rw [← drop_tw, h0, List.drop_zero]
  · unfold stripped
    rw [ht]
    have e : stripHi (· == b) false (S l) (l.takeWhile (· == b)).length = (S l).length := rfl
    rw [e, ← drop_tw]
    have := StrLaws.strSub_toList (S l) (l.takeWhile (· == b)).length (S l).length
    rw [← S_L (Builtin.Str.strSub _ _ _)]
    congr 1
    show (Builtin.Str.strSub _ _ _).cps.toList = _
    rw [this, S_cps, S_len]
    exact List.take_of_length_le (by rw [List.length_drop]; exact Nat.le_refl _)
end Fx

set_option Elab.async false
set_option linter.all false
set_option maxRecDepth 100000
/-! Ox: objects of the program's own classes, over Fx. -/
namespace Fx
open PySem PySem.Spec PyProof.Rows L2
/-! ### weakening within -/
section
variable {X : Cx}
/-- whatever follows may be weaker -/
def clos (t : TE) : TE := fun σ H Q => ∃ Q0 : VK, t σ H Q0 ∧ ∀ v H1, Q0 v H1 → Q v H1
def closA (t : TA) : TA := fun σ H Q => ∃ Q0, t σ H Q0 ∧ ∀ v H1, Q0 v H1 → Q v H1
theorem pe_clos {e : Expr} {t : TE} (h : PE X e t) : PE X e (clos t) := ⟨fun pins s σ H Q I ⟨Q0, h0, w⟩ => wpAny_mono (h.run pins s σ H Q0 I h0) (fun u s' ⟨v, H', I', r, q⟩ => ⟨v, H', I', r, w v H' q⟩) fun _ _ x => x⟩
theorem pa_clos {es : List Expr} {t : TA} (h : PA X es t) : PA X es (closA t) := ⟨fun pos pins s σ H Q I ⟨Q0, h0, w⟩ => wpAny_mono (h.run pos pins s σ H Q0 I h0) (fun u s' ⟨v, H', I', r, q⟩ => ⟨v, H', I', r, w v H' q⟩) fun _ _ x => x⟩
end
/-! ### heaps but for some places -/
def Keep (ps : List Addr) (H H' : Hp) : Prop := ∀ a o, a ∉ ps → H a = some o → H' a = some o
theorem Keep.refl {ps : List Addr} {H : Hp} : Keep ps H H := fun _ _ _ h => h
theorem Keep.trans {ps : List Addr} {H H1 H2 : Hp} (h : Keep ps H H1) (k : Keep ps H1 H2) : Keep ps H H2 := fun a o n e => k a o n (h a o n e)
theorem Keep.of {ps : List Addr} {H H' : Hp} (s : Same H H') : Keep ps H H' := fun a o _ e => s a o e
theorem Keep.mono {ps qs : List Addr} {H H' : Hp} (h : Keep ps H H') (m : ∀ a ∈ ps, a ∈ qs) : Keep qs H H' := fun a o n e => h a o (fun z => n (m a z)) e
theorem Keep.same {H H' : Hp} (h : Keep [] H H') : Same H H' := fun a o e => h a o (by simp) e
theorem Keep.upd {ps : List Addr} {H H' : Hp} {p : Addr} {o : HO} (h : Keep ps H H') (m : p ∈ ps) : Keep ps H (L2.upd H' p o) := fun a x n e => by
  rw [upd_ne (fun q => n (by rw [q]; exact m))]
  exact h a x n e
theorem Keep.updN {ps : List Addr} {H H' : Hp} {p : Addr} {o : HO} (h : Keep ps H H') (m : H p = none) : Keep ps H (L2.upd H' p o) := fun a x n e => by
  rw [upd_ne (ne_of_none e m)]
  exact h a x n e
/-- what the caller does not know -/
theorem Keep.drop {p : Addr} {ps : List Addr} {H H' : Hp} (h : Keep (p :: ps) H H') (m : H p = none) : Keep ps H H' := fun a x n e => h a x (by
  intro q
  rcases List.mem_cons.mp q with rfl | q
  · rw [m] at e; cases e
  · exact n q) e
/-- the new object's heap, when only it has been changed since -/
theorem mk_same {H H0 : Hp} {y : Addr} {o : HO} (s : Same H H0) (n : H y = none) : Same H (L2.upd H0 y o) := same_mut s n
theorem mk_same2 {H H0 : Hp} {y : Addr} {o o' : HO} (s : Same H H0) (n : H y = none) : Same H (L2.upd (L2.upd H0 y o) y o') := same_mut (same_mut s n) n
theorem upd2 {H : Hp} {y : Addr} {o o' : HO} : L2.upd (L2.upd H y o) y o' = L2.upd H y o' := by
  funext a
  by_cases h : a = y
  · subst h; rw [upd_same, upd_same]
  · rw [upd_ne h, upd_ne h, upd_ne h]
theorem SqL.keep {K : PySem.W.Frag} {ps : List Addr} {H H' : Hp} {a : Addr} {xs : List V} (k : Keep ps H H') (n : a ∉ ps) (h : SqL K H a xs) : SqL K H' a xs :=
  h.elim (fun h => .inl (h.elim (fun h => .inl (k _ _ n h)) fun ⟨o, h⟩ => .inr ⟨o, k _ _ n h⟩)) fun h => .inr h
/-! ### fields -/
def fFld (cs : List Addr) (f : Str) (ta : TE) : TE := fun σ H Q => ta σ H fun x H1 => match x with
  | .ref a => match H1 a with
    | some (.ins C _ fs) => C ∈ cs ∧ match fs.lookup f with
      | some v => Q v H1
      | none => False
    | _ => False
  | _ => False
def fSetF (cs : List Addr) (f : Str) (ta tv : TE) : TS := fun D σ H => tv σ H fun y H1 => ta σ H1 fun x H2 => match x with
  | .ref a => match H2 a with
    | some (.ins C dx fs) => C ∈ cs ∧ fs.length < 1000 ∧ D.nx σ (upd H2 a (.ins C dx (putF f y fs)))
    | _ => False
  | _ => False
/-- the classes that know an attribute only by their instances -/
def Plain (K : PySem.W.Frag) (cs : List Addr) (f : Str) : Prop := ∀ C ∈ cs, Cls K C ∧ NoAttr K C f
section
variable {X : Cx} {o e value : Expr} {f : Str} {pos pos' : Pos} {ta tv : TE} {cs : List Addr}
theorem fe_fld (he : PE X e ta) (hc : Plain X.K cs f) (hb : attributeBase e f X.env (eval e X.env) = eval e X.env) : PE X (.Attribute e f pos) (fFld cs f ta) := by
  refine pe_wk (pe_fld (pe_clos he) hb) fun σ H Q q => ⟨_, q, fun x H1 q => ?_⟩
  split at q
  · split at q
    · obtain ⟨m, q⟩ := q
      split at q
      · exact ⟨_, _, _, _, _, rfl, by assumption, (hc _ m).1, (hc _ m).2, by assumption, q⟩
      · exact q.elim
    · exact q.elim
  · exact q.elim
theorem fs_fld (ha : PE X o ta) (hv : PE X value tv) (hc : Plain X.K cs f) (hs : swapsWith value (some (.Attribute o f pos')) pos.line X.env = pure false) : PS X (.Assign [.Attribute o f pos'] value pos) (fSetF cs f ta tv) := by
  refine ps_wk (ps_fld (pe_clos ha) (pe_clos hv) hs) fun D σ H q => ⟨_, q, fun y H1 q => ⟨_, q, fun x H2 q => ?_⟩⟩
  split at q
  · split at q
    · exact ⟨_, _, _, _, rfl, by assumption, (hc _ q.1).1, (hc _ q.1).2, q.2.1, q.2.2⟩
    · exact q.elim
  · exact q.elim
end
/-- {} -/
def fDnew : TE := fun _ H Q => ∀ p H2, H p = none → Same H H2 → H2 p = some (.dK []) → Q (.ref p) H2
theorem fe_dnew {X : Cx} {pos : Pos} : PE X (.Dict [] [] pos) fDnew := pe_wk pe_dnewK fun σ H Q q => fun p np => q p _ np (same_new np) upd_same
theorem rl_keep {K : PySem.W.Frag} {H H' : Hp} {a : Addr} {xs : List V} (s : Same H H') (h : Rl K H a xs) : Rl K H' a xs := h.elim (fun h => .inl (s.seq h)) fun h => .inr (SqT.ext h s)
/-! ### methods, making -/
/-- a method as it stands in its class -/
structure AtM (K : PySem.W.Frag) (C : Addr) (x qual : Str) (st : Stmt) (ps : List Str) : Prop where
  ex : ∃ (f : Addr) (fd : FuncData), Fun K x qual st f fd ∧ Binds K fd ps [] ∧ Meth K C x f
structure MFact (K : PySem.W.Frag) (C : Addr) (x qual : Str) (st : Stmt) : Prop where
  ex : ∃ (f : Addr) (oc : Value) (od an : Option Addr) (sl : Array (Option Value)) (kV dc pm cd ct : Value),
    PySem.W.findIn K (.ref C) x = some (some (.ref f)) ∧ K.lookup f = some ⟨oc, od, .func (PySem.W.fnOf x qual (defArgs st) (defBody st) (defScope st) .none kV dc pm an cd ct), sl⟩ ∧
    PySem.W.codeIn K cd qual = true ∧ PySem.W.keepIn K (.ref f) = true ∧ PySem.W.isFn K (.ref f) = true
theorem MFact.of {K : PySem.W.Frag} {C : Addr} {x qual : Str} {st : Stmt} {f : Addr} {oc : Value} {od an : Option Addr} {sl : Array (Option Value)} {kV dc pm cd ct : Value}
    (a : PySem.W.findIn K (.ref C) x = some (some (.ref f))) (l : K.lookup f = some ⟨oc, od, .func (PySem.W.fnOf x qual (defArgs st) (defBody st) (defScope st) .none kV dc pm an cd ct), sl⟩)
    (c : PySem.W.codeIn K cd qual = true) (k : PySem.W.keepIn K (.ref f) = true) (i : PySem.W.isFn K (.ref f) = true) : MFact K C x qual st := ⟨f, oc, od, an, sl, kV, dc, pm, cd, ct, a, l, c, k, i⟩
theorem AtM.of {K : PySem.W.Frag} {C : Addr} {x qual : Str} {st : Stmt} {ps : List Str} (F : MFact K C x qual st)
    (hb : ∀ (kV doc pm : Value) (an : Option Addr) (cdv ct : Value) (us : List Value), us.length = ps.length → bindArgs (PySem.W.fnOf x qual (defArgs st) (defBody st) (defScope st) .none kV doc pm an cdv ct) ⟨us, []⟩ = pure (ps.zip us)) : AtM K C x qual st ps := by
  obtain ⟨f, oc, od, an, sl, kV, dc, pm, cd, ct, a, l, c, k, i⟩ := F.ex
  have F1 := fun_mk (st := st) l c k
  exact ⟨_, _, F1, F1.binds hb, ⟨a, i, k⟩⟩
/-- a method that keeps a promise (of the object and the arguments) -/
structure HasM (P : Program) (w : World) (K : PySem.W.Frag) (mg : Str → Option Value) (base : Heap) (CX : CXT) (C : Addr) (x : Str) (k : Nat) (ps : List Str) (sp : Sp) : Prop where
  ex : ∃ (f : Addr) (fd : FuncData), FnOk P w K mg base CX k f fd ps sp ∧ Binds K fd ps [] ∧ Meth K C x f
/-- a class whose making keeps a promise (of the arguments) -/
structure HasC (P : Program) (w : World) (K : PySem.W.Frag) (mg : Str → Option Value) (base : Heap) (CX : CXT) (C : Addr) (x : Str) (k : Nat) (ps : List Str) (sp : Sp) : Prop where
  ex : ∃ (f : Addr) (fd : FuncData) (sp' : Sp), FnOk P w K mg base CX k f fd ps sp' ∧ Binds K fd ps [] ∧ Mk K C f ∧ mg x = some (.ref C) ∧
    ∀ vs H Q E, sp vs H Q E → ∀ y dx H0, H y = none → Same H H0 → H0 y = some (.ins C dx []) → sp' (.ref y :: vs) H0 (fun v H2 => v = .non ∧ Q (.ref y) H2) E
section
variable {P : Program} {w : World} {K : PySem.W.Frag} {mg : Str → Option Value} {base : Heap}
theorem hasM_of {C : Addr} {x qual : Str} {st : Stmt} {N ps : List Str} {k : Nat} {sp : Sp} (A : AtM K C x qual st ps) (S : FnScope N ps (defScope st)) (len : ∀ vs H Q E, sp vs H Q E → vs.length = ps.length)
    (hbody : ∀ (cdv : Value) (f : Addr) (A : Around) (outer : List Env) (s : Shared) (H : Hp) (vs : List V) (Q : VK) (E : XK), Room k (A.deeper (envOfC qual (defScope st) s.heap.objs.size f cdv)) → sp vs H Q E →
      ∃ t, PSs (cxOf CX0 P w K mg base N qual (defScope st) f cdv A outer s H E).nox (defBody st) t ∧ t { nx := fun _ H' => Q .non H', rt := Q } (start N vs) H) : HasM P w K mg base CX0 C x (k + 1) ps sp := by
  obtain ⟨f, fd, F, B, G⟩ := A.ex
  exact ⟨f, fd, F.ok S len fun cdv A outer s H vs Q E hr h => hbody cdv f A outer s H vs Q E hr h, B, G⟩
/-- what a class is for making -/
structure MkAt (K : PySem.W.Frag) (mg : Str → Option Value) (x : Str) (C : Addr) : Prop where
  makes : PySem.W.makesIn K C = true
  kp : PySem.W.keepIn K (.ref C) = true
  at_ : mg x = some (.ref C)
theorem hasC_of {C : Addr} {x qual : Str} {st : Stmt} {N ps : List Str} {k : Nat} {sp : Sp} (M : MkAt K mg x C) (A : AtM K C "__init__" qual st ps) (S : FnScope N ps (defScope st)) (len : ∀ vs H Q E, sp vs H Q E → vs.length + 1 = ps.length)
    (hbody : ∀ (cdv : Value) (f : Addr) (A : Around) (outer : List Env) (s : Shared) (H : Hp) (vs : List V) (Q : VK) (E : XK) (y dx : Addr) (H0 : Hp), Room k (A.deeper (envOfC qual (defScope st) s.heap.objs.size f cdv)) → sp vs H Q E → H y = none → Same H H0 → H0 y = some (.ins C dx []) →
      ∃ t, PSs (cxOf CX0 P w K mg base N qual (defScope st) f cdv A outer s H0 E).nox (defBody st) t ∧ t { nx := fun _ H' => Q (.ref y) H', rt := fun v H' => v = .non ∧ Q (.ref y) H' } (start N (.ref y :: vs)) H0) : HasC P w K mg base CX0 C x (k + 1) ps sp := by
  obtain ⟨f, fd, F, B, G⟩ := A.ex
  refine ⟨f, fd, fun ws H0 Q' E => ∃ y vs H Q dx, ws = .ref y :: vs ∧ sp vs H Q E ∧ H y = none ∧ Same H H0 ∧ H0 y = some (.ins C dx []) ∧ Q' = fun v H2 => v = .non ∧ Q (.ref y) H2, ?_, B, ⟨M.makes, G.at_, G.fn, M.kp⟩, M.at_, ?_⟩
  · refine F.ok S (fun ws H0 Q' E h => ?_) fun cdv A outer s H0 ws Q' E hr h => ?_
    · obtain ⟨y, vs, H, Q, dx, rfl, h, _⟩ := h
      exact len vs H Q E h
    · obtain ⟨y, vs, H, Q, dx, rfl, h, hy, hs, h0, rfl⟩ := h
      obtain ⟨t, h1, h2⟩ := hbody cdv f A outer s H vs Q E y dx H0 hr h hy hs h0
      refine ⟨t, h1, ?_⟩
      have e : (fun (_ : L2.St) (H' : Hp) => (fun v H2 => v = V.non ∧ Q (.ref y) H2) V.non H') = fun _ H' => Q (.ref y) H' := by
        funext _ H'
        exact propext ⟨fun h => h.2, fun h => ⟨rfl, h⟩⟩
      rw [e]
      exact h2
  · intro vs H Q E h y dx H0 hy hs h0
    exact ⟨y, vs, H, Q, dx, rfl, h, hy, hs, h0, rfl⟩
end
section
variable {X : Cx} {CX : CXT} {k : Nat} {C : Addr} {x m : Str} {p pos apos : Pos} {o e : Expr} {es : List Expr} {t : TA} {ta : TE} {ps : List Str} {sp : Sp} {E : XK}
theorem fe_make (h : HasC X.prog X.w X.K X.mg X.base CX C x k ps sp) (hr : Room (k + 1) X.A) (hg : Gl X x) (hx : Passes CX X E) (ha : PA X (e :: es) t) (hd : (x == ("__debug__" : Str)) = false := by decide)
    (hs : starEach (e :: es) X.env = (false, eval e X.env) :: starEach es X.env := by rfl) (hplain : (backTo pos (starEach es X.env)).any (·.1) = false := by rfl) : PE X (.Call (.Name x p) (e :: es) [] pos) (tCall sp [] E t) := by
  obtain ⟨f, fd, sp', F, B, M, G, h⟩ := h.ex
  refine pe_wk (pe_make M F hr hg G B .nil hx (pa_clos ha) hd hs hplain) fun σ H Q q => ⟨_, q, fun vs H1 q y dx n1 n2 n3 => ?_⟩
  rw [List.append_nil] at q ⊢
  refine h vs H1 Q E q y dx _ n1 (fun b z ez => ?_) upd_same
  rw [upd_ne (ne_of_none ez n1), upd_ne (ne_of_none ez n2)]
  exact ez
theorem fe_make0 (h : HasC X.prog X.w X.K X.mg X.base CX C x k ps sp) (hr : Room (k + 1) X.A) (hg : Gl X x) (hx : Passes CX X E) (hd : (x == ("__debug__" : Str)) = false := by decide) : PE X (.Call (.Name x p) [] [] pos) (tCall sp [] E tNil) := by
  obtain ⟨f, fd, sp', F, B, M, G, h⟩ := h.ex
  refine pe_wk (pe_make0 M F hr hg G B .nil hx hd) fun σ H Q q => ?_
  show tNil σ H _
  intro y dx n1 n2 n3
  refine h [] H Q E q y dx _ n1 (fun b z ez => ?_) upd_same
  rw [upd_ne (ne_of_none ez n1), upd_ne (ne_of_none ez n2)]
  exact ez
/-- an instance of the class, without an attribute of the name -/
def isOb (C : Addr) (m : Str) : V → Hp → Prop := fun x H => match x with
  | .ref a => match H a with
    | some (.ins D _ fs) => D = C ∧ fs.lookup m = none
    | _ => False
  | _ => False
def fMeth (C : Addr) (m : Str) (sp : Sp) (E : XK) (ta : TE) (t : TA) : TE := fun σ H Q => ta σ H fun x H1 => isOb C m x H1 ∧ t σ H1 fun vs H2 => sp (x :: vs) H2 Q E
theorem fMeth_to {σ : L2.St} {H : Hp} {Q : VK} (q : fMeth C m sp E ta t σ H Q) : tMeth C m sp [] E (clos ta) t σ H Q := by
  refine ⟨_, q, fun x H1 ⟨q1, q2⟩ => ?_⟩
  unfold isOb at q1
  split at q1
  · split at q1
    · obtain ⟨rfl, q1⟩ := q1
      refine ⟨_, _, _, rfl, by assumption, q1, ?_⟩
      simp only [List.append_nil]
      exact q2
    · exact q1.elim
  · exact q1.elim
theorem fe_meth {pl : Sem Bool} (h : HasM X.prog X.w X.K X.mg X.base CX C m k ps sp) (c : Cls X.K C) (hr : Room k X.A) (hx : Passes CX X E) (he : PE X o ta) (ha : PA X (e :: es) t)
    (hst : starEach (e :: es) X.env = (false, eval e X.env) :: starEach es X.env := by rfl) (hpl : (backTo pos (starEach es X.env)).any (·.1) = false := by rfl)
    (ht : eval (.Call (.Attribute o m apos) (e :: es) [] pos) X.env = (do
      let ov ← eval o X.env
      standAt apos.atName
      let (f, first) ← holding [ov] (getMethod ov m pl)
      callWith pos f first (backTo pos (starEach (e :: es) X.env)) (backToKw pos (keywordEach [] X.env))) := by rfl) :
    PE X (.Call (.Attribute o m apos) (e :: es) [] pos) (fMeth C m sp E ta t) := by
  obtain ⟨f, fd, F, B, M⟩ := h.ex
  exact pe_wk (pe_meth (pe_clos he) c M F hr B .nil hx ha hst hpl ht) fun σ H Q q => fMeth_to q
theorem fe_meth0 {pl : Sem Bool} (h : HasM X.prog X.w X.K X.mg X.base CX C m k ps sp) (c : Cls X.K C) (hr : Room k X.A) (hx : Passes CX X E) (he : PE X o ta)
    (ht : eval (.Call (.Attribute o m apos) [] [] pos) X.env = (do
      let ov ← eval o X.env
      standAt apos.atName
      let (f, first) ← holding [ov] (getMethod ov m pl)
      callWith pos f first (backTo pos (starEach [] X.env)) (backToKw pos (keywordEach [] X.env))) := by rfl) :
    PE X (.Call (.Attribute o m apos) [] [] pos) (fMeth C m sp E ta tNil) := by
  obtain ⟨f, fd, F, B, M⟩ := h.ex
  exact pe_wk (pe_meth0 (pe_clos he) c M F hr B .nil hx ht) fun σ H Q q => fMeth_to q
end
/-! ### isinstance of own classes -/
/-- what isinstance asks of a class of the program -/
structure OCls (K : PySem.W.Frag) (C : Addr) : Prop where
  cl : Cls K C
  ci : PySem.W.findIn K (.ref C) "__class__" = some (some (.builtin "object.__class__"))
  gd : PySem.W.specialIn K (.builtin "object.__class__") "__get__" = some (some (.builtin "getset_descriptor.__get__"))
  tk : PySem.W.takesIn K (.builtin "object.__class__") = some true
  mr : PySem.W.mroIn K C (.type "object") = some true
/-- the answers of isinstance for instances of cs and plain values, at the classes ds -/
structure Kit (K : PySem.W.Frag) (cs ds : List Addr) : Prop where
  ow : ∀ C ∈ cs, OCls K C
  oo : ∀ C ∈ cs, ∀ D ∈ ds, PySem.W.kitOne K (.ref C) (.ref D) = some (decide (C = D))
  bo : ∀ n ∈ ["NoneType", "bool", "int", "str", "list", "tuple", "dict"], ∀ D ∈ ds, PySem.W.kitOne K (.type n) (.ref D) = some false
  ob : ∀ C ∈ cs, ∀ n ∈ ["bool", "int", "str", "list", "tuple", "dict"], PySem.W.kitOne K (.ref C) (.type n) = some false
/-- a value's class -/
def tyV2 (H : Hp) : V → Option Value
  | .ref a => match H a with
    | some (.ins C _ _) => some (.ref C)
    | some (.lst _) => some (.type "list")
    | some (.tup _) => some (.type "tuple")
    | some (.dK _) => some (.type "dict")
    | some (.dT _) => some (.type "dict")
    | _ => none
  | .non => some (.type "NoneType")
  | .bl _ => some (.type "bool")
  | .int _ => some (.type "int")
  | .str _ => some (.type "str")
  | _ => none
def okT (cs : List Addr) : Value → Prop
  | .ref C => C ∈ cs
  | _ => True
def kit2 (D : Addr) : Value → Bool
  | .ref C => decide (C = D)
  | _ => false
theorem ty2_kit {K : PySem.W.Frag} {cs ds : List Addr} (k : Kit K cs ds) {H : Hp} {x : V} {t : Value} (h : tyV2 H x = some t) (ok : okT cs t) : TyX K H x t ∧ ∀ D ∈ ds, PySem.W.kitOne K t (.ref D) = some (kit2 D t) := by
  unfold tyV2 at h
  split at h <;> first
    | (cases h; exact ⟨.base .non, fun D hD => k.bo "NoneType" (by decide) D hD⟩)
    | (cases h; exact ⟨.base (.bl _), fun D hD => k.bo "bool" (by decide) D hD⟩)
    | (cases h; exact ⟨.base (.int _), fun D hD => k.bo "int" (by decide) D hD⟩)
    | (cases h; exact ⟨.base (.str _), fun D hD => k.bo "str" (by decide) D hD⟩)
    | (split at h <;> first
        | (cases h; exact ⟨.base (.lst (by assumption)), fun D hD => k.bo "list" (by decide) D hD⟩)
        | (cases h; exact ⟨.base (.tup (by assumption)), fun D hD => k.bo "tuple" (by decide) D hD⟩)
        | (cases h; exact ⟨.base (.dK (by assumption)), fun D hD => k.bo "dict" (by decide) D hD⟩)
        | (cases h; exact ⟨.base (.dT (by assumption)), fun D hD => k.bo "dict" (by decide) D hD⟩)
        | (cases h
           have O := k.ow _ ok
           exact ⟨.base (.ins (by assumption) O.cl O.ci O.gd O.tk O.mr), fun D hD => k.oo _ ok D hD⟩)
        | cases h)
    | cases h
/-- isinstance(x, C), C an own class -/
def fIsiO (cs ds : List Addr) : List V → Hp → VK → Prop := fun xs H Q => match xs with
  | [x, .ref D] => ∃ t, tyV2 H x = some t ∧ okT cs t ∧ D ∈ ds ∧ Q (.bl (kit2 D t)) H
  | _ => False
theorem call_fIsiO {X : Cx} {cs ds : List Addr} (k : Kit X.K cs ds) : CallR X (.builtin "isinstance") (fIsiO cs ds) := by
  intro pins s σ H xs us Q I r h
  match xs, r, h with
  | [x, .ref D], r, h =>
    obtain ⟨t, h1, h2, h3, h4⟩ := h
    obtain ⟨g1, g2⟩ := ty2_kit k h1 h2
    exact call_isi pins s σ H _ us Q I r ⟨x, .ref D, _, _, _, rfl, .own D, g1, g2 D h3, h4⟩
/-- isinstance(x, (C, D, ..)), own classes, the tuple just made -/
def kits2 (t : Value) : List V → Bool
  | .ref D :: r => kit2 D t || kits2 t r
  | _ => false
def allIn (ds : List Addr) : List V → Prop
  | [] => True
  | .ref D :: r => D ∈ ds ∧ allIn ds r
  | _ :: _ => False
theorem kits2_any {K : PySem.W.Frag} {ds : List Addr} {t : Value} (k : ∀ D ∈ ds, PySem.W.kitOne K t (.ref D) = some (kit2 D t)) : ∀ {vs : List V}, allIn ds vs → ∃ us, Paired ClsV vs us ∧ PySem.W.kitAny K t us = some (kits2 t vs)
  | [], _ => ⟨[], .nil, kitAny_nil⟩
  | v :: r, ha => by
    cases v <;> first
      | exact ha.elim
      | (rename_i D
         obtain ⟨us, p, q⟩ := kits2_any k ha.2
         refine ⟨_, .cons (.own D) p, kitAny_cons (k D ha.1) (fun hb => ?_) (fun hb => ?_)⟩
         · rw [q, kits2, hb]; rfl
         · rw [kits2, hb]; rfl)
def fIsiP (cs ds : List Addr) : List V → Hp → VK → Prop := fun xs H Q => match xs with
  | [x, .ref p] => match H p with
    | some (.tup vs) => ∃ t, tyV2 H x = some t ∧ okT cs t ∧ allIn ds vs ∧ Q (.bl (kits2 t vs)) H
    | _ => False
  | _ => False
theorem call_fIsiP {X : Cx} {cs ds : List Addr} (k : Kit X.K cs ds) : CallR X (.builtin "isinstance") (fIsiP cs ds) := by
  intro pins s σ H xs us Q I r h
  match xs, r, h with
  | [x, .ref p], r, h =>
    dsimp only [fIsiP] at h
    split at h
    · obtain ⟨t, h1, h2, h3, h4⟩ := h
      obtain ⟨g1, g2⟩ := ty2_kit k h1 h2
      obtain ⟨ws, g3, g4⟩ := kits2_any g2 h3
      exact call_isiT pins s σ H _ us Q I r ⟨x, p, _, _, ws, _, rfl, by assumption, g3, g1, g4, h4⟩
    · exact h.elim
/-- isinstance(x, T), T a built-in class, x an instance too -/
def fIsiA (cs : List Addr) : List V → Hp → VK → Prop := fun xs H Q => match xs with
  | [x, .ty n] => ∃ t, tyV2 H x = some t ∧ match t with
    | .ref C => C ∈ cs ∧ n ∈ ["bool", "int", "str", "list", "tuple", "dict"] ∧ Q (.bl false) H
    | .type s => ∃ b, kitB s n = some b ∧ Q (.bl b) H
    | _ => False
  | _ => False
theorem call_fIsiA {X : Cx} {cs ds : List Addr} (k : Kit X.K cs ds) : CallR X (.builtin "isinstance") (fIsiA cs) := by
  intro pins s σ H xs us Q I r h
  match xs, r, h with
  | [x, .ty n], r, h =>
    obtain ⟨t, h1, h2⟩ := h
    match t, h1, h2 with
    | .ref C, h1, h2 =>
      obtain ⟨g1, _⟩ := ty2_kit k h1 (show okT cs (.ref C) from h2.1)
      exact call_isi pins s σ H _ us Q I r ⟨x, .ty n, _, _, _, rfl, .ty n, g1, k.ob C h2.1 n h2.2.1, h2.2.2⟩
    | .type s', h1, h2 =>
      obtain ⟨b, h3, h4⟩ := h2
      obtain ⟨g1, _⟩ := ty2_kit k h1 (show okT cs (.type s') from trivial)
      exact call_isi pins s σ H _ us Q I r ⟨x, .ty n, _, _, _, rfl, .ty n, g1, kit_ty h3, h4⟩
/-- x is True, x is False; x is not .. -/
def fIsB (neg : Bool) : R2 := fun x y H Q => match y with
  | .bl b => (match x with | .non => Q (.bl neg) H | .bl c => Q (.bl (if neg = true then !decide (c = b) else decide (c = b))) H | .int _ => Q (.bl neg) H | .str _ => Q (.bl neg) H | .ref _ => Q (.bl neg) H | _ => False)
  | _ => False
theorem same_bool {M : Model} {A : Around} {E : Value → Shared → Prop} {s : Shared} {x : V} {u : Value} {b : Bool} {R : Bool → Shared → Prop} (r : RelV x u)
    (h : match x with | .non => R false s | .bl c => R (decide (c = b)) s | .int _ => R false s | .str _ => R false s | .ref _ => R false s | _ => False) : wpAny M A (isSame u (.bool b)) R E s := by
  cases x <;> first
    | exact h.elim
    | (cases r
       refine wpAny_isSame_plain rfl ?_
       exact h)
    | (obtain ⟨t, rfl⟩ := r
       refine wpAny_isSame_plain rfl ?_
       exact h)
    | (cases r
       rename_i c
       refine wpAny_isSame_plain rfl ?_
       have e : (Value.bool c == Value.bool b) = decide (c = b) := by cases c <;> cases b <;> rfl
       rw [e]
       exact h)
theorem op_fIsB {X : Cx} : OpR X (compareOp .Is) (fIsB false) := by
  intro pins s σ H x y v u Q I rx ry h
  cases y <;> first
    | exact False.elim h
    | (cases ry
       show wpAny _ _ ((isSame v (Value.bool _)) >>= fun z => pure (Value.bool z)) _ _ s
       refine wpAny_bind (same_bool rx ?_)
       cases x <;> first
         | exact False.elim h
         | exact wpAny_pure (fin_bl I h rfl))
theorem op_fNotB {X : Cx} : OpR X (compareOp .IsNot) (fIsB true) := by
  intro pins s σ H x y v u Q I rx ry h
  cases y <;> first
    | exact False.elim h
    | (cases ry
       show wpAny _ _ ((isSame v (Value.bool _)) >>= fun z => pure (Value.bool (!z))) _ _ s
       refine wpAny_bind (same_bool rx ?_)
       cases x <;> first
         | exact False.elim h
         | exact wpAny_pure (fin_bl I h rfl))
/-- one of two ways -/
def fOr (r1 r2 : R2) : R2 := fun x y H Q => r1 x y H Q ∨ r2 x y H Q
theorem op_fOr {X : Cx} {f : Value → Value → Sem Value} {r1 r2 : R2} (h1 : OpR X f r1) (h2 : OpR X f r2) : OpR X f (fOr r1 r2) := fun pins s σ H x y v u Q I rx ry q => q.elim (h1 pins s σ H x y v u Q I rx ry) (h2 pins s σ H x y v u Q I rx ry)
theorem all_nil {α : Type} {P : α → Prop} : ∀ x ∈ ([] : List α), P x := fun _ h => by cases h
theorem all_cons {α : Type} {P : α → Prop} {a : α} {l : List α} (h : P a) (t : ∀ x ∈ l, P x) : ∀ x ∈ a :: l, P x := fun x m => by
  rcases List.mem_cons.mp m with rfl | m
  · exact h
  · exact t x m
/-! ### == by an own __eq__ -/
def fEqO (C : Addr) (sp : Sp) (E : XK) : R2 := fun x y H Q => match x, y with
  | .ref a, .ref b => (match H a with | some (.ins D _ _) => D = C | _ => False) ∧ (match H b with | some (.ins D _ _) => D = C | _ => False) ∧ sp [x, y] H (fun v H' => match v with | .bl _ => Q v H' | _ => False) E
  | _, _ => False
theorem op_fEqO {X : Cx} {CX : CXT} {C : Addr} {n : Nat} {ps : List Str} {sp : Sp} {E : XK} (h : HasM X.prog X.w X.K X.mg X.base CX C "__eq__" n ps sp) (hr : Room n X.A) (hx : Passes CX X E) : OpR X (compareOp .Eq) (fEqO C sp E) := by
  intro pins s σ H x y v u Q I rx ry q
  obtain ⟨f, fd, F, B, M⟩ := h.ex
  cases x <;> cases y <;> first
    | exact False.elim q
    | skip
  rename_i a b
  dsimp only [fEqO] at q
  obtain ⟨qa, qb, q⟩ := q
  split at qa
  · rename_i D1 dx1 fs1 ea
    split at qb
    · rename_i D2 dx2 fs2 eb
      subst qa
      subst qb
      cases rx
      cases ry
      obtain ⟨mA, J, _⟩ := ins_get I.hok ea
      obtain ⟨mB, J', _⟩ := ins_get I.hok eb
      obtain ⟨od, J, _⟩ := J.look
      obtain ⟨od', J', _⟩ := J'.look
      obtain ⟨m, hF⟩ := I.fr
      show wpAny (model X.prog X.w) X.A (richCompare .Eq (.ref a) (.ref b)) (EP X pins σ Q) X.xe s
      refine PySem.W.cmp_K (op := .Eq) (tb := .ref D2) hr.units0 hF I.ok.mod.kin J J'.type (by simp [PySem.W.notFirst]) M.at_ M.fn ?_
      refine wpAny_mono (run_fn (vs := [.ref a, .ref b]) F hr B .nil hx I (.cons rfl (.cons rfl .nil)) q) (fun w s' z => ?_) fun _ _ x => x
      obtain ⟨y, H', I', r, z⟩ := z
      cases y <;> first
        | exact z.elim
        | (cases r; exact ⟨.bl _, H', I', rfl, z⟩)
    · exact qb.elim
  · exact qa.elim
/-! ### what the top has written of a class -/
structure ClsFact (K : PySem.W.Frag) (C : Addr) : Prop where
  pg : PySem.W.plainGet K C Str.empty = true
  hd : PySem.W.hasDictIn K C = true
  po : PySem.W.plainOver K C = true
  sa : PySem.W.findIn K (.ref C) "__setattr__" = some (some (.builtin "object.__setattr__"))
  ci : PySem.W.findIn K (.ref C) "__class__" = some (some (.builtin "object.__class__"))
  mr : PySem.W.mroIn K C (.type "object") = some true
  mks : PySem.W.makesIn K C = true
  kp : PySem.W.keepIn K (.ref C) = true
theorem ClsFact.cls {K : PySem.W.Frag} {C : Addr} (x : ClsFact K C) : Cls K C := ⟨x.pg, x.hd, x.po, x.sa⟩
/-- what every class has of object -/
structure ObjFact (K : PySem.W.Frag) : Prop where
  gd : PySem.W.specialIn K (.builtin "object.__class__") "__get__" = some (some (.builtin "getset_descriptor.__get__"))
  tk : PySem.W.takesIn K (.builtin "object.__class__") = some true
theorem ClsFact.ocls {K : PySem.W.Frag} {C : Addr} (x : ClsFact K C) (o : ObjFact K) : OCls K C := ⟨x.cls, x.ci, o.gd, o.tk, x.mr⟩
/-! ### comprehensions -/
def Lc (J : It) (g : TG) (tt : TT) (te : TE) (vs : List Nat) (σ : L2.St) (H1 : Hp) (D : Addr) (Q : VK) : Prop := ∃ W : Nat → Nat → Hp → Prop, (∃ m, W 0 m (upd H1 D (.lst []))) ∧ ∀ i m H, W i m H →
  (J.stop i H ∧ Q (.ref D) H) ∨ (J.go i H ∧ ∃ Nx : Hp → Prop, (∀ H', Nx H' → ∃ m', m' < m ∧ W (i + 1) m' H') ∧ ∀ x H', J.yld i H x H' → g x (wipe σ vs) H' fun σ2 H2 => wipe σ2 vs = wipe σ vs ∧ tt σ2 H2 fun b H3 =>
    if b = true then te σ2 H3 fun y H4 => ∃ acc, H4 D = some (.lst acc) ∧ acc.length < sizeLine ∧ Nx (upd H4 D (.lst (acc ++ [y]))) else Nx H3)
theorem lc_ {wi : TI} {g : TG} {tt : TT} {te : TE} {vs : List Nat} {σ : L2.St} {H : Hp} {Q : VK} (h : wi σ H fun J H1 => ∀ D, H1 D = none → Lc J g tt te vs σ H1 D Q) : tLc wi g tt te vs σ H Q := h
theorem lcx_range {lo : Int} {n : Nat} {g : TG} {tt : TT} {te : TE} {vs : List Nat} {σ : L2.St} {H1 : Hp} {D : Addr} {Q : VK} (Pv : Nat → Hp → Prop) (h0 : Pv 0 (upd H1 D (.lst [])))
    (hs : ∀ i H, i < n → Pv i H → g (.int (lo + i)) (wipe σ vs) H fun σ2 H2 => wipe σ2 vs = wipe σ vs ∧ tt σ2 H2 fun b H3 =>
      if b = true then te σ2 H3 fun y H4 => ∃ acc, H4 D = some (.lst acc) ∧ acc.length < sizeLine ∧ Pv (i + 1) (upd H4 D (.lst (acc ++ [y]))) else Pv (i + 1) H3) (hd : ∀ H, Pv n H → Q (.ref D) H) : Lc (Itr lo n) g tt te vs σ H1 D Q :=
  lc_it walk_range Pv h0 (fun _ _ _ _ => trivial) (fun i x H H' hi p y => by
    obtain ⟨rfl, rfl⟩ := y
    exact hs i _ hi p) hd
theorem lcx_list {K : PySem.W.Frag} {a : Addr} {xs : List V} {g : TG} {tt : TT} {te : TE} {vs : List Nat} {σ : L2.St} {H1 : Hp} {D : Addr} {Q : VK} (Pv : Nat → Hp → Prop) (h0 : Pv 0 (upd H1 D (.lst []))) (hl : ∀ i H, i ≤ xs.length → Pv i H → SqL K H a xs)
    (hs : ∀ i x H, xs[i]? = some x → Pv i H → g x (wipe σ vs) H fun σ2 H2 => wipe σ2 vs = wipe σ vs ∧ tt σ2 H2 fun b H3 =>
      if b = true then te σ2 H3 fun y H4 => ∃ acc, H4 D = some (.lst acc) ∧ acc.length < sizeLine ∧ Pv (i + 1) (upd H4 D (.lst (acc ++ [y]))) else Pv (i + 1) H3) (hd : ∀ H, Pv xs.length H → Q (.ref D) H) : Lc (Itl K a) g tt te vs σ H1 D Q :=
  lc_it walk_list Pv h0 hl (fun i x H H' hi p y => by
    obtain ⟨rfl, e⟩ := y
    exact hs i x _ e p) hd
end Fx

set_option Elab.async false
set_option linter.all false
set_option maxRecDepth 100000
/-! Ex: exceptions of the program's own classes, over Ox. -/
namespace Fx
open PySem PySem.Spec PyProof.Rows L2
/-! ### defs that may raise -/
/-- what leaves a def, as its promise says -/
abbrev wOf (E : XK) : WX := fun cls d _ H => E cls d H
section
variable {P : Program} {w : World} {K : PySem.W.Frag} {mg : Str → Option Value} {base : Heap}
theorem tk_of {N : List Str} {qual : Str} {sc : Scope} {f : Addr} {cd : Value} {A : Around} {outer : List Env} {s : Shared} {H : Hp} {E : XK} : Takes (cxOf (L2.CX P w) P w K mg base N qual sc f cd A outer s H E) (wOf E) := takes_of rfl rfl rfl rfl
theorem hasX_of {x qual : Str} {st : Stmt} {N ps : List Str} {k : Nat} {sp : Sp} (A : At K mg x qual st ps) (S : FnScope N ps (defScope st)) (len : ∀ vs H Q E, sp vs H Q E → vs.length = ps.length)
    (hbody : ∀ (cdv : Value) (f : Addr) (A : Around) (outer : List Env) (s : Shared) (H : Hp) (vs : List V) (Q : VK) (E : XK), Room k (A.deeper (envOfC qual (defScope st) s.heap.objs.size f cdv)) → sp vs H Q E →
      ∃ t, PSs (cxOf (L2.CX P w) P w K mg base N qual (defScope st) f cdv A outer s H E) (defBody st) t ∧ t { nx := fun _ H' => Q .non H', rt := Q } (start N vs) H) : Has P w K mg base (L2.CX P w) x (k + 1) ps sp := by
  obtain ⟨f, fd, F, B, G⟩ := A.ex
  exact ⟨f, fd, F.okX S len fun cdv A outer s H vs Q E hr h => hbody cdv f A outer s H vs Q E hr h, B, G, F.kp⟩
theorem hasMX_of {C : Addr} {x qual : Str} {st : Stmt} {N ps : List Str} {k : Nat} {sp : Sp} (A : AtM K C x qual st ps) (S : FnScope N ps (defScope st)) (len : ∀ vs H Q E, sp vs H Q E → vs.length = ps.length)
    (hbody : ∀ (cdv : Value) (f : Addr) (A : Around) (outer : List Env) (s : Shared) (H : Hp) (vs : List V) (Q : VK) (E : XK), Room k (A.deeper (envOfC qual (defScope st) s.heap.objs.size f cdv)) → sp vs H Q E →
      ∃ t, PSs (cxOf (L2.CX P w) P w K mg base N qual (defScope st) f cdv A outer s H E) (defBody st) t ∧ t { nx := fun _ H' => Q .non H', rt := Q } (start N vs) H) : HasM P w K mg base (L2.CX P w) C x (k + 1) ps sp := by
  obtain ⟨f, fd, F, B, G⟩ := A.ex
  exact ⟨f, fd, F.okX S len fun cdv A outer s H vs Q E hr h => hbody cdv f A outer s H vs Q E hr h, B, G⟩
end
section
variable {X : Cx} {CX : CXT} {k : Nat} {C : Addr} {x m : Str} {p pos apos : Pos} {o e : Expr} {es : List Expr} {t : TA} {ta : TE} {ps : List Str} {sp : Sp} {W : WX}
theorem fe_callX (h : Has X.prog X.w X.K X.mg X.base (L2.CX X.prog X.w) x k ps sp) (hr : Room k X.A) (hg : Gl X x) (tk : Takes X W) (ha : PA X (e :: es) t) (hd : (x == ("__debug__" : Str)) = false := by decide)
    (hs : starEach (e :: es) X.env = (false, eval e X.env) :: starEach es X.env := by rfl) (hplain : (backTo pos (starEach es X.env)).any (·.1) = false := by rfl) : PE X (.Call (.Name x p) (e :: es) [] pos) (tCallS sp (WE W) t) := by
  obtain ⟨f, fd, F, B, G, kp⟩ := h.ex
  exact pe_callS F hr hg G kp B (fun σ => passAt tk σ) ha hd hs hplain
theorem fe_callX0 (h : Has X.prog X.w X.K X.mg X.base (L2.CX X.prog X.w) x k ps sp) (hr : Room k X.A) (hg : Gl X x) (tk : Takes X W) (hd : (x == ("__debug__" : Str)) = false := by decide) : PE X (.Call (.Name x p) [] [] pos) (tCallS sp (WE W) tNil) := by
  obtain ⟨f, fd, F, B, G, kp⟩ := h.ex
  refine ⟨fun pins s σ H Q I h => ?_⟩
  refine wpAny_Call_Name_kw (ld_glob I hg G ?_ hd)
  exact PySem.W.callWith_K0 I.kIn kp (run_fnS (us := []) F hr B (passAt tk σ) I .nil h)
theorem isOb_some {a : Addr} {H : Hp} (h : isOb C m (.ref a) H) : ∃ dx fs, H a = some (.ins C dx fs) ∧ fs.lookup m = none := by
  unfold isOb at h
  dsimp only at h
  split at h
  · obtain ⟨rfl, l⟩ := h
    exact ⟨_, _, by assumption, l⟩
  · exact h.elim
def fMethS (C : Addr) (m : Str) (sp : Sp) (E : L2.St → XK) (ta : TE) (t : TA) : TE := fun σ H Q => ta σ H fun x H1 => isOb C m x H1 ∧ t σ H1 fun vs H2 => sp (x :: vs) H2 Q (E σ)
theorem fe_methX {pl : Sem Bool} (h : HasM X.prog X.w X.K X.mg X.base (L2.CX X.prog X.w) C m k ps sp) (c : Cls X.K C) (hr : Room k X.A) (tk : Takes X W) (he : PE X o ta) (ha : PA X (e :: es) t)
    (hst : starEach (e :: es) X.env = (false, eval e X.env) :: starEach es X.env := by rfl) (hpl : (backTo pos (starEach es X.env)).any (·.1) = false := by rfl)
    (ht : eval (.Call (.Attribute o m apos) (e :: es) [] pos) X.env = (do
      let ov ← eval o X.env
      standAt apos.atName
      let (f, first) ← holding [ov] (getMethod ov m pl)
      callWith pos f first (backTo pos (starEach (e :: es) X.env)) (backToKw pos (keywordEach [] X.env))) := by rfl) :
    PE X (.Call (.Attribute o m apos) (e :: es) [] pos) (fMethS C m sp (WE W) ta t) := by
  obtain ⟨f, fd, F, B, M⟩ := h.ex
  refine ⟨fun pins s σ H Q I h => ?_⟩
  refine PySem.W.methodCall_KW (pl := pl) (thn (he.run pins s σ H _ I h) fun u s1 ⟨x, H1, I1, rx, q1, q2⟩ => ?_) ht
  match x, q1, rx, q2 with
  | .ref a, q1, rx, q2 =>
    obtain ⟨dx, fs, ea, l⟩ := isOb_some q1
    · obtain rfl : u = Value.ref a := rx
      refine getmeth_ok I1 ea c M l ?_
      refine PySem.W.callWith_K (first := [.ref a]) (h₀ := X.base) I.ok.mod.kin M.kp (thn (ha.run pos pins s1 σ H1 _ I1 q2) fun us s2 ⟨vs, H2, I2, r, q3⟩ => ⟨I2.kIn, ?_⟩) hst hpl
      exact run_fnS (us := .ref a :: us) (vs := .ref a :: vs) F hr B (passAt tk σ) I2 (.cons rfl r) q3
theorem fe_methX0 {pl : Sem Bool} (h : HasM X.prog X.w X.K X.mg X.base (L2.CX X.prog X.w) C m k ps sp) (c : Cls X.K C) (hr : Room k X.A) (tk : Takes X W) (he : PE X o ta)
    (ht : eval (.Call (.Attribute o m apos) [] [] pos) X.env = (do
      let ov ← eval o X.env
      standAt apos.atName
      let (f, first) ← holding [ov] (getMethod ov m pl)
      callWith pos f first (backTo pos (starEach [] X.env)) (backToKw pos (keywordEach [] X.env))) := by rfl) :
    PE X (.Call (.Attribute o m apos) [] [] pos) (fMethS C m sp (WE W) ta tNil) := by
  obtain ⟨f, fd, F, B, M⟩ := h.ex
  refine ⟨fun pins s σ H Q I h => ?_⟩
  refine PySem.W.methodCall_KW (pl := pl) (thn (he.run pins s σ H _ I h) fun u s1 ⟨x, H1, I1, rx, q1, q2⟩ => ?_) ht
  match x, q1, rx, q2 with
  | .ref a, q1, rx, q2 =>
    obtain ⟨dx, fs, ea, l⟩ := isOb_some q1
    · obtain rfl : u = Value.ref a := rx
      refine getmeth_ok I1 ea c M l ?_
      exact PySem.W.callWith_K0 (first := [.ref a]) I1.kIn M.kp (run_fnS (us := [.ref a]) (vs := [.ref a]) F hr B (passAt tk σ) I1 (.cons rfl .nil) q2)
end
/-! ### exception classes -/
structure ExcFact (K : PySem.W.Frag) (C : Addr) : Prop where
  cls : ∃ nm q N bs bm sn sub ab col dd k0 k1 k2 k3 k5, K.lookup C = some (excClassObj nm q C N bs bm true sn sub ab col dd k0 k1 k2 k3 k5 "ValueError.__new__") ∧ PySem.HandSPX.refsVE bm = true
  sa : PySem.W.findIn K (.ref C) "__setattr__" = some (some (.builtin "object.__setattr__"))
  ga : PySem.W.findIn K (.ref C) "__getattribute__" = some (some (.builtin "BaseException.__getattribute__"))
  gg : PySem.W.findIn K (.ref C) "__getattr__" = some none
  exC : PySem.W.subIn K (.ref C) (.type "BaseException") = some true
  tyC : PySem.W.typeIn K (.ref C) = some (.type "type")
  kC : PySem.W.keepIn K (.ref C) = true
  hdC : PySem.W.hasDictIn K C = true
  ci : PySem.W.findIn K (.ref C) "__class__" = some (some (.builtin "object.__class__"))
  mr : PySem.W.mroIn K C (.type "object") = some true
theorem ExcFact.of {K : PySem.W.Frag} {C : Addr} {nm q N bs bm sn sub ab col dd k0 k1 k2 k3 k5} (l : K.lookup C = some (excClassObj nm q C N bs bm true sn sub ab col dd k0 k1 k2 k3 k5 "ValueError.__new__")) (r : PySem.HandSPX.refsVE bm = true)
    (sa : PySem.W.findIn K (.ref C) "__setattr__" = some (some (.builtin "object.__setattr__"))) (ga : PySem.W.findIn K (.ref C) "__getattribute__" = some (some (.builtin "BaseException.__getattribute__"))) (gg : PySem.W.findIn K (.ref C) "__getattr__" = some none)
    (exC : PySem.W.subIn K (.ref C) (.type "BaseException") = some true) (tyC : PySem.W.typeIn K (.ref C) = some (.type "type")) (kC : PySem.W.keepIn K (.ref C) = true) (hdC : PySem.W.hasDictIn K C = true)
    (ci : PySem.W.findIn K (.ref C) "__class__" = some (some (.builtin "object.__class__"))) (mr : PySem.W.mroIn K C (.type "object") = some true) : ExcFact K C :=
  ⟨⟨nm, q, N, bs, bm, sn, sub, ab, col, dd, k0, k1, k2, k3, k5, l, r⟩, sa, ga, gg, exC, tyC, kC, hdC, ci, mr⟩
theorem ExcFact.oex {K : PySem.W.Frag} {C : Addr} (F : ExcFact K C) : OexC K C := ⟨F.cls, F.sa, F.exC, F.tyC, F.kC⟩
theorem ExcFact.xf {K : PySem.W.Frag} {C : Addr} (F : ExcFact K C) : XfC K C := ⟨F.ga, F.gg, F.exC, F.hdC⟩
/-- __init__ of an exception class as it stands -/
structure AtE (K : PySem.W.Frag) (C : Addr) (qual : Str) (st : Stmt) (ps : List Str) : Prop where
  ex : ∃ (f : Addr) (fd : FuncData), Fun K "__init__" qual st f fd ∧ Binds K fd ps [] ∧ PySem.W.findIn K (.ref C) "__init__" = some (some (.ref f)) ∧ PySem.W.typeIn K (.ref f) = some (.type "function")
structure EFact (K : PySem.W.Frag) (C : Addr) (qual : Str) (st : Stmt) : Prop where
  ex : ∃ (f : Addr) (oc : Value) (od an : Option Addr) (sl : Array (Option Value)) (kV dc pm cd ct : Value),
    PySem.W.findIn K (.ref C) "__init__" = some (some (.ref f)) ∧ K.lookup f = some ⟨oc, od, .func (PySem.W.fnOf "__init__" qual (defArgs st) (defBody st) (defScope st) .none kV dc pm an cd ct), sl⟩ ∧
    PySem.W.codeIn K cd qual = true ∧ PySem.W.keepIn K (.ref f) = true ∧ PySem.W.typeIn K (.ref f) = some (.type "function")
theorem EFact.of {K : PySem.W.Frag} {C : Addr} {qual : Str} {st : Stmt} {f : Addr} {oc : Value} {od an : Option Addr} {sl : Array (Option Value)} {kV dc pm cd ct : Value}
    (a : PySem.W.findIn K (.ref C) "__init__" = some (some (.ref f))) (l : K.lookup f = some ⟨oc, od, .func (PySem.W.fnOf "__init__" qual (defArgs st) (defBody st) (defScope st) .none kV dc pm an cd ct), sl⟩)
    (c : PySem.W.codeIn K cd qual = true) (k : PySem.W.keepIn K (.ref f) = true) (i : PySem.W.typeIn K (.ref f) = some (.type "function")) : EFact K C qual st := ⟨f, oc, od, an, sl, kV, dc, pm, cd, ct, a, l, c, k, i⟩
theorem AtE.of {K : PySem.W.Frag} {C : Addr} {qual : Str} {st : Stmt} {ps : List Str} (F : EFact K C qual st)
    (hb : ∀ (kV doc pm : Value) (an : Option Addr) (cdv ct : Value) (us : List Value), us.length = ps.length → bindArgs (PySem.W.fnOf "__init__" qual (defArgs st) (defBody st) (defScope st) .none kV doc pm an cdv ct) ⟨us, []⟩ = pure (ps.zip us)) : AtE K C qual st ps := by
  obtain ⟨f, oc, od, an, sl, kV, dc, pm, cd, ct, a, l, c, k, i⟩ := F.ex
  have F1 := fun_mk (st := st) l c k
  exact ⟨_, _, F1, F1.binds hb, a, i⟩
/-- what __init__ keeps: two fields -/
def spInitE (C : Addr) (n : Nat) (flds : List V → List (Str × V)) : Sp := fun ws H0 Q _ => ∃ a vs H1, ws = .ref a :: vs ∧ vs.length = n ∧ H1 a = none ∧ H0 = upd H1 a (exo a C none) ∧
  ∀ d H2, H1 d = none → d ≠ a → (∀ b o, H1 b = some o → H2 b = some o) → H2 a = some (exo a C (some d)) → H2 d = some (exd d (flds vs)) → Q .non H2
/-- an exception class whose __init__ keeps its fields -/
structure HasE (P : Program) (w : World) (K : PySem.W.Frag) (mg : Str → Option Value) (base : Heap) (C : Addr) (x : Str) (n : Nat) (flds : List V → List (Str × V)) : Prop where
  ex : ∃ (f : Addr) (fd : FuncData) (ps : List Str), FnOk P w K mg base CX0 1 f fd ps (spInitE C n flds) ∧ Binds K fd ps [] ∧ PySem.W.findIn K (.ref C) "__init__" = some (some (.ref f)) ∧ PySem.W.typeIn K (.ref f) = some (.type "function") ∧ mg x = some (.ref C) ∧ OexC K C
def two (f1 f2 : Str) : List V → List (Str × V)
  | [a, b] => [(f2, b), (f1, a)]
  | _ => []
theorem hasE2 {P : Program} {w : World} {K : PySem.W.Frag} {mg : Str → Option Value} {base : Heap} {C : Addr} {x qual f1 f2 : Str} {st : Stmt} {q1 q2 q3 q4 r1 r2 r3 r4 : Pos} (A : AtE K C qual st ["self", f1, f2]) (S : FnScope ["self", f1, f2] ["self", f1, f2] (defScope st))
    (hb : defBody st = [.Assign [.Attribute (.Name "self" q1) f1 q2] (.Name f1 q3) q4, .Assign [.Attribute (.Name "self" r1) f2 r2] (.Name f2 r3) r4])
    (F : ExcFact K C) (n1 : PySem.W.findIn K (.ref C) f1 = some none) (n2 : PySem.W.findIn K (.ref C) f2 = some none) (g : mg x = some (.ref C)) (d1 : (f1 == ("__debug__" : Str)) = false) (d2 : (f2 == ("__debug__" : Str)) = false)
    (c1 : (f1 == ("__classdict__" : Str)) = false) (c2 : (f2 == ("__classdict__" : Str)) = false) : HasE P w K mg base C x 2 (two f1 f2) := by
  obtain ⟨f, fd, Fn, B, I, Ty⟩ := A.ex
  refine ⟨f, fd, _, ?_, B, I, Ty, g, F.oex⟩
  refine Fn.ok S (fun ws H Q E h => ?_) (fun cdv A outer s H ws Q E hr h => ?_)
  · obtain ⟨a, vs, H1, rfl, hl, _⟩ := h
    show vs.length + 1 = 3
    rw [hl]
  · obtain ⟨a, vs, H1, rfl, hl, na, rfl, k⟩ := h
    match vs, hl, k with
    | [v1, v2], hl, k =>
      have v0 : Vis (defScope st) "self" := (S.par "self" (List.Mem.head _)).elim (fun z => .inl z) (fun z => .inr (.inl z))
      have vis1 : Vis (defScope st) f1 := (S.par f1 (List.Mem.tail _ (List.Mem.head _))).elim (fun z => .inl z) (fun z => .inr (.inl z))
      have vis2 : Vis (defScope st) f2 := (S.par f2 (List.Mem.tail _ (List.Mem.tail _ (List.Mem.head _)))).elim (fun z => .inl z) (fun z => .inr (.inl z))
      rw [hb]
      refine ⟨_, pss_cons (ps_ost (fe_var 0 rfl v0) (fe_var 1 rfl vis1 d1 c1)) (pss_one (ps_ost (fe_var 0 rfl v0) (fe_var 2 rfl vis2 d2 c2))), ?_⟩
      refine ⟨a, C, rfl, F.oex, n1, .inl ⟨upd_same, fun dx ndx nea => ?_⟩⟩
      have hdx : H1 dx = none := by rw [upd_ne nea] at ndx; exact ndx
      refine ⟨a, C, rfl, F.oex, n2, .inr ⟨dx, [(f1, v1)], upd_same, (upd_ne nea).trans upd_same, (show 1 ≤ 900 by decide), ?_⟩⟩
      refine k dx _ hdx nea (fun b o e => ?_) ?_ upd_same
      · rw [upd_ne (ne_of_none e hdx), upd_ne (ne_of_none e na), upd_ne (ne_of_none e hdx), upd_ne (ne_of_none e na)]
        exact e
      · rw [upd_ne (Ne.symm nea)]
        exact upd_same
/-- C(e, ..) -/
def fMkE (C : Addr) (n : Nat) (flds : List V → List (Str × V)) (ta : TA) : L2.St → Hp → XK → Prop := fun σ H Q => ta σ H fun vs H1 => vs.length = n ∧ ∀ d H2, H1 d = none → Same H1 H2 → H2 d = some (.xd (flds vs)) → Q (.ref C) (some d) H2
section
variable {X : Cx} {C : Addr} {x : Str} {n : Nat} {flds : List V → List (Str × V)} {p pos : Pos} {e : Expr} {es : List Expr} {ta : TA}
def closAX (t : TA) : TA := closA t
theorem fmk_e (h : HasE X.prog X.w X.K X.mg X.base C x n flds) (hn : n ≤ 1000) (hr : Room 2 X.A) (hg : Gl X x) (ha : PA X (e :: es) ta) (hdb : (x == ("__debug__" : Str)) = false := by decide)
    (he : starEach (e :: es) X.env = (false, eval e X.env) :: starEach es X.env := by rfl) (hpl : (backTo pos (starEach es X.env)).any (·.1) = false := by rfl) : PMk X (.Call (.Name x p) (e :: es) [] pos) (fMkE C n flds ta) := by
  obtain ⟨f, fd, ps, F, B, I, Ty, g, O⟩ := h.ex
  intro pins s σ H Q Iv q
  refine pmk_oex O I Ty F hr B .nil (fun _ _ _ _ _ _ _ h => h.elim) hg g (pa_clos ha) hdb he hpl pins s σ H Q Iv ⟨_, q, fun vs H1 q => ?_⟩
  obtain ⟨hl, q⟩ := q
  refine ⟨by omega, fun a na => ⟨a, vs, H1, by rw [List.append_nil], hl, na, rfl, fun d H2 nd ne keep ea ed => ⟨rfl, d, flds vs, ea, ed, nd, q d _ nd (fun b o eb => ?_) upd_same⟩⟩⟩
  rw [upd_ne (ne_of_none eb nd), del_ne (ne_of_none eb na)]
  exact keep b o eb
/-- raise C(e, ..) -/
def fRaise (C : Addr) (n : Nat) (flds : List V → List (Str × V)) (W : WX) (ta : TA) : TS := fun _ σ H => ta σ H fun vs H1 => vs.length = n ∧ ∀ d H2, H1 d = none → Same H1 H2 → H2 d = some (.xd (flds vs)) → W (.ref C) (some d) σ H2
theorem fs_raise {W : WX} {pos2 : Pos} (hc : X.calm = true) (tk : Takes X W) (h : HasE X.prog X.w X.K X.mg X.base C x n flds) (hn : n ≤ 1000) (hr : Room 2 X.A) (hg : Gl X x) (ha : PA X (e :: es) ta) (hdb : (x == ("__debug__" : Str)) = false := by decide)
    (he : starEach (e :: es) X.env = (false, eval e X.env) :: starEach es X.env := by rfl) (hpl : (backTo pos (starEach es X.env)).any (·.1) = false := by rfl) : PS X (.Raise (some (.Call (.Name x p) (e :: es) [] pos)) none pos2) (fRaise C n flds W ta) :=
  ps_raise hc tk (fmk_e h hn hr hg ha hdb he hpl)
end
/-- the way out of a def: an exception of class C with two fields -/
def Out (C : Addr) (H : Hp) (fs : List (Str × V)) (E : XK) : Prop := ∀ d H2, H d = none → Same H H2 → H2 d = some (.xd fs) → E (.ref C) (some d) H2
theorem Out.same {C : Addr} {H H1 : Hp} {fs : List (Str × V)} {E : XK} (h : Out C H fs E) (s : Same H H1) : Out C H1 fs E := fun d H2 nd s2 e => h d H2 (by
  cases q : H d with
  | none => rfl
  | some o => rw [s _ _ q] at nd; cases nd) (s.trans s2) e
/-! ### the suite -/
/-- e.f, e the caught one -/
def fXf (a : Addr) (cls : Value) (d : Option Addr) (cs : List Addr) (f : Str) (te : TE) : TE := fun σ H Q => te σ H fun x H1 => x = .ref a ∧ match cls, d with
  | .ref C, some dd => C ∈ cs ∧ match H1 dd with
    | some (.xd fs) => match fs.lookup f with
      | some v => Q v H1
      | none => False
    | _ => False
  | _, _ => False
def XPlain (K : PySem.W.Frag) (cs : List Addr) (f : Str) : Prop := ∀ C ∈ cs, XfC K C ∧ PySem.W.findIn K (.ref C) f = some none
theorem fe_xf {X : Cx} {a : Addr} {cs : List Addr} {oe : Obj} {cls : Value} {d : Option Addr} {pn : List (Addr × Obj)} {e : Expr} {te : TE} {pos : Pos} {n : Str} (T : XPlain X.K cs n)
    (hz : Zc cls d oe) (hf : ∃ vs, oe.data = .fields vs) (he : PE (X.suite a ((a, oe) :: pn)) e te) (hb : attributeBase e n X.env (eval e X.env) = eval e X.env) :
    PE (X.suite a ((a, oe) :: pn)) (.Attribute e n pos) (fXf a cls d cs n te) := by
  refine ⟨fun pins s σ H Q I h => ?_⟩
  refine attr_of hb (thn (he.run pins s σ H _ I h) fun u s1 hh => ?_)
  obtain ⟨x, H1, I1, rx, ex, q⟩ := hh
  subst ex
  obtain rfl : u = Value.ref a := rx
  split at q
  · rename_i C dd
    obtain ⟨m, q⟩ := q
    split at q
    · rename_i fs ea
      split at q
      · rename_i v l
        obtain ⟨ha, _⟩ := I1.pin (a, oe) (List.mem_append_left _ List.mem_cons_self)
        obtain ⟨vs, hd⟩ := hf
        have hx : ObjOk X.prog X.w H1 s1.heap dd (.xd fs) := I1.hok dd _ ea
        obtain ⟨mA, hns, hr⟩ := hx
        obtain ⟨od, ho, hl⟩ := lookIn_ns hns
        obtain ⟨u, hu, ru⟩ := RelO.some_of (v := v) (o := mA n) (by rw [← l]; exact hr n)
        have J : PySem.W.InstAt s1.heap a oe C (some od) := ⟨ha, hz.1, by unfold PySem.W.notCls; rw [hd] <;> rfl, by rw [hz.2]; exact ho⟩
        exact HandSPX.exc_get I1.kIn J (T C m).1.ga (T C m).1.gg (T C m).1.exC (PySem.W.findObj_own (T C m).1.hdC (T C m).2 rfl (by rw [hl, hu])) (handed_of ru) ⟨v, H1, I1.tok _, ru, q⟩
      · exact q.elim
    · exact q.elim
  · exact q.elim
/-- isinstance(e, C), e the caught one -/
structure XKit (K : PySem.W.Frag) (cs ds : List Addr) : Prop where
  f : ∀ C ∈ cs, ExcFact K C
  ob : ObjFact K
  k : ∀ C ∈ cs, ∀ D ∈ ds, ∃ b, PySem.W.kitOne K (.ref C) (.ref D) = some b
def fIsE (K : PySem.W.Frag) (a : Addr) (cls : Value) (d : Option Addr) (cs : List Addr) : List V → Hp → VK → Prop := fun xs H Q => match xs with
  | [x, .ref D] => x = .ref a ∧ (match cls with | .ref C => C ∈ cs | _ => False) ∧ (match d with | none => True | some dd => match H dd with | some (.xd _) => True | _ => False) ∧ ∃ b, PySem.W.kitOne K cls (.ref D) = some b ∧ Q (.bl b) H
  | _ => False
theorem call_fIsE {X : Cx} {a : Addr} {cls : Value} {d : Option Addr} {cs : List Addr} {oe : Obj} {pn : List (Addr × Obj)} (F : ∀ C ∈ cs, ExcFact X.K C) (ob : ObjFact X.K) (hz : Zc cls d oe) (hf : ∃ vs, oe.data = .fields vs) :
    CallR (X.suite a ((a, oe) :: pn)) (.builtin "isinstance") (fIsE X.K a cls d cs) := by
  intro pins s σ H xs us Q I r h
  match xs, r, h with
  | [x, .ref D], r, h =>
    obtain ⟨rfl, hc, hd, b, e, q⟩ := h
    match cls, hc, hz, e with
    | .ref C, hc, hz, e =>
      cases r with
      | cons rx rr =>
        cases rr with
        | cons rt rr =>
          cases rr
          cases rx
          cases rt
          obtain ⟨hget, _⟩ := I.pin (a, oe) (List.mem_append.mpr (.inl List.mem_cons_self))
          obtain ⟨vs, hv⟩ := hf
          have FC := F C hc
          have hcl : (PySem.W.clsIn X.K C).isSome = true := by
            obtain ⟨cd, hcd, _⟩ := PySem.W.any_some FC.hdC
            rw [hcd]; rfl
          have hJ : ∃ od, PySem.W.InstAt s.heap a oe C od := by
            cases d with
            | none =>
              refine ⟨none, hget, hz.1, ?_, ?_⟩
              · unfold PySem.W.notCls; rw [hv] <;> rfl
              · rw [hz.2]; trivial
            | some dd =>
              dsimp only at hd
              split at hd
              · rename_i fs ea
                have hx : ObjOk X.prog X.w H s.heap dd (.xd fs) := I.hok dd _ ea
                obtain ⟨mA, hns, hr⟩ := hx
                obtain ⟨od, ho, hl⟩ := lookIn_ns hns
                exact ⟨some od, hget, hz.1, by unfold PySem.W.notCls; rw [hv] <;> rfl, by rw [hz.2]; exact ho⟩
              · exact hd.elim
          obtain ⟨od, J⟩ := hJ
          exact PySem.W.kia_one (PySem.W.kitx_exc hcl FC.ga FC.gg FC.exC FC.ci ob.gd ob.tk FC.mr) I.kIn J e (fun z => nomatch z) fun tk => ⟨.bl b, H, I.kept (t' := tk) fun _ _ z => z, rfl, q⟩
/-! ### parts that are never reached -/
section
variable {X : Cx}
def fDead : TE := fun _ _ _ => False
def sDead : TS := fun _ _ _ => False
theorem pe_dead {e : Expr} : PE X e fDead := ⟨fun _ _ _ _ _ _ h => h.elim⟩
theorem ps_dead {st : Stmt} : PS X st sDead := ⟨fun _ _ _ _ _ _ h => h.elim⟩
/-! ### truth by value -/
def fTru (K : PySem.W.Frag) (ta : TE) : TT := fun σ H Q => ta σ H fun x H1 => match x with
  | .non => Q false H1
  | .bl b => Q b H1
  | .int i => Q (!decide (i = 0)) H1
  | .str z => z.length ≤ sizeLine ∧ Q (!decide (z.length = 0)) H1
  | .ref p => ∃ xs, Rl K H1 p xs ∧ Q (!xs.isEmpty) H1
  | _ => False
theorem pt_fTru {a : Expr} {ta : TE} (ha : PE X a ta) (he : ∀ whole, isTrue a X.env whole = (do let v ← whole; standAt a.pos; holding [v] (truthy v))) : PT X a (fTru X.K ta) := by
  refine pt_wk (pt_truth (pe_clos ha) he) fun σ H Q q => ⟨_, q, fun x H1 q => ?_⟩
  split at q
  · exact ⟨_, rfl, q⟩
  · exact ⟨_, rfl, q⟩
  · refine ⟨_, rfl, ?_⟩
    rename_i i
    have e : (i != 0) = !decide (i = 0) := by by_cases h : i = 0 <;> simp [h]
    rw [e]; exact q
  · refine ⟨_, ⟨q.1, rfl⟩, ?_⟩
    rename_i z
    have e : ((z.length : Int) != 0) = !decide (z.length = 0) := by by_cases h : z.length = 0 <;> simp [h]
    rw [e]; exact q.2
  · obtain ⟨xs, r, q⟩ := q
    rcases r with r | r
    · exact ⟨_, .inl ⟨xs, r, rfl⟩, q⟩
    · exact ⟨_, .inr (.inl ⟨xs, r, rfl⟩), q⟩
  · exact q.elim
/-! ### f-strings -/
def fFmt (te : TE) : TE := fun σ H Q => te σ H fun x H1 => match x with
  | .str y => y.length ≤ sizeLine ∧ Q (.str y) H1
  | .int i => i.natAbs.log2 < 1920 ∧ Q (.str (toString i)) H1
  | _ => False
theorem fe_fmt {e : Expr} {te : TE} {pos : Pos} (he : PE X e te) : PE X (.FormattedValue e (-1) none pos) (fFmt te) := pe_wk (pe_fmt (pe_clos he)) fun σ H Q q => ⟨_, q, fun x H1 q => by
  split at q
  · exact .inl ⟨_, rfl, q⟩
  · exact .inr ⟨_, rfl, q⟩
  · exact q.elim⟩
inductive PF (X : Cx) : List Expr → List TE → Prop where
  | nil : PF X [] []
  | cons {e : Expr} {t : TE} {es : List Expr} {ts : List TE} (h : PE X e t) (r : PF X es ts) : PF X (e :: es) (t :: ts)
theorem PF_nil : PF X [] [] := .nil
theorem pf_cons {e : Expr} {t : TE} {es : List Expr} {ts : List TE} (h : PE X e t) (r : PF X es ts) : PF X (e :: es) (t :: ts) := .cons h r
def fJs : List TE → Str → L2.St → Hp → (Str → Hp → Prop) → Prop
  | [], acc, _, H, Q => Q acc H
  | t :: ts, acc, σ, H, Q => t σ H fun x H1 => match x with
    | .str y => (acc ++ y).length ≤ sizeLine ∧ fJs ts (acc ++ y) σ H1 Q
    | _ => False
theorem pf_pj {es : List Expr} {ts : List TE} (h : PF X es ts) : PJ X es (ts.map clos) := by
  induction h with
  | nil => exact .nil
  | cons h r ih => exact .cons (pe_clos h) ih
theorem fJs_to : ∀ {ts : List TE} {acc : Str} {σ : L2.St} {H : Hp} {Q : Str → Hp → Prop}, fJs ts acc σ H Q → tJs (ts.map clos) acc σ H Q
  | [], _, _, _, _, h => h
  | t :: ts, acc, σ, H, Q, h => ⟨_, h, fun x H1 q => by
    split at q
    · exact ⟨_, rfl, q.1, fJs_to q.2⟩
    · exact q.elim⟩
def fJoined (ts : List TE) : TE := fun σ H Q => fJs ts Str.empty σ H fun out H1 => Q (.str out) H1
theorem fe_joined {v1 v2 : Expr} {rest : List Expr} {ts : List TE} {pos : Pos} (h : PF X (v1 :: v2 :: rest) ts) : PE X (.JoinedStr (v1 :: v2 :: rest) pos) (fJoined ts) := by
  have h2 := pf_pj h
  exact pe_wk (pe_joined h2) fun σ H Q q => fJs_to q
/-- // by any divisor but 0 -/
def fDivZ : R2 := fun x y H Q => match x, y with
  | .int i, .int j => (j ≠ 0 ∧ j.natAbs.log2 < 9000) ∧ Q (.int (Int.fdiv i j)) H
  | _, _ => False
theorem op_fDivZ : OpR X (binaryOp .FloorDiv) fDivZ := by
  intro pins s σ H x y v u Q I rx ry h
  match x, y, rx, ry, h with
  | .int i, .int j, ⟨t, e⟩, ⟨t', e'⟩, ⟨hc, q⟩ =>
    subst e e'
    exact floordiv_int hc.1 ⟨.int _, H, I.tok _, ⟨_, rfl⟩, q⟩ (.inl (PyProof.noPylong_of_log2 hc.2))
end
theorem WE_wOf {E : XK} {σ : L2.St} : WE (wOf E) σ = E := rfl
/-! ### dicts of the module, text keys -/
def EntOk (K : PySem.W.Frag) (d : Addr) : Str × Option V → Prop
  | (z, none) => PySem.W.nsIn K d z = some none
  | (z, some v) => ∃ u, PySem.W.nsIn K d z = some (some u) ∧ RelV v u
theorem ent_none {K : PySem.W.Frag} {d : Addr} {z : Str} (h : PySem.W.nsIn K d z = some none) : EntOk K d (z, none) := h
theorem ent_str {K : PySem.W.Frag} {d : Addr} {z x : Str} {t : Tok} (h : PySem.W.nsIn K d z = some (some (.str x t))) : EntOk K d (z, some (.str x)) := ⟨_, h, _, rfl⟩
theorem ent_int {K : PySem.W.Frag} {d : Addr} {z : Str} {x : Int} {t : Tok} (h : PySem.W.nsIn K d z = some (some (.int x t))) : EntOk K d (z, some (.int x)) := ⟨_, h, _, rfl⟩
structure DAt (K : PySem.W.Frag) (w : World) (d : Addr) (ks : List (Str × Option V)) : Prop where
  ex : ∃ es n, KDict K w d es n
  en : ∀ p ∈ ks, EntOk K d p
def GDict (K : PySem.W.Frag) (w : World) (mg : Str → Option Value) (x : Str) (ks : List (Str × Option V)) : Prop := ∃ d, mg x = some (.ref d) ∧ DAt K w d ks
structure GDictF (K : PySem.W.Frag) (w : World) (x : Str) (ks : List (Str × Option V)) : Prop where
  ex : ∃ d, PySem.W.nsIn K mainGlobals x = some (some (.ref d)) ∧ DAt K w d ks
theorem GDictF.of {K : PySem.W.Frag} {w : World} {x : Str} {ks : List (Str × Option V)} {d : Addr} {es : Array DictEntry} {n : Nat} (h1 : PySem.W.nsIn K mainGlobals x = some (some (.ref d))) (h2 : K.lookup d = some ⟨.type "dict", none, .dict es n, #[]⟩)
    (h3 : PySem.W.KeysLit w.params es.toList) (h4 : (d == sysModules) = false) (h5 : ∀ p ∈ ks, EntOk K d p) : GDictF K w x ks := ⟨d, h1, ⟨es, n, h2, h3, h4⟩, h5⟩
theorem GDictF.get {K : PySem.W.Frag} {w : World} {mg : Str → Option Value} {x : Str} {ks : List (Str × Option V)} {h : Heap} (X : K.In h) (G : h.Ns mainGlobals mg) (F : GDictF K w x ks) : GDict K w mg x ks := by
  obtain ⟨d, h1, h2⟩ := F.ex
  exact ⟨d, PySem.W.mg_of X G h1, h2⟩
theorem ent_at {K : PySem.W.Frag} {w : World} {d : Addr} {z : Str} {o : Option V} : ∀ {ks : List (Str × Option V)}, (∀ p ∈ ks, EntOk K d p) → ks.lookup z = some o → EntOk K d (z, o)
  | [], _, h => by cases h
  | (y, p) :: ks, hk, h => by
    rw [List.lookup_cons] at h
    split at h
    · rename_i e
      cases h
      have e' := eq_of_beq e
      subst e'
      exact hk _ (List.mem_cons_self ..)
    · exact ent_at (w := w) (fun q hq => hk q (List.mem_cons_of_mem _ hq)) h
def fGd_ (K : PySem.W.Frag) (w : World) (ks : List (Str × Option V)) : TE := fun _ H Q => ∀ d, DAt K w d ks → Q (.ref d) H
section
variable {X : Cx}
theorem fe_gdict {x : Str} {pos : Pos} {ks : List (Str × Option V)} (hg : Gl X x) (h : GDict X.K X.w X.mg x ks) (hd : (x == ("__debug__" : Str)) = false := by decide) : PE X (.Name x pos) (fGd_ X.K X.w ks) := by
  obtain ⟨d, h, hs⟩ := h
  exact pe_wk (pe_glob hg h (v := .ref d) rfl hd) fun σ H Q q => q d hs
/-- z in D, D a dict of the module -/
def fInD (K : PySem.W.Frag) (w : World) (neg : Bool) : R2 := fun x y H Q => match x, y with
  | .str z, .ref d => ∃ ks o, DAt K w d ks ∧ ks.lookup z = some o ∧ Q (.bl (if neg = true then !o.isSome else o.isSome)) H
  | _, _ => False
theorem op_fInD : OpR X (compareOp .In) (fInD X.K X.w false) := by
  intro pins s σ H x y v u Q I rx ry h
  match x, y, rx, ry, h with
  | .str z, .ref d, rx, ry, ⟨ks, o, D, e, q⟩ =>
    obtain ⟨es, n, kd⟩ := D.ex
    have en := ent_at (w := X.w) D.en e
    cases o with
    | none => exact op_in_kd kd pins s σ H _ _ v u Q I rx ry ⟨z, none, rfl, rfl, en, q⟩
    | some v =>
      obtain ⟨u0, e0, _⟩ := en
      exact op_in_kd kd pins s σ H _ _ _ u Q I rx ry ⟨z, some u0, rfl, rfl, e0, q⟩
theorem op_fNotInD : OpR X (compareOp .NotIn) (fInD X.K X.w true) := by
  intro pins s σ H x y v u Q I rx ry h
  match x, y, rx, ry, h with
  | .str z, .ref d, rx, ry, ⟨ks, o, D, e, q⟩ =>
    obtain ⟨es, n, kd⟩ := D.ex
    have en := ent_at (w := X.w) D.en e
    cases o with
    | none => exact op_notIn_kd kd pins s σ H _ _ v u Q I rx ry ⟨z, none, rfl, rfl, en, q⟩
    | some v =>
      obtain ⟨u0, e0, _⟩ := en
      exact op_notIn_kd kd pins s σ H _ _ _ u Q I rx ry ⟨z, some u0, rfl, rfl, e0, q⟩
/-- D[z], D a dict of the module -/
def fIxD (K : PySem.W.Frag) (w : World) : R2 := fun x y H Q => match x, y with
  | .ref d, .str z => ∃ ks v, DAt K w d ks ∧ ks.lookup z = some (some v) ∧ Q v H
  | _, _ => False
theorem ix_fxD : IxR X (fIxD X.K X.w) := by
  intro e1 e2 pins s σ H x y v u Q I rx ry h hs
  match x, y, rx, ry, h with
  | .ref d, .str z, rx, ry, ⟨ks, r, D, e, q⟩ =>
    obtain ⟨es, n, kd⟩ := D.ex
    obtain ⟨u0, e0, r0⟩ := ent_at (w := X.w) D.en e
    exact ix_kdict e1 e2 pins s σ H (.ref d) (.str z) v u Q I rx ry ⟨d, z, r, rfl, rfl, ⟨es, n, u0, kd.at_, kd.lit, e0, r0⟩, q⟩ hs
end
/-! ### scalars as data -/
def dV : V → PyData
  | .non => .none
  | .bl b => .bool b
  | .int i => .int i
  | .str z => .str z
  | _ => .none
def scV : V → Bool
  | .non => true
  | .bl _ => true
  | .int _ => true
  | .str _ => true
  | _ => false
theorem dpAll_sc {K : PySem.W.Frag} {H : Hp} : ∀ {xs : List V}, xs.all scV = true → DpAll K H xs (xs.map dV)
  | [], _ => .nil
  | x :: xs, h => by
    rw [List.all_cons, Bool.and_eq_true] at h
    refine .cons ?_ (dpAll_sc h.2)
    obtain ⟨h1, _⟩ := h
    cases x <;> first
      | exact .non
      | exact .bl _
      | exact .int _
      | exact .str _
      | (exact absurd h1 (by decide))
      | (cases h1)
theorem all_okd {xs : List V} (h : xs.all scV = true) : PyData.plainAll (xs.map dV) = true ∧ PyData.depthAll (xs.map dV) = 0 := by
  induction xs with
  | nil => exact ⟨rfl, rfl⟩
  | cons x xs ih =>
    rw [List.all_cons, Bool.and_eq_true] at h
    obtain ⟨i1, i2⟩ := ih h.2
    obtain ⟨h1, _⟩ := h
    have : (dV x).plain = true ∧ (dV x).depth = 0 := by cases x <;> first | exact ⟨rfl, rfl⟩ | cases h1
    rw [List.map_cons, PyData.plainAll, PyData.depthAll, this.1, this.2, i1, i2]
    exact ⟨rfl, rfl⟩
theorem tup_okd {xs : List V} (h : xs.all scV = true) : okd (.tuple (xs.map dV)) = true := by
  obtain ⟨h1, h2⟩ := all_okd h
  unfold okd
  rw [Bool.and_eq_true]
  exact ⟨by rw [PyData.plain]; exact h1, decide_eq_true (by rw [PyData.depth, h2]; decide)⟩
theorem lst_okd {xs : List V} (h : xs.all scV = true) : okd (.list (xs.map dV)) = true := by
  obtain ⟨h1, h2⟩ := all_okd h
  unfold okd
  rw [Bool.and_eq_true]
  exact ⟨by rw [PyData.plain]; exact h1, decide_eq_true (by rw [PyData.depth, h2]; decide)⟩
theorem tup_eqv {xs : List V} (h : xs.all scV = true) : PyData.eqv (.tuple (xs.map dV)) (.tuple (xs.map dV)) = true := SeqAt.eqv_refl_plain _ (by rw [PyData.plain]; exact (all_okd h).1)
theorem lst_eqv {xs : List V} (h : xs.all scV = true) : PyData.eqv (.list (xs.map dV)) (.list (xs.map dV)) = true := SeqAt.eqv_refl_plain _ (by rw [PyData.plain]; exact (all_okd h).1)
/-- two tuples of the same scalars are equal -/
theorem tup_same {K : PySem.W.Frag} {H : Hp} {p q : Addr} {xs : List V} (hp : SqT K H p xs) (hq : SqT K H q xs) (h : xs.all scV = true) {R : Bool → Prop} (k : R true) :
    ∃ d, Dp K H (.ref p) d ∧ ∃ e, Dp K H (.ref q) e ∧ okd d = true ∧ okd e = true ∧ R (PyData.eqv d e) :=
  ⟨_, .tup hp (dpAll_sc h), _, .tup hq (dpAll_sc h), tup_okd h, tup_okd h, by rw [tup_eqv h]; exact k⟩
theorem lst_same {K : PySem.W.Frag} {H : Hp} {p q : Addr} {xs : List V} (hp : SqL K H p xs) (hq : SqL K H q xs) (h : xs.all scV = true) {R : Bool → Prop} (k : R true) :
    ∃ d, Dp K H (.ref p) d ∧ ∃ e, Dp K H (.ref q) e ∧ okd d = true ∧ okd e = true ∧ R (PyData.eqv d e) :=
  ⟨_, .lst hp (dpAll_sc h), _, .lst hq (dpAll_sc h), lst_okd h, lst_okd h, by rw [lst_eqv h]; exact k⟩
end Fx

set_option Elab.async false
set_option linter.all false
set_option maxRecDepth 100000
/-! Tb: dicts whose keys are tuples of scalars (None and truth values among them), over Ex. -/
namespace Fx
open PySem PySem.Spec PyProof.Rows L2
def leafK : V → NestedKey
  | .bl b => .num (if b = true then 1 else 0)
  | .int i => .num i
  | .str z => .text z
  | _ => .none
/-- a tuple of scalars as a key -/
def tupK (xs : List V) : NestedKey := .tup (xs.map leafK)
abbrev NEnt := NestedKey × Addr × V
abbrev PU : List NEnt → List (NestedKey × Addr × Value) → Prop := Paired fun e u => e.1 = u.1 ∧ e.2.1 = u.2.1 ∧ RelV e.2.2 u.2.2
def atN (es : List NEnt) (k : NestedKey) : Option V := (es.find? fun e => decide (e.1 = k)).map (·.2.2)
def putN (es : List NEnt) (k : NestedKey) (a : Addr) (v : V) : List NEnt := if (atN es k).isSome = true then es.map (fun e => if e.1 = k then (e.1, e.2.1, v) else e) else es ++ [(k, a, v)]
def dropN (es : List NEnt) (k : NestedKey) : List NEnt := es.filter fun e => decide (e.1 ≠ k)
theorem PU.at {es : List NEnt} {us : List (NestedKey × Addr × Value)} (h : PU es us) (k : NestedKey) : RelO (atN es k) ((atKey us k).map (·.2)) := by
  induction h with
  | nil => exact True.intro
  | @cons p q ps qs h t ih =>
    obtain ⟨h1, h2, h3⟩ := h
    by_cases e : p.1 = k
    · have e' : q.1 = k := h1.symm.trans e
      have a : atN (p :: ps) k = some p.2.2 := by simp [atN, List.find?_cons, e]
      have b : atKey (q :: qs) k = some q.2 := by simp [atKey, List.find?_cons, e']
      rw [a, b]; exact h3
    · have e' : ¬ q.1 = k := fun z => e (h1.trans z)
      have a : atN (p :: ps) k = atN ps k := by simp [atN, List.find?_cons, e]
      have b : atKey (q :: qs) k = atKey qs k := by simp [atKey, List.find?_cons, e']
      rw [a, b]; exact ih
theorem PU.put {es : List NEnt} {us : List (NestedKey × Addr × Value)} (h : PU es us) (k : NestedKey) (a : Addr) {v : V} {u : Value} (rv : RelV v u) : PU (putN es k a v) (storedH us k a u) := by
  have e : (atN es k).isSome = (atKey us k).isSome := by rw [(h.at k).isSome_eq, Option.isSome_map]
  unfold putN storedH
  rw [e]
  by_cases q : (atKey us k).isSome = true
  · rw [if_pos q, if_pos q]
    clear q e
    induction h with
    | nil => exact .nil
    | @cons p q ps qs h t ih =>
      rw [List.map_cons, List.map_cons]
      refine .cons ?_ ih
      obtain ⟨h1, h2, h3⟩ := h
      unfold putAt
      by_cases e : p.1 = k
      · rw [if_pos e, if_pos (h1.symm.trans e)]; exact ⟨h1, h2, rv⟩
      · rw [if_neg e, if_neg (fun z => e (h1.trans z))]; exact ⟨h1, h2, h3⟩
  · rw [if_neg q, if_neg q]
    exact Paired.snoc h ⟨rfl, rfl, rv⟩
theorem PU.drop {es : List NEnt} {us : List (NestedKey × Addr × Value)} (h : PU es us) (k : NestedKey) : PU (dropN es k) (withoutH us k) := by
  unfold dropN withoutH
  induction h with
  | nil => exact .nil
  | @cons p q ps qs h t ih =>
    obtain ⟨h1, h2, h3⟩ := h
    rw [List.filter_cons, List.filter_cons]
    by_cases e : p.1 = k
    · have a : ¬ decide (p.1 ≠ k) = true := by simp [e]
      have b : ¬ decide (q.1 ≠ k) = true := by simp [h1.symm.trans e]
      rw [if_neg a, if_neg b]; exact ih
    · have e' : ¬ q.1 = k := fun z => e (h1.trans z)
      have a : decide (p.1 ≠ k) = true := by simp [e]
      have b : decide (q.1 ≠ k) = true := by simp [e']
      rw [if_pos a, if_pos b]; exact .cons ⟨h1, h2, h3⟩ ih
theorem putN_len (es : List NEnt) (k : NestedKey) (a : Addr) (v : V) : (putN es k a v).length ≤ es.length + 1 := by
  unfold putN
  split
  · rw [List.length_map]; omega
  · rw [List.length_append, List.length_cons, List.length_nil]; omega
/-- such a dict -/
def nkO (w : World) (d : Addr) (es : List NEnt) : HO := .ext fun h => es.length ≤ sizeLine ∧ (d == sysModules) = false ∧ ∃ us, PU es us ∧ ∃ o en ep, h.get? d = some o ∧ o.ExactDict ∧ o.data = .dict en ep ∧
  en.toList = us.map (fun u => (⟨u.1.hash w, .ref u.2.1, u.2.2⟩ : DictEntry)) ∧ (us.map (·.1)).Nodup
theorem nkO_ne_tup {w : World} {d : Addr} {es : List NEnt} {xs : List V} : nkO w d es ≠ .tup xs := fun z => by
  have z' : HO.ext _ = HO.tup xs := z
  cases z'
/-- the key's own tuple -/
def KeyT (H : Hp) (k : NestedKey) (a : Addr) : Prop := ∃ xs, H a = some (.tup xs) ∧ xs.all scV = true ∧ k = tupK xs
structure DN (w : World) (H : Hp) (d : Addr) (es : List NEnt) : Prop where
  rd : Rd H d (nkO w d es)
  ks : ∀ e ∈ es, KeyT H e.1 e.2.1
theorem KeyT.mono {H H' : Hp} {k : NestedKey} {a : Addr} (h : KeyT H k a) (s : ∀ b xs, H b = some (.tup xs) → H' b = some (.tup xs)) : KeyT H' k a := h.imp fun _ ⟨e, r⟩ => ⟨s _ _ e, r⟩
section
variable {P : Program} {w : World} {H : Hp} {h : Heap} {a d : Addr} {es : List NEnt}
theorem nested_leaf {x : V} {u : Value} (r : RelV x u) (hs : scV x = true) : NestedIs h (leafK x) u := by
  cases x <;> first
    | (cases r; exact .none)
    | (cases r; exact .bool rfl)
    | (obtain ⟨t, rfl⟩ := r; exact .int _ t)
    | (obtain ⟨t, rfl⟩ := r; exact .text _ t)
    | cases hs
theorem nested_all : ∀ {xs : List V} {us : List Value}, Vals xs us → xs.all scV = true → NestedAll h (xs.map leafK) us
  | _, _, .nil, _ => .nil
  | _, _, .cons r t, hs => by
    rw [List.all_cons, Bool.and_eq_true] at hs
    exact .cons (nested_leaf r hs.1) (nested_all t hs.2)
theorem leaf_depth (x : V) : (leafK x).depth = 0 := by cases x <;> rfl
theorem leaf_depths : ∀ xs : List V, NestedKey.depthAll (xs.map leafK) = 0
  | [] => rfl
  | x :: xs => by rw [List.map_cons, NestedKey.depthAll, leaf_depth, leaf_depths xs]; rfl
theorem KeyT.is {k : NestedKey} (ok : HOk P w H h) (e : KeyT H k a) : (nestedKind P w).is h k a := by
  obtain ⟨xs, e, hs, rfl⟩ := e
  obtain ⟨_, its, r, o, h1, h2, n, h3⟩ := (show ObjOk P w H h a (.tup xs) from ok a _ e)
  refine ⟨.tup h1 h2 h3 (by simpa using nested_all r hs), ?_⟩
  show NestedKey.depthAll (xs.map leafK) + 1 ≤ 8
  rw [leaf_depths]; decide
theorem DN.of (D : DN w H d es) (ok : HOk P w H h) : es.length ≤ sizeLine ∧ (d == sysModules) = false ∧ ∃ us, PU es us ∧ h.DictOfH (nestedKind P w) d us := by
  have x : ObjOk P w H h d (nkO w d es) := D.rd.ok ok
  obtain ⟨⟨z, hd, us, r, o, en, ep, h1, h2, h3, h4, h5⟩, _⟩ := x
  refine ⟨z, hd, us, r, o, en, ep, h1, h2, h3, h4, ?_, h5⟩
  intro x hx
  have all : ∀ {l : List NEnt} {m : List (NestedKey × Addr × Value)}, PU l m → (∀ e ∈ l, KeyT H e.1 e.2.1) → ∀ x ∈ m, (nestedKind P w).is h x.1 x.2.1 := by
    intro l m q
    induction q with
    | nil => intro _ x hx; exact nomatch hx
    | @cons p q ps qs hq t ih =>
      intro hk x hx
      rcases List.mem_cons.mp hx with e | hx
      · subst e
        have := (hk p (List.mem_cons_self ..)).is ok
        rw [hq.1, hq.2.1] at this
        exact this
      · exact ih (fun e he => hk e (List.mem_cons_of_mem _ he)) x hx
  exact all r D.ks x hx
theorem nkO_ok {us : List (NestedKey × Addr × Value)} (z : es.length ≤ sizeLine) (hd : (d == sysModules) = false) (r : PU es us) (dd : h.DictOfH (nestedKind P w) d us) : ObjOk P w H h d (nkO w d es) := by
  obtain ⟨o, en, ep, h1, h2, h3, h4, _, h5⟩ := dd
  exact ⟨⟨z, hd, us, r, o, en, ep, h1, h2, h3, h4, h5⟩, ⟨o, h1⟩, fun g1 g2 ⟨_, _, us', r', o', en', ep', k1, k2, k3, k4, k5⟩ k => ⟨z, hd, us', r', o', en', ep', k _ k1, k2, k3, k4, k5⟩⟩
end
section
variable {X : Cx} {pins : List (Addr × Obj)} {σ : L2.St} {H : Hp} {s : Shared} {d q : Addr} {es : List NEnt} {xs : List V} {A : Around} {E : Value → Shared → Prop}
theorem room_n (hu : A.units + 64 < cLine) : (nestedKind X.prog X.w).room A.in1 := by
  show A.units + 1 + 8 < cLine
  omega
theorem n_getItem {v : V} {Q : Value → Shared → Prop} (hu : A.units + 64 < cLine) (I : Inv X pins σ H s) (D : DN X.w H d es) (hq : KeyT H (tupK xs) q) (e : atN es (tupK xs) = some v) (h : ∀ w' s', Inv X pins σ H s' → RelV v w' → Q w' s') :
    wpAny (model X.prog X.w) A (getItem (.ref d) (.ref q)) Q E s := by
  obtain ⟨z, hd, us, r, dd⟩ := D.of I.hok
  obtain ⟨w', hw, rw'⟩ := RelO.some_of (v := v) (o := (atKey us (tupK xs)).map (·.2)) (by rw [← e]; exact r.at _)
  obtain ⟨p, hp, hp2⟩ := Option.map_eq_some_iff.mp hw
  refine wpAny_getItem_heap (room_n hu) (hq.is I.hok) dd hp ?_
  rw [hp2]
  exact h w' _ (I.tok _) rw'
theorem n_in {Q : Value → Shared → Prop} (hu : A.units + 64 < cLine) (I : Inv X pins σ H s) (D : DN X.w H d es) (hq : KeyT H (tupK xs) q) (h : ∀ s', Inv X pins σ H s' → Q (.bool (atN es (tupK xs)).isSome) s') :
    wpAny (model X.prog X.w) A (compareOp .In (.ref q) (.ref d)) Q E s := by
  obtain ⟨z, hd, us, r, dd⟩ := D.of I.hok
  refine wpAny_in_heap (room_n hu) (hq.is I.hok) hd dd ?_
  have qq := (r.at (tupK xs)).isSome_eq
  rw [Option.isSome_map] at qq
  rw [← qq]
  exact h _ (I.tok _)
theorem n_setItem {v : V} {u : Value} {Q : Unit → Shared → Prop} (hu : A.units + 64 < cLine) (I : Inv X pins σ H s) (D : DN X.w H d es) (e0 : H d = some (nkO X.w d es)) (hq : KeyT H (tupK xs) q) (hl : es.length < sizeLine) (rv : RelV v u)
    (h : ∀ s', Inv X pins σ (upd H d (nkO X.w d (putN es (tupK xs) q v))) s' → Q () s') : wpAny (model X.prog X.w) A (setItem (.ref d) (.ref q) u) Q E s := by
  obtain ⟨z, hd, us, r, dd⟩ := D.of I.hok
  have hz : us.length ≤ sizeLine := by rw [← Paired.length r]; exact z
  refine wpAny_setItem_heap (hsz := hz) (room_n hu) (hq.is I.hok) dd fun h' dd' hs => h _ ?_
  have he : ∃ q, h'.get? d = some q := let ⟨q, _, _, hq, _⟩ := dd'; ⟨q, hq⟩
  exact d_write I (by rw [e0]; exact True.intro) hs he (nkO_ok (Nat.le_trans (putN_len ..) hl) hd (r.put _ _ rv) dd')
theorem n_delItem {Q : Unit → Shared → Prop} (hu : A.units + 64 < cLine) (I : Inv X pins σ H s) (D : DN X.w H d es) (e0 : H d = some (nkO X.w d es)) (hq : KeyT H (tupK xs) q) (e : (atN es (tupK xs)).isSome = true)
    (h : ∀ s', Inv X pins σ (upd H d (nkO X.w d (dropN es (tupK xs)))) s' → Q () s') : wpAny (model X.prog X.w) A (delItem (.ref d) (.ref q)) Q E s := by
  obtain ⟨z, hd, us, r, dd⟩ := D.of I.hok
  have hz : us.length ≤ sizeLine := by rw [← Paired.length r]; exact z
  have qq := (r.at (tupK xs)).isSome_eq
  rw [Option.isSome_map, e] at qq
  obtain ⟨p, hp⟩ := Option.isSome_iff_exists.mp qq.symm
  refine wpAny_delItem_heap (hsz := hz) (room_n hu) (hq.is I.hok) hd dd hp fun h' dd' hs => h _ ?_
  have he : ∃ q, h'.get? d = some q := let ⟨q, _, _, hq, _⟩ := dd'; ⟨q, hq⟩
  exact d_write I (by rw [e0]; exact True.intro) hs he (nkO_ok (Nat.le_trans (List.length_filter_le _ _) z) hd (r.drop _) dd')
end
/-! ### readings and rules -/
def isKey (H : Hp) (q : Addr) (xs : List V) : Prop := H q = some (.tup xs) ∧ xs.all scV = true
theorem isKey.t {H : Hp} {q : Addr} {xs : List V} (h : isKey H q xs) : KeyT H (tupK xs) q := ⟨xs, h.1, h.2, rfl⟩
def fGetN (w : World) (td ty : TE) : TE := fun σ H Q => td σ H fun x H1 => ty σ H1 fun y H2 => match x, y with
  | .ref d, .ref q => ∃ es xs v, DN w H2 d es ∧ isKey H2 q xs ∧ atN es (tupK xs) = some v ∧ Q v H2
  | _, _ => False
def fInN (w : World) (ty td : TE) : TE := fun σ H Q => ty σ H fun y H1 => td σ H1 fun x H2 => match x, y with
  | .ref d, .ref q => ∃ es xs, DN w H2 d es ∧ isKey H2 q xs ∧ Q (.bl (atN es (tupK xs)).isSome) H2
  | _, _ => False
def sPutN (w : World) (td ty tv : TE) : TS := fun D σ H => tv σ H fun v H1 => td σ H1 fun x H2 => ty σ H2 fun y H3 => match x, y with
  | .ref d, .ref q => ∃ es xs, DN w H3 d es ∧ H3 d = some (nkO w d es) ∧ isKey H3 q xs ∧ es.length < sizeLine ∧ D.nx σ (upd H3 d (nkO w d (putN es (tupK xs) q v)))
  | _, _ => False
def sDelN (w : World) (td ty : TE) : TS := fun D σ H => td σ H fun x H1 => ty σ H1 fun y H2 => match x, y with
  | .ref d, .ref q => ∃ es xs, DN w H2 d es ∧ H2 d = some (nkO w d es) ∧ isKey H2 q xs ∧ (atN es (tupK xs)).isSome = true ∧ D.nx σ (upd H2 d (nkO w d (dropN es (tupK xs))))
  | _, _ => False
def fNewN (w : World) : TE := fun _ H Q => ∀ p H2, H p = none → Same H H2 → H2 p = some (nkO w p []) → Q (.ref p) H2
def fLenN (w : World) : List V → Hp → VK → Prop := fun xs H Q => match xs with
  | [.ref d] => ∃ es, DN w H d es ∧ Q (.int es.length) H
  | _ => False
section
variable {X : Cx} {o i e value : Expr} {pos pos' tpos : Pos} {td ty tv : TE}
theorem pe_getN {w : World} (hw : X.w = w) (hu : X.A.units + 64 < cLine) (ho : PE X o td) (hi : PE X i ty) (hs : NoSl i) : PE X (.Subscript o i pos) (fGetN w td ty) := by
  subst hw
  refine ⟨fun pins s σ H Q I h => ?_⟩
  refine subD_of PySem.F.slot_dict_getitem.lookup hs (thn (ho.run pins s σ H _ I h) fun u s1 ⟨x, H1, I1, rx, q1⟩ => thn (hi.run pins s1 σ H1 _ I1 q1) fun iv s2 ⟨y, H2, I2, ry, q2⟩ => ?_)
  match x, y, rx, ry, q2 with
  | .ref d, .ref q, rx, ry, ⟨es, xs, v, D, kq, ev, q2⟩ =>
    obtain rfl : u = Value.ref d := rx
    obtain rfl : iv = Value.ref q := ry
    obtain ⟨_, _, us, _, dd⟩ := D.of I2.hok
    exact ⟨dd.typeIs, n_getItem hu I2 D kq.t ev fun w' s3 I3 rw' => ⟨v, H2, I3, rw', q2⟩⟩
theorem pc_inN {w : World} (hw : X.w = w) (hu : X.A.units + 64 < cLine) (hi : PE X i ty) (ho : PE X o td) : PC X .In i o (fInN w ty td) := by
  subst hw
  refine ⟨fun pins s σ H Q I h => ?_⟩
  refine thn (hi.run pins s σ H _ I h) fun iv s1 ⟨y, H1, I1, ry, q1⟩ => thn (ho.run pins s1 σ H1 _ I1 q1) fun u s2 ⟨x, H2, I2, rx, q2⟩ => ?_
  match x, y, rx, ry, q2 with
  | .ref d, .ref q, rx, ry, ⟨es, xs, D, kq, q2⟩ =>
    obtain rfl : u = Value.ref d := rx
    obtain rfl : iv = Value.ref q := ry
    exact n_in hu I2 D kq.t fun s3 I3 => ⟨.bl _, H2, I3, rfl, q2⟩
theorem ps_putN {w : World} (hw : X.w = w) (hu : X.A.units + 64 < cLine) (ho : PE X o td) (hi : PE X i ty) (hv : PE X value tv) (hs : swapsWith value (some (.Subscript o i pos')) pos.line X.env = pure false) :
    PS X (.Assign [.Subscript o i pos'] value pos) (sPutN w td ty tv) := by
  subst hw
  refine ⟨fun pins s σ H D I h => ?_⟩
  refine wpAny_Assign_Subscript (thn (hv.run pins s σ H _ I h) fun r s1 ⟨v, H1, I1, rv, q1⟩ => thn (ho.run pins s1 σ H1 _ I1 q1) fun u s2 ⟨x, H2, I2, rx, q2⟩ => thn (hi.run pins s2 σ H2 _ I2 q2) fun iv s3 ⟨y, H3, I3, ry, q3⟩ => ?_) hs
  match x, y, rx, ry, q3 with
  | .ref d, .ref q, rx, ry, ⟨es, xs, Dn, e0, kq, hl, q3⟩ =>
    obtain rfl : u = Value.ref d := rx
    obtain rfl : iv = Value.ref q := ry
    exact n_setItem hu I3 Dn e0 kq.t hl rv fun s4 I4 => ⟨σ, _, I4, q3⟩
theorem ps_delN {w : World} (hw : X.w = w) (hu : X.A.units + 64 < cLine) (ho : PE X o td) (hi : PE X i ty) : PS X (.Delete [.Subscript o i tpos] pos) (sDelN w td ty) := by
  subst hw
  refine ⟨fun pins s σ H D I h => ?_⟩
  refine wpAny_Delete (wpAny_deleteEach_cons (wpAny_delete_Subscript (thn (ho.run pins s σ H _ I h) fun u s1 ⟨x, H1, I1, rx, q1⟩ => thn (hi.run pins s1 σ H1 _ I1 q1) fun iv s2 ⟨y, H2, I2, ry, q2⟩ => ?_)))
  match x, y, rx, ry, q2 with
  | .ref d, .ref q, rx, ry, ⟨es, xs, Dn, e0, kq, l, q2⟩ =>
    obtain rfl : u = Value.ref d := rx
    obtain rfl : iv = Value.ref q := ry
    exact n_delItem hu I2 Dn e0 kq.t l fun s3 I3 => wpAny_deleteEach_nil ⟨σ, _, I3, q2⟩
theorem pe_newN {w : World} (hw : X.w = w) : PE X (.Dict [] [] pos) (fNewN w) := by
  subst hw
  refine ⟨fun pins s σ H Q I h => ?_⟩
  refine wpAny_Dict_empty ?_
  have hf : H s.heap.objs.size = none := I.hok.fresh (Nat.le_refl _)
  refine ⟨.ref s.heap.objs.size, upd H s.heap.objs.size (nkO X.w s.heap.objs.size []), I.laid (t' := s.toks) (fun b u e => Heap.get?_push_of_some _ e) (Nat.le_refl _) ?_, rfl, h _ _ hf (same_new hf) upd_same⟩
  exact nkO_ok (us := []) (Nat.zero_le _) (beq_eq_false_iff_ne.mpr (Ne.symm (Nat.ne_of_lt I.big))) .nil (Heap.DictOfH.new _)
theorem call_fLenN {w : World} (hw : X.w = w) : CallR X (.builtin "len") (fLenN w) := by
  subst hw
  intro pins s σ H xs us Q I r h
  match xs, r, h with
  | [.ref d], r, ⟨es, D, q⟩ =>
    obtain ⟨u, rfl, rx⟩ := vals1 r
    obtain rfl : u = .ref d := rx
    obtain ⟨z, hd, ys, rel, dd⟩ := D.of I.hok
    have hl : es.length = ys.length := Paired.length rel
    refine call_len_dictH hd dd (by rw [← hl]; rw [sizeLine_eq] at z; omega) ?_
    rw [← hl]
    exact ⟨.int ((es.length : Nat) : Int), H, I.tok _, ⟨_, rfl⟩, q⟩
end
/-! ### its keys, walked (the dict locked) -/
def Itn (w : World) (d : Addr) (o : Obj) (es : List NEnt) : It :=
  ⟨fun i H => H d = some (.frz o (nkO w d es)) ∧ i < es.length, fun i H x H' => H' = H ∧ ∃ e, es[i]? = some e ∧ x = .ref e.2.1, fun i H => H d = some (.frz o (nkO w d es)) ∧ es.length ≤ i⟩
theorem Inv.frzN {X : Cx} {pins : List (Addr × Obj)} {σ : L2.St} {H : Hp} {s : Shared} {d : Addr} {o : Obj} {es : List NEnt} (I : Inv X pins σ H s) (h : H d = some (.frz o (nkO X.w d es))) :
    (d == sysModules) = false ∧ s.heap.get? d = some o ∧ o.ExactDict ∧ ∃ (en : Array DictEntry) (ep : Nat), o.data = .dict en ep ∧ en.size = es.length ∧
      ∀ (i : Nat) (e : NEnt), es[i]? = some e → ∃ (x : DictEntry), en[i]? = some x ∧ x.key = .ref e.2.1 := by
  obtain ⟨hd, ⟨z, hs, us, r, o', en, ep, ho, hx, hdt, he, _⟩, _⟩ := I.hok d _ h
  rw [hd] at ho
  cases ho
  refine ⟨hs, hd, hx, en, ep, hdt, ?_, fun i e hi => ?_⟩
  · have l1 : en.toList.length = us.length := by rw [he, List.length_map]
    have l2 : es.length = us.length := Paired.length r
    rw [Array.length_toList] at l1
    omega
  · obtain ⟨b, hb, e1, e2, _⟩ := paired_get r hi
    refine ⟨⟨b.1.hash X.w, .ref b.2.1, b.2.2⟩, ?_, by rw [e2]⟩
    rw [← Array.getElem?_toList, he, List.getElem?_map, hb]
    rfl
theorem turn_keysN {P : Program} {w : World} {K : PySem.W.Frag} {tg : Expr} {d : Addr} {o : Obj} {en : Array DictEntry} {ep : Nat} {es : List NEnt} (it : Addr) (hod : o.data = .dict en ep) : Turn P w K tg (Itn w d o es) [it] it (fun i h => h.IsKeyIter it d i es.length ep) where
  mem := by simp
  obj := fun i h st b hb => by
    have e : b = it := by simpa using hb
    subst e
    obtain ⟨oi, e, c, dd⟩ := st
    exact ⟨oi, e, fun v z => by rw [dd] at z; cases z⟩
  keep := fun i h h' st k => st.at fun oi e => k it (by simp) oi e
  item := by
    intro X hP hw hK hc i pins s σ H E I hf st hg
    subst hP hw hK
    obtain ⟨hd, hi⟩ := hg
    obtain ⟨f0, f1, f2, f3, f4, f5⟩ := hf it (by simp)
    obtain ⟨hs, hgd, hx, es', ep', hdt, hsz, ent⟩ := Inv.frzN I hd
    obtain ⟨rfl, rfl⟩ := dict_ep hod hdt
    obtain ⟨e, he⟩ : ∃ p, es[i]? = some p := ⟨es[i], List.getElem?_eq_getElem hi⟩
    obtain ⟨x, hen, hkey⟩ := ent i e he
    refine next_key_item st hgd hdt hsz hen fun h' st' sb => ?_
    have I1 : Inv X pins σ H { s with heap := h' } := I.turned (t' := s.toks) (fun b ob hb e => (sb.2 b hb).trans e) f0 f1 f3 f4 f5
    obtain ⟨oi, e', c, dd⟩ := id st'
    exact ⟨x.key, rfl, go_of (s := { s with heap := h' }) e' c dd (by decide) ⟨.ref e.2.1, H, I1, hkey, ⟨rfl, e, he, rfl⟩, st', fun b hb => (hf b hb).1⟩⟩
  done := by
    intro X hP hw hK hc i pins s σ H E I hf st hg
    subst hP hw hK
    obtain ⟨hd, hi⟩ := hg
    obtain ⟨f0, f1, f2, f3, f4, f5⟩ := hf it (by simp)
    obtain ⟨hs, hgd, hx, es', ep', hdt, hsz, ent⟩ := Inv.frzN I hd
    obtain ⟨rfl, rfl⟩ := dict_ep hod hdt
    exact next_key_end (I.ok.hd hc) st hgd hdt hsz hi fun h' eb => ⟨rfl, I.turned (t' := s.toks) (fun b ob hb e => eb b ob hb e) f0 f1 f3 f4 f5⟩
  self := fun A i s Q E st h => by
    refine wpAny_pyIter_slot st.typeIs F.slot_dict_keyiterator_iter (wpAny_call_entry F.slot_dict_keyiterator_iter st.typeIs F.entry_dict_keyiterator_iter ?_ (F.args_dict_keyiterator_iter_1 _))
    show wpAny _ _ (ret (.ref it)) _ _ s
    exact wpAny_pure ⟨_, rfl, "dict_keyiterator", _, st.typeIs, F.slot_dict_keyiterator_next.lookup, h⟩
def iKeysN (w : World) (td : TE) : TI := fun σ H R => td σ H fun x H1 => match x with
  | .ref d => ∃ o es, H1 d = some (.frz o (nkO w d es)) ∧ R (Itn w d o es) H1
  | _ => False
theorem walk_keysN {w : World} {d : Addr} {o : Obj} {es : List NEnt} : Walk (Itn w d o es) es.length (fun H => H d = some (.frz o (nkO w d es))) (fun i H x H' => H' = H ∧ ∃ e, es[i]? = some e ∧ x = .ref e.2.1) :=
  ⟨fun _ _ hi q => ⟨q, hi⟩, fun _ q => ⟨q, Nat.le_refl _⟩, fun _ _ _ _ _ _ y => y⟩
section
variable {X : Cx} {tg e : Expr} {td : TE}
theorem pi_keysN {w : World} (hw : X.w = w) (he : PE X e td) : PI X tg e (iKeysN w td) := by
  subst hw
  refine ⟨fun pins s σ H R I h => ?_⟩
  refine thn (he.run pins s σ H _ I h) fun u s1 ⟨x, H1, I1, rx, q⟩ => ?_
  match x, rx, q with
  | .ref d, rx, ⟨o, es, hd, q⟩ =>
    obtain rfl : u = Value.ref d := rx
    obtain ⟨hs, hgd, hx, en, ep, hdt, hsz, ent⟩ := Inv.frzN I1 hd
    refine iter_keys hs hgd hx hdt (pi_one (tk := s1.toks) I1 _ (turn_keysN _ hdt) ⟨_, Heap.get?_push_size _ rfl, rfl, ?_⟩ q)
    rw [hsz] <;> rfl
end
theorem lcx_keysN {w : World} {d0 : Addr} {o : Obj} {es : List NEnt} {g : TG} {tt : TT} {te : TE} {vs : List Nat} {σ : L2.St} {H1 : Hp} {D : Addr} {Q : VK} (Pv : Nat → Hp → Prop) (h0 : Pv 0 (upd H1 D (.lst []))) (hl : ∀ i H, i ≤ es.length → Pv i H → H d0 = some (.frz o (nkO w d0 es)))
    (hs : ∀ i x H, es[i]? = some x → Pv i H → g (.ref x.2.1) (wipe σ vs) H fun σ2 H2 => wipe σ2 vs = wipe σ vs ∧ tt σ2 H2 fun b H3 =>
      if b = true then te σ2 H3 fun y H4 => ∃ acc, H4 D = some (.lst acc) ∧ acc.length < sizeLine ∧ Pv (i + 1) (upd H4 D (.lst (acc ++ [y]))) else Pv (i + 1) H3) (hd : ∀ H, Pv es.length H → Q (.ref D) H) : Lc (Itn w d0 o es) g tt te vs σ H1 D Q :=
  lc_it walk_keysN Pv h0 hl (fun i x H H' hi p y => by
    obtain ⟨rfl, e, he, rfl⟩ := y
    exact hs i e _ he p) hd
/-! ### properties -/
structure HasP (P : Program) (w : World) (K : PySem.W.Frag) (mg : Str → Option Value) (base : Heap) (CX : CXT) (C : Addr) (x : Str) (k : Nat) (ps : List Str) (sp : Sp) : Prop where
  ex : ∃ (p g : Addr) (fd : FuncData), PropOf K C x p g ∧ FnOk P w K mg base CX k g fd ps sp ∧ Binds K fd ps []
/-- a property's getter as it stands -/
structure AtP (K : PySem.W.Frag) (C : Addr) (x qual : Str) (st : Stmt) (ps : List Str) : Prop where
  ex : ∃ (p g : Addr) (fd : FuncData), Fun K x qual st g fd ∧ Binds K fd ps [] ∧ PropOf K C x p g
structure PFact (K : PySem.W.Frag) (C : Addr) (x qual : Str) (st : Stmt) : Prop where
  ex : ∃ (p f : Addr) (oc : Value) (od an : Option Addr) (sl : Array (Option Value)) (kV dc pm cd ct : Value),
    PropOf K C x p f ∧ K.lookup f = some ⟨oc, od, .func (PySem.W.fnOf x qual (defArgs st) (defBody st) (defScope st) .none kV dc pm an cd ct), sl⟩ ∧ PySem.W.codeIn K cd qual = true ∧ PySem.W.keepIn K (.ref f) = true
theorem PFact.of {K : PySem.W.Frag} {C : Addr} {x qual : Str} {st : Stmt} {p f : Addr} {oc : Value} {od an : Option Addr} {sl : Array (Option Value)} {kV dc pm cd ct : Value} {rest : List Value}
    (a : PySem.W.findIn K (.ref C) x = some (some (.ref p))) (g : PySem.W.specialIn K (.ref p) "__get__" = some (some (.builtin "property.__get__"))) (t : PySem.W.takesIn K (.ref p) = some true) (r : PySem.W.recIn K p "property" = some (.ref f :: rest))
    (l : K.lookup f = some ⟨oc, od, .func (PySem.W.fnOf x qual (defArgs st) (defBody st) (defScope st) .none kV dc pm an cd ct), sl⟩)
    (c : PySem.W.codeIn K cd qual = true) (k : PySem.W.keepIn K (.ref f) = true) : PFact K C x qual st := ⟨p, f, oc, od, an, sl, kV, dc, pm, cd, ct, ⟨a, g, t, rest, r⟩, l, c, k⟩
theorem AtP.of {K : PySem.W.Frag} {C : Addr} {x qual : Str} {st : Stmt} {ps : List Str} (F : PFact K C x qual st)
    (hb : ∀ (kV doc pm : Value) (an : Option Addr) (cdv ct : Value) (us : List Value), us.length = ps.length → bindArgs (PySem.W.fnOf x qual (defArgs st) (defBody st) (defScope st) .none kV doc pm an cdv ct) ⟨us, []⟩ = pure (ps.zip us)) : AtP K C x qual st ps := by
  obtain ⟨p, f, oc, od, an, sl, kV, dc, pm, cd, ct, pr, l, c, k⟩ := F.ex
  have F1 := fun_mk (st := st) l c k
  exact ⟨_, _, _, F1, F1.binds hb, pr⟩
theorem hasP_of {P : Program} {w : World} {K : PySem.W.Frag} {mg : Str → Option Value} {base : Heap} {C : Addr} {x qual : Str} {st : Stmt} {N ps : List Str} {k : Nat} {sp : Sp} (A : AtP K C x qual st ps) (S : FnScope N ps (defScope st)) (len : ∀ vs H Q E, sp vs H Q E → vs.length = ps.length)
    (hbody : ∀ (cdv : Value) (f : Addr) (A : Around) (outer : List Env) (s : Shared) (H : Hp) (vs : List V) (Q : VK) (E : XK), Room k (A.deeper (envOfC qual (defScope st) s.heap.objs.size f cdv)) → sp vs H Q E →
      ∃ t, PSs (cxOf CX0 P w K mg base N qual (defScope st) f cdv A outer s H E).nox (defBody st) t ∧ t { nx := fun _ H' => Q .non H', rt := Q } (start N vs) H) : HasP P w K mg base CX0 C x (k + 1) ps sp := by
  obtain ⟨p, f, fd, F, B, G⟩ := A.ex
  exact ⟨p, f, fd, G, F.ok S len fun cdv A outer s H vs Q E hr h => hbody cdv f A outer s H vs Q E hr h, B⟩
def fProp (C : Addr) (sp : Sp) (E : XK) (ta : TE) : TE := fun σ H Q => ta σ H fun x H1 => match x with
  | .ref a => match H1 a with
    | some (.ins D _ _) => D = C ∧ sp [.ref a] H1 Q E
    | _ => False
  | _ => False
theorem fe_prop {X : Cx} {CX : CXT} {k : Nat} {C : Addr} {x : Str} {ps : List Str} {sp : Sp} {E : XK} {e : Expr} {pos : Pos} {ta : TE} (h : HasP X.prog X.w X.K X.mg X.base CX C x k ps sp) (c : Cls X.K C) (hr : Room (k + 1) X.A) (hx : Passes CX X.nox E) (he : PE X e ta)
    (hab : attributeBase e x X.env (eval e X.env) = eval e X.env) : PE X (.Attribute e x pos) (fProp C sp E ta) := by
  obtain ⟨p, g, fd, hp, F, B⟩ := h.ex
  refine pe_wk (pe_prop (pe_clos he) c hp F hr B .nil hx hab) fun σ H Q q => ⟨_, q, fun y H1 q1 => ?_⟩
  match y, q1 with
  | .ref a, q1 =>
    dsimp only at q1
    split at q1
    · obtain ⟨h1, q2⟩ := q1
      rename_i D dx fs ea
      subst h1
      exact ⟨_, _, _, rfl, ea, q2⟩
    · exact q1.elim
end Fx

set_option Elab.async false
set_option linter.all false
set_option maxRecDepth 100000
/-! Mr: list methods, dicts with text keys, exceptions as values, by value, over Tb. -/
namespace Fx
open PySem PySem.Spec PyProof.Rows L2
section
variable {X : Cx}
/-! ### list methods -/
def fPop : V → List V → Hp → VK → Prop := fun x vs H Q => match x, vs with
  | .ref l, [] => match H l with
    | some (.lst xs) => ∃ y, xs[xs.length - 1]? = some y ∧ Q y (upd H l (.lst xs.dropLast))
    | _ => False
  | _, _ => False
theorem mt_fPop : MtR X "list.pop" fPop := by
  intro pins s σ H x xs v us Q I rx rs h
  unfold fPop at h
  split at h
  · split at h
    · obtain ⟨y, h1, h2⟩ := h
      exact mt_pop pins s σ H _ _ v us Q I rx rs ⟨_, _, y, rfl, rfl, by assumption, h1, h2⟩
    · exact h.elim
  · exact h.elim
def fPopAt : V → List V → Hp → VK → Prop := fun x vs H Q => match x, vs with
  | .ref l, [.int i] => match H l with
    | some (.lst xs) => ∃ k y, ixN xs.length i = some k ∧ xs[k]? = some y ∧ xs.length ≤ 100000 ∧ Q y (upd H l (.lst (xs.eraseIdx k)))
    | _ => False
  | _, _ => False
theorem mt_fPopAt : MtR X "list.pop" fPopAt := by
  intro pins s σ H x xs v us Q I rx rs h
  unfold fPopAt at h
  split at h
  · split at h
    · obtain ⟨k, y, h1, h2, h4, h3⟩ := h
      obtain ⟨e, _, lo, hi⟩ := ixN_seq h1
      exact mt_popAt pins s σ H _ _ v us Q I rx rs ⟨_, _, _, k, y, rfl, rfl, by assumption, by omega, by omega, e, h2, h3⟩
    · exact h.elim
  · exact h.elim
def fReverse : V → List V → Hp → VK → Prop := fun x vs H Q => match x, vs with
  | .ref l, [] => match H l with
    | some (.lst xs) => Q .non (upd H l (.lst xs.reverse))
    | _ => False
  | _, _ => False
theorem mt_fReverse : MtR X "list.reverse" fReverse := by
  intro pins s σ H x xs v us Q I rx rs h
  unfold fReverse at h
  split at h
  · split at h
    · exact mt_reverse pins s σ H _ _ v us Q I rx rs ⟨_, _, rfl, rfl, by assumption, h⟩
    · exact h.elim
  · exact h.elim
def fExtend : V → List V → Hp → VK → Prop := fun x vs H Q => match x, vs with
  | .ref l, [.ref b] => match H l, H b with
    | some (.lst xs), some (.lst zs) => xs.length + zs.length ≤ sizeLine ∧ Q .non (upd H l (.lst (xs ++ zs)))
    | _, _ => False
  | _, _ => False
theorem mt_fExtend : MtR X "list.extend" fExtend := by
  intro pins s σ H x xs v us Q I rx rs h
  unfold fExtend at h
  split at h
  · split at h
    · exact mt_extend pins s σ H _ _ v us Q I rx rs ⟨_, _, _, _, rfl, rfl, by assumption, by assumption, h⟩
    · exact h.elim
  · exact h.elim
def fInsert : V → List V → Hp → VK → Prop := fun x vs H Q => match x, vs with
  | .ref l, [.int i, y] => match H l with
    | some (.lst xs) => xs.length < sizeLine ∧ 0 ≤ i ∧ i < 2 ^ 63 ∧ Q .non (upd H l (.lst (xs.take i.toNat ++ [y] ++ xs.drop i.toNat)))
    | _ => False
  | _, _ => False
theorem mt_fInsert : MtR X "list.insert" fInsert := by
  intro pins s σ H x xs v us Q I rx rs h
  unfold fInsert at h
  split at h
  · split at h
    · exact mt_insert pins s σ H _ _ v us Q I rx rs ⟨_, _, _, _, rfl, rfl, by assumption, h⟩
    · exact h.elim
  · exact h.elim
/-! ### dicts with text (and number) keys -/
def keyV : V → Option Key
  | .int i => some (.inl i)
  | .str z => some (.inr z)
  | _ => none
theorem keyV_kV {x : V} {k : Key} (h : keyV x = some k) : x = kV k := by
  cases x <;> first
    | (cases h; rfl)
    | cases h
def fGetK (td ty : TE) : TE := fun σ H Q => td σ H fun x H1 => ty σ H1 fun y H2 => match x, keyV y with
  | .ref a, some k => ∃ kvs v, Rd H2 a (.dK kvs) ∧ valV kvs k = some v ∧ Q v H2
  | _, _ => False
def fInK (neg : Bool) (ty td : TE) : TE := fun σ H Q => ty σ H fun y H1 => td σ H1 fun x H2 => match x, keyV y with
  | .ref a, some k => ∃ kvs, Rd H2 a (.dK kvs) ∧ Q (.bl (if neg = true then !(valV kvs k).isSome else (valV kvs k).isSome)) H2
  | _, _ => False
def sPutK (td ty tv : TE) : TS := fun D σ H => tv σ H fun v H1 => td σ H1 fun x H2 => ty σ H2 fun y H3 => match x, keyV y with
  | .ref a, some k => ∃ kvs, H3 a = some (.dK kvs) ∧ kvs.length < sizeLine ∧ D.nx σ (upd H3 a (.dK (putK kvs k v)))
  | _, _ => False
def sDelK (td ty : TE) : TS := fun D σ H => td σ H fun x H1 => ty σ H1 fun y H2 => match x, keyV y with
  | .ref a, some k => ∃ kvs, H2 a = some (.dK kvs) ∧ (valV kvs k).isSome = true ∧ D.nx σ (upd H2 a (.dK (dropK kvs k)))
  | _, _ => False
section
variable {o i value : Expr} {pos pos' tpos : Pos} {td ty tv : TE}
theorem pe_getK (hu : X.A.units + 1 < cLine) (ho : PE X o td) (hi : PE X i ty) (hs : NoSl i) : PE X (.Subscript o i pos) (fGetK td ty) :=
  pe_wk (pe_dget hu (pe_clos ho) (pe_clos hi) hs) fun σ H Q q => ⟨_, q, fun x H1 q => ⟨_, q, fun y H2 q => by
    split at q
    · obtain ⟨kvs, v, r, hv, q⟩ := q
      exact ⟨_, v, rfl, .inl ⟨kvs, _, r, keyV_kV (by assumption), hv.symm⟩, q⟩
    · exact q.elim⟩⟩
theorem pc_wk {op : CmpOp} {a b : Expr} {t t' : TE} (h : PC X op a b t) (w : ∀ σ H Q, t' σ H Q → t σ H Q) : PC X op a b t' := ⟨fun pins s σ H Q I q => h.run pins s σ H Q I (w σ H Q q)⟩
theorem pc_inK (hu : X.A.units + 1 < cLine) (hi : PE X i ty) (ho : PE X o td) : PC X .In i o (fInK false ty td) :=
  pc_wk (pc_din hu (pe_clos hi) (pe_clos ho)) fun σ H Q q => ⟨_, q, fun y H1 q => ⟨_, q, fun x H2 q => by
    split at q
    · obtain ⟨kvs, r, q⟩ := q
      exact ⟨_, _, rfl, .inl ⟨kvs, _, r, keyV_kV (by assumption), rfl⟩, q⟩
    · exact q.elim⟩⟩
theorem pc_notinK (hu : X.A.units + 1 < cLine) (hi : PE X i ty) (ho : PE X o td) : PC X .NotIn i o (fInK true ty td) :=
  pc_wk (pc_dnotin hu (pe_clos hi) (pe_clos ho)) fun σ H Q q => ⟨_, q, fun y H1 q => ⟨_, q, fun x H2 q => by
    split at q
    · obtain ⟨kvs, r, q⟩ := q
      exact ⟨_, _, rfl, .inl ⟨kvs, _, r, keyV_kV (by assumption), rfl⟩, q⟩
    · exact q.elim⟩⟩
theorem ps_putK (hu : X.A.units + 1 < cLine) (ho : PE X o td) (hi : PE X i ty) (hv : PE X value tv) (hs : swapsWith value (some (.Subscript o i pos')) pos.line X.env = pure false) :
    PS X (.Assign [.Subscript o i pos'] value pos) (sPutK td ty tv) :=
  ps_wk (ps_dput hu (pe_clos ho) (pe_clos hi) (pe_clos hv) hs) fun D σ H q => ⟨_, q, fun v H1 q => ⟨_, q, fun x H2 q => ⟨_, q, fun y H3 q => by
    split at q
    · obtain ⟨kvs, h1, h2, q⟩ := q
      exact ⟨_, _, rfl, .inl ⟨kvs, _, h1, keyV_kV (by assumption), h2, rfl⟩, q⟩
    · exact q.elim⟩⟩⟩
theorem ps_delK (ho : PE X o td) (hi : PE X i ty) : PS X (.Delete [.Subscript o i tpos] pos) (sDelK td ty) :=
  ps_wk (ps_ddel (pe_clos ho) (pe_clos hi)) fun D σ H q => ⟨_, q, fun x H1 q => ⟨_, q, fun y H2 q => by
    split at q
    · obtain ⟨kvs, h1, h2, q⟩ := q
      exact ⟨_, kvs, _, rfl, h1, keyV_kV (by assumption), h2, q⟩
    · exact q.elim⟩⟩
end
/-- list(d): the keys -/
def fListD : List V → Hp → VK → Prop := fun xs H Q => match xs with
  | [.ref a] => ∃ kvs, Rd H a (.dK kvs) ∧ ∀ p H1, H p = none → Same H H1 → H1 p = some (.lst (kvs.map fun kv => kV kv.1)) → Q (.ref p) H1
  | _ => False
theorem call_fListD (hc : X.calm = true) : CallR X (.type "list") fListD := by
  intro pins s σ H xs us Q I r h
  match xs, r, h with
  | [.ref a], r, ⟨kvs, h1, h2⟩ => exact call_listD hc pins s σ H _ us Q I r ⟨a, kvs, rfl, h1, fun p np => h2 p _ np (same_new np) upd_same⟩
/-! ### exceptions as values -/
def fMkV (C : Addr) (n : Nat) (flds : List V → List (Str × V)) (ta : TA) : TE := fun σ H Q => ta σ H fun vs H1 => vs.length = n ∧ ∀ a d H2, H1 a = none → H1 d = none → Same H1 H2 → H2 a = some (exo a C (some d)) → H2 d = some (exd d (flds vs)) → Q (.ref a) H2
theorem fe_mkV {C : Addr} {x : Str} {n : Nat} {flds : List V → List (Str × V)} {p pos : Pos} {e : Expr} {es : List Expr} {ta : TA} (h : HasE X.prog X.w X.K X.mg X.base C x n flds) (hn : n ≤ 1000) (hr : Room 2 X.A) (hg : Gl X x) (ha : PA X (e :: es) ta) (hdb : (x == ("__debug__" : Str)) = false := by decide)
    (he : starEach (e :: es) X.env = (false, eval e X.env) :: starEach es X.env := by rfl) (hpl : (backTo pos (starEach es X.env)).any (·.1) = false := by rfl) : PE X (.Call (.Name x p) (e :: es) [] pos) (fMkV C n flds ta) := by
  obtain ⟨f, fd, ps, F1, hb, iC, tI, hm, T⟩ := h.ex
  refine ⟨fun pins s σ H Q I h => ?_⟩
  obtain ⟨nm, q, N, bs, bm, sn, sub, ab, col, dd, k0, k1, k2, k3, k5, hC, hbm⟩ := T.cls
  refine wpAny_Call_Name_kw (ld_glob I hg hm ?_ hdb)
  refine PySem.W.callWith_K (h₀ := X.base) I.ok.mod.kin T.kC (thn (ha.run pos pins s σ H _ I h) fun us s1 ⟨vs, H1, I1, r1, hz, q1⟩ => ⟨I1.kIn, ?_⟩) he hpl
  show wpAny _ _ (call (.ref C) us) _ _ _
  obtain ⟨hp, g, dr, tk, os⟩ := s1
  have hsz : hp.objs.size ≤ hp.objs.size + 1 := Nat.le_succ _
  have hn1 : H1 (hp.objs.size + 1) = none := I1.hok.fresh hsz
  have hq : spInitE C n flds (V.ref (hp.objs.size + 1) :: vs) (upd H1 (hp.objs.size + 1) (exo (hp.objs.size + 1) C none)) (fun v H2 => v = .non ∧ Q (.ref (hp.objs.size + 1)) H2) (fun _ _ _ => False) :=
    ⟨_, vs, H1, rfl, hz, hn1, rfl, fun d H2 nd ne keep ea ed => ⟨rfl, q1 _ d H2 hn1 nd keep ea ed⟩⟩
  have kk : ∀ b o, hp.get? b = some o → ((hp.push (PySem.W.kdv_tup us)).push (PySem.HandSPX.excO C hp.objs.size)).get? b = some o := fun b o e => Heap.get?_push_of_some _ (Heap.get?_push_of_some _ e)
  have hget : ((hp.push (PySem.W.kdv_tup us)).push (PySem.HandSPX.excO C hp.objs.size)).get? (hp.objs.size + 1) = some (PySem.HandSPX.excO C hp.objs.size) := by heap_get
  have I2 : Inv X pins σ (upd H1 (hp.objs.size + 1) (exo (hp.objs.size + 1) C none)) ⟨(hp.push (PySem.W.kdv_tup us)).push (PySem.HandSPX.excO C hp.objs.size), g, dr, tk, os⟩ :=
    I1.laid (t' := tk) (a := hp.objs.size + 1) (o := exo (hp.objs.size + 1) C none) (h' := (hp.push (PySem.W.kdv_tup us)).push (PySem.HandSPX.excO C hp.objs.size)) kk hsz (exo_ok hget)
  have r2 : Vals (V.ref (hp.objs.size + 1) :: vs) (Value.ref (hp.objs.size + 1) :: us) := .cons rfl r1
  have hl : (Value.ref (hp.objs.size + 1) :: us).length = ps.length := by
    have e := r2.length
    rw [F1.len _ _ _ _ hq] at e
    exact e.symm
  have hus : us.length ≤ sizeLine := by
    rw [← Paired.length r1, sizeLine_eq]
    omega
  have hb' := hb ⟨(hp.push (PySem.W.kdv_tup us)).push (PySem.HandSPX.excO C hp.objs.size), g, dr, tk, os⟩ (Value.ref (hp.objs.size + 1) :: us) I2.kIn (by rw [List.append_nil]; exact hl)
  rw [List.append_nil] at hb'
  refine wpAny_call (PySem.HandSPX.call_own F.excBase_ValueError (fun Y => PySem.HandSPX.refsVE_contains Y bm hbm) (I1.kIn _ _ hC) (PySem.W.looks_findIn I1.kIn iC) (fun self => PySem.W.bind_fn I1.kIn self tI) hus
    (codeAny_mono (F1.run _ X.stack _ _ ⟨Value.ref (hp.objs.size + 1) :: us, []⟩ (Value.ref (hp.objs.size + 1) :: us) _ _ (fun _ _ _ => False) (hr.make C us []) (I2.env0.make C us []) hb' r2 hq) fun r s' hq' => ?_))
  cases r with
  | error er => exact hq'.elim
  | ok fl =>
    cases fl with
    | ret u =>
      obtain ⟨v, H', I3, rv, ev, q3⟩ := I2.after hq'
      subst ev
      exact ⟨rv, ⟨V.ref (hp.objs.size + 1), H', I3, rfl, q3⟩⟩
    | next => exact False.elim hq'
    | brk => exact False.elim hq'
    | cont => exact False.elim hq'
/-- an exception of class C with these fields, held -/
def IsExo (H : Hp) (a C : Addr) (fs : List (Str × V)) : Prop := ∃ d, H a = some (exo a C (some d)) ∧ H d = some (exd d fs)
theorem IsExo.same {H H' : Hp} {a C : Addr} {fs : List (Str × V)} (h : IsExo H a C fs) (s : Same H H') : IsExo H' a C fs := h.imp fun _ ⟨x, y⟩ => ⟨s _ _ x, s _ _ y⟩
theorem exo_inst {pins : List (Addr × Obj)} {σ : L2.St} {H : Hp} {s : Shared} {a C : Addr} {fs : List (Str × V)} (I : Inv X pins σ H s) (h : IsExo H a C fs) : ∃ (oe od : Obj) (mA : Str → Option Value), PySem.W.InstAt s.heap a oe C (some od) ∧ (∀ f, RelO (fs.lookup f) (mA f)) ∧ (∀ f, PySem.W.lookIn f od = some (mA f)) := by
  obtain ⟨d, e1, e2⟩ := h
  obtain ⟨t1, he⟩ := exo_at I.hok e1
  obtain ⟨mA, hns, rel⟩ := exd_at I.hok e2
  obtain ⟨od, ho, hl⟩ := lookIn_ns hns
  exact ⟨_, od, mA, ⟨he, rfl, rfl, ho⟩, rel, hl⟩
/-- e.f of such -/
def fXo (K : PySem.W.Frag) (cs : List Addr) (f : Str) (te : TE) : TE := fun σ H Q => te σ H fun x H1 => match x with
  | .ref a => ∃ C fs v, C ∈ cs ∧ IsExo H1 a C fs ∧ fs.lookup f = some v ∧ Q v H1
  | _ => False
theorem fe_xo {cs : List Addr} {e : Expr} {te : TE} {pos : Pos} {n : Str} (T : XPlain X.K cs n) (he : PE X e te) (hb : attributeBase e n X.env (eval e X.env) = eval e X.env) : PE X (.Attribute e n pos) (fXo X.K cs n te) := by
  refine ⟨fun pins s σ H Q I h => ?_⟩
  refine attr_of hb (thn (he.run pins s σ H _ I h) fun u s1 hh => ?_)
  obtain ⟨x, H1, I1, rx, q⟩ := hh
  match x, rx, q with
  | .ref a, rx, ⟨C, fs, v, m, hx, l, q⟩ =>
    obtain rfl : u = Value.ref a := rx
    obtain ⟨oe, od, mA, J, rel, hl⟩ := exo_inst I1 hx
    obtain ⟨u, hu, ru⟩ := RelO.some_of (v := v) (o := mA n) (by rw [← l]; exact rel n)
    exact HandSPX.exc_get I1.kIn J (T C m).1.ga (T C m).1.gg (T C m).1.exC (PySem.W.findObj_own (T C m).1.hdC (T C m).2 rfl (by rw [hl, hu])) (handed_of ru) ⟨v, H1, I1.tok _, ru, q⟩
/-- isinstance(e, C) of such -/
def fIsX (K : PySem.W.Frag) (cs : List Addr) : List V → Hp → VK → Prop := fun xs H Q => match xs with
  | [.ref a, .ref D] => ∃ C fs, C ∈ cs ∧ IsExo H a C fs ∧ ∃ b, PySem.W.kitOne K (.ref C) (.ref D) = some b ∧ Q (.bl b) H
  | _ => False
theorem call_fIsX {cs : List Addr} (F : ∀ C ∈ cs, ExcFact X.K C) (ob : ObjFact X.K) : CallR X (.builtin "isinstance") (fIsX X.K cs) := by
  intro pins s σ H xs us Q I r h
  match xs, r, h with
  | [.ref a, .ref D], r, ⟨C, fs, m, hx, b, e, q⟩ =>
    obtain ⟨u1, u2, rfl, r1, r2⟩ := vals2 r
    cases r1
    cases r2
    have FC := F C m
    have hcl : (PySem.W.clsIn X.K C).isSome = true := by
      obtain ⟨cd, hcd, _⟩ := PySem.W.any_some FC.hdC
      rw [hcd]; rfl
    obtain ⟨oe, od, mA, J, rel, hl⟩ := exo_inst I hx
    exact PySem.W.kia_one (PySem.W.kitx_exc hcl FC.ga FC.gg FC.exC FC.ci ob.gd ob.tk FC.mr) I.kIn J e (fun z => nomatch z) fun tk => ⟨.bl b, H, I.kept (t' := tk) fun _ _ z => z, rfl, q⟩
end
end Fx

set_option Elab.async false
set_option linter.all false
set_option maxRecDepth 100000
/-! Dk: displays of dicts with text keys, walks over their keys, by value, over Mr. -/
namespace Fx
open PySem PySem.Spec PyProof.Rows L2
/-! ### {"a": v, ..} -/
def fPairs : List (Key × TE) → L2.St → Hp → (List (Key × V) → Hp → Prop) → Prop
  | [], _, H, Q => Q [] H
  | (k, tv) :: r, σ, H, Q => tv σ H fun y H1 => fPairs r σ H1 fun ps H2 => Q ((k, y) :: ps) H2
abbrev FPs (X : Cx) (pos : Pos) (keys : List (Option Expr)) (values : List Expr) (trs : List (Key × TE)) : Prop := PPs X pos keys values (trs.map fun p => (tC (kV p.1), clos p.2))
theorem fps_nil {X : Cx} {pos : Pos} : FPs X pos [] [] [] := pps_nil
theorem fps_cons {X : Cx} {pos : Pos} {x : Str} {j : Nat} {p : Pos} {v : Expr} {ks : List (Option Expr)} {vs : List Expr} {tv : TE} {trs : List (Key × TE)} (hv : PE X v tv) (hr : FPs X pos ks vs trs) :
    FPs X pos (some (.Constant (.str x) j p) :: ks) (v :: vs) ((.inr x, tv) :: trs) := pps_cons pe_str (pe_clos hv) hr
theorem fPairs_t : ∀ {trs : List (Key × TE)} {σ : L2.St} {H : Hp} {R : List (Key × V) → Hp → Prop} {Q : List (V × V) → Hp → Prop}, fPairs trs σ H R → (∀ kvs H2, kvs.map (·.1) = trs.map (·.1) → R kvs H2 → Q (kvs.map fun kv => (kV kv.1, kv.2)) H2) → tPairs (trs.map fun p => (tC (kV p.1), clos p.2)) σ H Q
  | [], σ, H, R, Q, h, w => w [] H rfl h
  | (k, tv) :: r, σ, H, R, Q, h, w => ⟨_, h, fun y H1 q => fPairs_t q fun kvs H2 e z => w ((k, y) :: kvs) H2 (by rw [List.map_cons, List.map_cons, e]) z⟩
theorem mergeK_nd : ∀ (kvs acc : List (Key × V)), ((acc ++ kvs).map (·.1)).Nodup → mergeK acc kvs = acc ++ kvs
  | [], acc, _ => (List.append_nil acc).symm
  | p :: r, acc, h => by
    have hn : ¬ (acc.any fun kv => decide (kv.1 = p.1)) = true := by
      intro z
      obtain ⟨q, hq, e⟩ := List.any_eq_true.mp z
      have e := of_decide_eq_true e
      rw [List.map_append, List.nodup_append] at h
      exact h.2.2 _ (List.mem_map_of_mem hq) _ (List.mem_map_of_mem (List.mem_cons_self ..)) e
    have e1 : putK acc p.1 p.2 = acc ++ [p] := by unfold putK; rw [if_neg hn]
    show mergeK (putK acc p.1 p.2) r = _
    rw [e1, mergeK_nd r (acc ++ [p]) (by rw [List.append_assoc]; exact h), List.append_assoc]; rfl
def fDisp (trs : List (Key × TE)) : TE := fun σ H Q => ∀ p H0, H p = none → Same H H0 → H0 p = some (.dK []) → fPairs trs σ H0 fun kvs H2 => H2 p = some (.dK []) ∧ ∀ H3, H3 = upd H2 p (.dK kvs) → Q (.ref p) H3
theorem fe_disp {X : Cx} {pos : Pos} {keys : List (Option Expr)} {values : List Expr} {trs : List (Key × TE)} (h : FPs X pos keys values trs) (hn : (trs.map (·.1)).Nodup) (hall : keys.all (·.isSome) = true) (hl : keys.length = values.length) (h0 : keys ≠ [])
    (h15 : keys.length ≤ 15) (ht : trs.length ≤ 15) : PE X (.Dict keys values pos) (fDisp trs) :=
  pe_wk (pe_disp h hall hl h0 h15) fun σ H Q q p np => fPairs_t (q p _ np (same_new np) upd_same) fun kvs H2 e z => ⟨z.1, kvs, rfl, by
    have : kvs.length = trs.length := by have := congrArg List.length e; simpa using this
    omega, z.2 _ (by rw [mergeK_nd kvs [] (by rw [List.nil_append, e]; exact hn), List.nil_append])⟩
/-! ### for k in d -/
def iKeysK (td : TE) : TI := fun σ H R => td σ H fun x H1 => match x with
  | .ref d => ∃ o kvs, H1 d = some (.frz o (.dK kvs)) ∧ R (Itk d o kvs) H1
  | _ => False
theorem pi_keysK {X : Cx} {tg e : Expr} {td : TE} (he : PE X e td) : PI X tg e (iKeysK td) :=
  ⟨fun pins s σ H R I h => (pi_keys (pe_clos he)).run pins s σ H R I ⟨_, h, fun x H1 q => by
    match x, q with
    | .ref d, ⟨o, kvs, hd, q⟩ => exact ⟨d, o, rfl, .inl ⟨kvs, hd, q⟩⟩⟩⟩
theorem lcx_keysK {d0 : Addr} {o : Obj} {kvs : List (Key × V)} {g : TG} {tt : TT} {te : TE} {vs : List Nat} {σ : L2.St} {H1 : Hp} {D : Addr} {Q : VK} (Pv : Nat → Hp → Prop) (h0 : Pv 0 (upd H1 D (.lst []))) (hl : ∀ i H, i ≤ kvs.length → Pv i H → H d0 = some (.frz o (.dK kvs)))
    (hs : ∀ i k v H, kvs[i]? = some (k, v) → Pv i H → g (kV k) (wipe σ vs) H fun σ2 H2 => wipe σ2 vs = wipe σ vs ∧ tt σ2 H2 fun b H3 =>
      if b = true then te σ2 H3 fun y H4 => ∃ acc, H4 D = some (.lst acc) ∧ acc.length < sizeLine ∧ Pv (i + 1) (upd H4 D (.lst (acc ++ [y]))) else Pv (i + 1) H3) (hd : ∀ H, Pv kvs.length H → Q (.ref D) H) : Lc (Itk d0 o kvs) g tt te vs σ H1 D Q :=
  lc_it walk_keys Pv h0 hl (fun i x H H' hi p y => by
    obtain ⟨rfl, k, v, he, rfl⟩ := y
    exact hs i k v _ he p) hd
end Fx

set_option Elab.async false
set_option linter.all false
set_option maxRecDepth 100000
/-! Fk: one of two ways to read an expression (a method of several classes), copies of dicts. -/
namespace Fx
open PySem PySem.Spec PyProof.Rows L2
def tEither (t1 t2 : TE) : TE := fun σ H Q => t1 σ H Q ∨ t2 σ H Q
theorem pe_either {X : Cx} {e : Expr} {t1 t2 : TE} (h1 : PE X e t1) (h2 : PE X e t2) : PE X e (tEither t1 t2) := ⟨fun pins s σ H Q I q => q.elim (h1.run pins s σ H Q I) (h2.run pins s σ H Q I)⟩
/-- dict(d): a copy -/
def fDictD : List V → Hp → VK → Prop := fun xs H Q => match xs with
  | [.ref a] => ∃ kvs, Rd H a (.dK kvs) ∧ ∀ p H1, H p = none → Same H H1 → H1 p = some (.dK kvs) → Q (.ref p) H1
  | _ => False
theorem call_fDictD {X : Cx} : CallR X (.type "dict") fDictD := by
  intro pins s σ H xs us Q I r h
  match xs, r, h with
  | [.ref a], r, ⟨kvs, h1, h2⟩ =>
    obtain ⟨u, eu, rx⟩ := vals1 r
    subst eu
    cases rx
    exact d_copyOf I h1 fun p s' np I' => ⟨.ref p, _, I', rfl, h2 p _ np (same_new np) upd_same⟩
end Fx
namespace Fx
open PySem PySem.Spec PyProof.Rows L2
section
variable {X : Cx} {K : PySem.W.Frag}
theorem ix_fxK (h : X.K = K) : IxR X (fIx K) := h ▸ ix_fx
theorem call_fLenK (h : X.K = K) : CallR X (.builtin "len") (fLen K) := h ▸ call_fLen
theorem op_fAddK (h : X.K = K) : OpR X (binaryOp .Add) (fAdd K) := h ▸ op_fAdd
theorem sl_fxK (h : X.K = K) : SlR X (fSl K) := h ▸ sl_fx
theorem op_fEqK (hu : X.A.units + 64 < cLine) (h : X.K = K) : OpR X (compareOp .Eq) (fEq K false) := h ▸ op_fEq hu
theorem op_fNeK (hu : X.A.units + 64 < cLine) (h : X.K = K) : OpR X (compareOp .NotEq) (fEq K true) := h ▸ op_fNe hu
theorem op_fInK' (h : X.K = K) : OpR X (compareOp .In) (fIn K false) := h ▸ op_fIn
end
end Fx
namespace Fx
open PySem PySem.Spec PyProof.Rows L2
section
variable {X : Cx} {o e f : Expr} {apos cpos : Pos} {td ty tx : TE}
/-- sum of a list of whole numbers -/
def fSum : List V → Hp → VK → Prop := fun xs H Q => match xs with
  | [.ref a] => ∃ ns : List Int, H a = some (.lst (ns.map V.int)) ∧ Q (.int ns.sum) H
  | _ => False
theorem call_fSum (hc : X.calm = true) : CallR X (.builtin "sum") fSum := by
  intro pins s σ H xs us Q I r h
  match xs, r, h with
  | [.ref a], r, ⟨ns, h1, h2⟩ => exact cr_sum hc pins s σ H _ us Q I r ⟨a, ns, rfl, SqL.of h1, h2⟩
/-- d.get(k, x) -/
def fGetD (td ty tx : TE) : TE := fun σ H Q => td σ H fun x H1 => match x with
  | .ref a => (∃ kvs, Rd H1 a (.dK kvs)) ∧ ty σ H1 fun y H2 => tx σ H2 fun z H3 => match keyV y with
    | some k => ∃ kvs, Rd H3 a (.dK kvs) ∧ Q ((valV kvs k).getD z) H3
    | none => False
  | _ => False
theorem pe_getD (hu : X.A.units + 1 < cLine) (ho : PE X o td) (he : PE X e ty) (hf : PE X f tx) (m : M2 X o "get" apos e f cpos) : PE X (.Call (.Attribute o "get" apos) [e, f] [] cpos) (fGetD td ty tx) :=
  pe_wk (pe_dget2 hu (pe_clos ho) (pe_clos he) (pe_clos hf) m) fun σ H Q q => ⟨_, q, fun x H1 q => by
    split at q
    · rename_i a
      obtain ⟨⟨kvs, hd⟩, q⟩ := q
      exact ⟨a, rfl, .inl ⟨kvs, hd⟩, _, q, fun y H2 q => ⟨_, q, fun z H3 q => by
        split at q
        · obtain ⟨kvs', hd', q⟩ := q
          exact ⟨_, .inl ⟨kvs', _, hd', keyV_kV (by assumption), rfl⟩, q⟩
        · exact q.elim⟩⟩
    · exact q.elim⟩
end
/-! ### comprehensions of dicts -/
def Dc (J : It) (g : TG) (tt : TT) (tk tv : TE) (vs : List Nat) (σ : L2.St) (H1 : Hp) (D : Addr) (Q : VK) : Prop := ∃ W : Nat → Nat → Hp → Prop, (∃ m, W 0 m (upd H1 D (.dK []))) ∧ ∀ i m H, W i m H →
  (J.stop i H ∧ Q (.ref D) H) ∨ (J.go i H ∧ ∃ Nx : Hp → Prop, (∀ H', Nx H' → ∃ m', m' < m ∧ W (i + 1) m' H') ∧ ∀ x H', J.yld i H x H' → g x (wipe σ vs) H' fun σ2 H2 => wipe σ2 vs = wipe σ vs ∧ tt σ2 H2 fun b H3 =>
    if b = true then tk σ2 H3 fun y H4 => tv σ2 H4 fun z H5 => ∃ kvs k, y = kV k ∧ H5 D = some (.dK kvs) ∧ kvs.length < sizeLine ∧ Nx (upd H5 D (.dK (putK kvs k z))) else Nx H3)
theorem dc_ {wi : TI} {g : TG} {tt : TT} {tk tv : TE} {vs : List Nat} {σ : L2.St} {H : Hp} {Q : VK} (h : wi σ H fun J H1 => ∀ D, H1 D = none → Dc J g tt tk tv vs σ H1 D Q) : tDc wi g tt tk tv vs σ H Q := h
theorem dcx_tup {K : PySem.W.Frag} {a : Addr} {xs : List V} {g : TG} {tt : TT} {tk tv : TE} {vs : List Nat} {σ : L2.St} {H1 : Hp} {D : Addr} {Q : VK} (Pv : Nat → Hp → Prop) (h0 : Pv 0 (upd H1 D (.dK []))) (hl : ∀ i H, i ≤ xs.length → Pv i H → SqT K H a xs)
    (hs : ∀ i x H, xs[i]? = some x → Pv i H → g x (wipe σ vs) H fun σ2 H2 => wipe σ2 vs = wipe σ vs ∧ tt σ2 H2 fun b H3 =>
      if b = true then tk σ2 H3 fun y H4 => tv σ2 H4 fun z H5 => ∃ kvs k, y = kV k ∧ H5 D = some (.dK kvs) ∧ kvs.length < sizeLine ∧ Pv (i + 1) (upd H5 D (.dK (putK kvs k z))) else Pv (i + 1) H3) (hd : ∀ H, Pv xs.length H → Q (.ref D) H) : Dc (Itt K a) g tt tk tv vs σ H1 D Q :=
  dc_tup Pv h0 hl hs hd
end Fx
namespace Fx
open PySem PySem.Spec PyProof.Rows L2
def iEither (i1 i2 : TI) : TI := fun σ H R => i1 σ H R ∨ i2 σ H R
theorem pi_either {X : Cx} {tg e : Expr} {i1 i2 : TI} (h1 : PI X tg e i1) (h2 : PI X tg e i2) : PI X tg e (iEither i1 i2) := ⟨fun pins s σ H R I h => h.elim (h1.run pins s σ H R I) (h2.run pins s σ H R I)⟩
end Fx
namespace Fx
open PySem PySem.Spec PyProof.Rows L2
theorem lcx_tup {K : PySem.W.Frag} {a : Addr} {xs : List V} {g : TG} {tt : TT} {te : TE} {vs : List Nat} {σ : L2.St} {H1 : Hp} {D : Addr} {Q : VK} (Pv : Nat → Hp → Prop) (h0 : Pv 0 (upd H1 D (.lst []))) (hl : ∀ i H, i ≤ xs.length → Pv i H → SqT K H a xs)
    (hs : ∀ i x H, xs[i]? = some x → Pv i H → g x (wipe σ vs) H fun σ2 H2 => wipe σ2 vs = wipe σ vs ∧ tt σ2 H2 fun b H3 =>
      if b = true then te σ2 H3 fun y H4 => ∃ acc, H4 D = some (.lst acc) ∧ acc.length < sizeLine ∧ Pv (i + 1) (upd H4 D (.lst (acc ++ [y]))) else Pv (i + 1) H3) (hd : ∀ H, Pv xs.length H → Q (.ref D) H) : Lc (Itt K a) g tt te vs σ H1 D Q :=
  lc_it walk_tup Pv h0 hl (fun i x H H' hi p y => by
    obtain ⟨rfl, e⟩ := y
    exact hs i x _ e p) hd
end Fx
namespace Fx
open PySem PySem.Spec PyProof.Rows L2
/-- tuple(list) -/
def fTupOf : List V → Hp → VK → Prop := fun xs H Q => match xs with
  | [.ref p] => ∃ ys, H p = some (.lst ys) ∧ ∀ l H1, H l = none → Same H H1 → H1 l = some (.tup ys) → Q (.ref l) H1
  | _ => False
theorem call_fTupOf {X : Cx} : CallR X (.type "tuple") fTupOf := by
  intro pins s σ H xs us Q I r h
  match xs, r, h with
  | [.ref p], r, ⟨ys, h1, h2⟩ => exact call_tuple_of pins s σ H _ us Q I r ⟨p, ys, rfl, .inl ⟨SqL.of h1, fun l nl => h2 l _ nl (same_new nl) upd_same⟩⟩
end Fx

set_option Elab.async false
set_option linter.all false
set_option maxRecDepth 100000
set_option maxHeartbeats 1000000
namespace My
open PySem L2 Fx
local macro_rules | `(tactic| walk_at "fx") => `(tactic| try simp only [L2.start, List.map_cons, List.map_nil, List.length_cons, List.length_nil, Nat.reduceAdd, Nat.reduceSub, List.reduceReplicate, List.cons_append, List.nil_append, List.append_nil,
  tSeq, fVar, tVar, tC, tOp, tUn, tCons, tNil, fTup, fLst, tAsg, gName, tRet, tRetN, tDrop, tNext, tIf, tAnd, tOr, tNot, tTest, tB, tAug, tChain, tNotV, tAndV, tOrV, tSl, tPart, tNoPart, tCB, tCall, fBM, fBM0, tBreak, tCont, gTup, gCons, gNil,
  fAdd, fSub, fMul, fDiv, fMod, fNeg, fLt, fLe, fGt, fGe, fIx, fSl, fLen, fInt, fStr, fAbs, fMax, fMin, fOrd, fIsN, fNotN, fIsi, fListOf, isLst, isStr, isDct, fAppend, fS1, fJoin, fLstripC, fIAdd, fISub, fSet, tyOf, fEq, scal, fIn, iRng1, iRng2, iList, iTup, iStr, gSub, fGt_,
  List.getElem?_cons_zero, List.getElem?_cons_succ, List.set_cons_zero, List.set_cons_succ, upd_same, S_cps, S_len, L_S, one_list, flatV,
  V.int.injEq, V.str.injEq, V.bl.injEq, V.ref.injEq, Option.some.injEq, List.cons.injEq, exists_eq_left', exists_eq_left, exists_and_left, ex2, and_true, true_and, decide_eq_true_eq, Bool.not_eq_true', decide_eq_false_iff_not, Bool.false_eq_true, Bool.true_eq_false, Int.zero_add, Int.toNat_natCast, if_true, if_false, ite_true, ite_false, reduceIte, Int.reduceLT, Int.reduceLE, Int.reduceNeg, Int.reduceAdd, Nat.reduceLT, Nat.reduceLeDiff, Bool.not_true, Bool.not_false, kitBv, kitBs, not_true_eq_false, not_false_eq_true, Bool.or_false, Bool.false_or, Bool.or_true, Bool.true_or])
local macro_rules | `(tactic| walk_at "fx0") => `(tactic| try dsimp only [cxOf, Cx.nox, Cx.wish])
local macro_rules | `(tactic| walk_at "mul") => `(tactic| first | exact mul_left (by decide) (by decide) | exact mul_right (by decide) (by decide) | exact mul_left (by omega) (by omega) | exact mul_right (by omega) (by omega))
local macro_rules | `(tactic| walk_at "rm") => `(tactic| first | decide | exact Nat.le_refl _ | omega)
set_option hygiene false in
local macro_rules | `(tactic| walk_at "ox") => `(tactic| try simp only [WE_wOf, two, fTru, fLenD, fDisp, fPairs, iKeysK, fGetK, fInK, sPutK, sDelK, keyV, fListD, fDictD, fTupOf, fSum, fGetD, fMkV, fXo, fIsX, fPop, fPopAt, fReverse, fExtend, fInsert, fGetN, fInN, sPutN, sDelN, fNewN, fLenN, iKeysN, fProp, fRaise, fXf, fIsE, fMethS, tCallS, fFmt, fJs, fJoined, fDivZ, fGd_, fInD, fIxD, WE, wOf, fDead, sDead, upd2, wipe, tYes, fIsB, beq_self_eq_true, List.not_mem_nil, or_false, false_or, fDnew, T.ne, fFld, fSetF, fMeth, isOb, fIsiO, fIsiP, fIsiA, tyV2, okT, kit2, kits2, allIn, putF, List.lookup_cons, List.lookup_nil, keyEq, List.mem_cons, true_or, or_true, L2.start, List.map_cons, List.map_nil, List.length_cons, List.length_nil, Nat.reduceAdd, Nat.reduceSub, List.reduceReplicate, List.cons_append, List.nil_append, List.append_nil,
  tSeq, fVar, tVar, tC, tOp, tUn, tCons, tNil, fTup, fLst, tAsg, gName, tRet, tRetN, tDrop, tNext, tIf, tAnd, tOr, tNot, tTest, tB, tAug, tChain, tNotV, tAndV, tOrV, tSl, tPart, tNoPart, tCB, tCall, fBM, fBM0, tBreak, tCont, gTup, gCons, gNil,
  fAdd, fSub, fMul, fDiv, fMod, fNeg, fLt, fLe, fGt, fGe, fIx, fSl, fLen, fInt, fStr, fAbs, fMax, fMin, fOrd, fIsN, fNotN, fIsi, fListOf, isLst, isStr, isDct, fAppend, fS1, fJoin, fLstripC, fIAdd, fISub, fSet, tyOf, fEq, scal, fIn, iRng1, iRng2, iList, iTup, iStr, gSub, fGt_,
  List.getElem?_cons_zero, List.getElem?_cons_succ, List.set_cons_zero, List.set_cons_succ, upd_same, S_cps, S_len, L_S, one_list, flatV,
  V.int.injEq, V.str.injEq, V.bl.injEq, V.ref.injEq, Option.some.injEq, List.cons.injEq, exists_eq_left', exists_eq_left, exists_and_left, ex2, and_true, true_and, decide_eq_true_eq, Bool.not_eq_true', decide_eq_false_iff_not, Bool.false_eq_true, Bool.true_eq_false, Int.zero_add, Int.toNat_natCast, if_true, if_false, ite_true, ite_false, reduceIte, Int.reduceLT, Int.reduceLE, Int.reduceNeg, Int.reduceAdd, Nat.reduceLT, Nat.reduceLeDiff, Bool.not_true, Bool.not_false, kitBv, kitBs, not_true_eq_false, not_false_eq_true, Bool.or_false, Bool.false_or, Bool.or_true, Bool.true_or])
set_option hygiene false in
local macro_rules | `(tactic| walk_at "oxs") => `(tactic| simp only [tIfS, WE_wOf, two, fTru, fLenD, fDisp, fPairs, iKeysK, fGetK, fInK, sPutK, sDelK, keyV, fListD, fDictD, fTupOf, fSum, fGetD, fMkV, fXo, fIsX, fPop, fPopAt, fReverse, fExtend, fInsert, fGetN, fInN, sPutN, sDelN, fNewN, fLenN, iKeysN, fProp, fRaise, fXf, fIsE, fMethS, tCallS, fFmt, fJs, fJoined, fDivZ, fGd_, fInD, fIxD, WE, wOf, fDead, sDead,  reduceCtorEq, upd2, wipe, tYes, fIsB, beq_self_eq_true, List.not_mem_nil, or_false, false_or, fDnew, T.ne, fFld, fSetF, fMeth, isOb, fIsiO, fIsiP, fIsiA, tyV2, okT, kit2, kits2, allIn, putF, List.lookup_cons, List.lookup_nil, keyEq, List.mem_cons, true_or, or_true, L2.start, List.map_cons, List.map_nil, List.length_cons, List.length_nil, Nat.reduceAdd, Nat.reduceSub, List.reduceReplicate, List.cons_append, List.nil_append, List.append_nil,
  tSeq, fVar, tVar, tC, tOp, tUn, tCons, tNil, fTup, fLst, tAsg, gName, tRet, tRetN, tDrop, tNext, tIf, tAnd, tOr, tNot, tTest, tB, tAug, tChain, tNotV, tAndV, tOrV, tSl, tPart, tNoPart, tCB, tCall, fBM, fBM0, tBreak, tCont, gTup, gCons, gNil,
  fAdd, fSub, fMul, fDiv, fMod, fNeg, fLt, fLe, fGt, fGe, fIx, fSl, fLen, fInt, fStr, fAbs, fMax, fMin, fOrd, fIsN, fNotN, fIsi, fListOf, isLst, isStr, isDct, fAppend, fS1, fJoin, fLstripC, fIAdd, fISub, fSet, tyOf, fEq, scal, fIn, iRng1, iRng2, iList, iTup, iStr, gSub, fGt_,
  List.getElem?_cons_zero, List.getElem?_cons_succ, List.set_cons_zero, List.set_cons_succ, upd_same, S_cps, S_len, L_S, one_list, flatV,
  V.int.injEq, V.str.injEq, V.bl.injEq, V.ref.injEq, Option.some.injEq, List.cons.injEq, exists_eq_left', exists_eq_left, exists_and_left, ex2, and_true, true_and, decide_eq_true_eq, Bool.not_eq_true', decide_eq_false_iff_not, Bool.false_eq_true, Bool.true_eq_false, Int.zero_add, Int.toNat_natCast, if_true, if_false, ite_true, ite_false, reduceIte, Int.reduceLT, Int.reduceLE, Int.reduceNeg, Int.reduceAdd, Nat.reduceLT, Nat.reduceLeDiff, Bool.not_true, Bool.not_false, kitBv, kitBs, not_true_eq_false, not_false_eq_true, Bool.or_false, Bool.false_or, Bool.or_true, Bool.true_or])

def topS (i : Nat) : Stmt := PySem.Challenge.pw_livequill_k70_references_and_sizes.main.body.getD i (.Pass ⟨0, 0, 0, 0⟩)
abbrev s_Ref___init__ : Stmt := inClass (topS 2) 0
theorem sc_Ref___init__ : FnScope ["self", "number"] ["self", "number"] (defScope s_Ref___init__) := ⟨rfl, rfl, rfl, by decide +kernel, rfl, by decide +kernel, by decide +kernel⟩
abbrev s_Ref___eq__ : Stmt := inClass (topS 2) 1
theorem sc_Ref___eq__ : FnScope ["self", "other"] ["self", "other"] (defScope s_Ref___eq__) := ⟨rfl, rfl, rfl, by decide +kernel, rfl, by decide +kernel, by decide +kernel⟩
abbrev s_Builtin___init__ : Stmt := inClass (topS 3) 0
theorem sc_Builtin___init__ : FnScope ["self", "name"] ["self", "name"] (defScope s_Builtin___init__) := ⟨rfl, rfl, rfl, by decide +kernel, rfl, by decide +kernel, by decide +kernel⟩
abbrev s_Builtin___eq__ : Stmt := inClass (topS 3) 1
theorem sc_Builtin___eq__ : FnScope ["self", "other"] ["self", "other"] (defScope s_Builtin___eq__) := ⟨rfl, rfl, rfl, by decide +kernel, rfl, by decide +kernel, by decide +kernel⟩
abbrev s_key_of : Stmt := topS 5
theorem sc_key_of : FnScope ["value"] ["value"] (defScope s_key_of) := ⟨rfl, rfl, rfl, by decide +kernel, rfl, by decide +kernel, by decide +kernel⟩
abbrev s_Parts___init__ : Stmt := inClass (topS 6) 0
theorem sc_Parts___init__ : FnScope ["self", "held"] ["self", "held"] (defScope s_Parts___init__) := ⟨rfl, rfl, rfl, by decide +kernel, rfl, by decide +kernel, by decide +kernel⟩
abbrev s_Parts_fork : Stmt := inClass (topS 6) 1
theorem sc_Parts_fork : FnScope ["self"] ["self"] (defScope s_Parts_fork) := ⟨rfl, rfl, rfl, by decide +kernel, rfl, by decide +kernel, by decide +kernel⟩
abbrev s_Table___init__ : Stmt := inClass (topS 7) 0
theorem sc_Table___init__ : FnScope ["self"] ["self"] (defScope s_Table___init__) := ⟨rfl, rfl, rfl, by decide +kernel, rfl, by decide +kernel, by decide +kernel⟩
abbrev s_Table_many : Stmt := inClass (topS 7) 1
theorem sc_Table_many : FnScope ["self"] ["self"] (defScope s_Table_many) := ⟨rfl, rfl, rfl, by decide +kernel, rfl, by decide +kernel, by decide +kernel⟩
abbrev s_Table_has : Stmt := inClass (topS 7) 2
theorem sc_Table_has : FnScope ["self", "key"] ["self", "key"] (defScope s_Table_has) := ⟨rfl, rfl, rfl, by decide +kernel, rfl, by decide +kernel, by decide +kernel⟩
abbrev s_Table_value_of : Stmt := inClass (topS 7) 3
theorem sc_Table_value_of : FnScope ["self", "key"] ["self", "key"] (defScope s_Table_value_of) := ⟨rfl, rfl, rfl, by decide +kernel, rfl, by decide +kernel, by decide +kernel⟩
abbrev s_Table_put : Stmt := inClass (topS 7) 4
theorem sc_Table_put : FnScope ["self", "key", "value"] ["self", "key", "value"] (defScope s_Table_put) := ⟨rfl, rfl, rfl, by decide +kernel, rfl, by decide +kernel, by decide +kernel⟩
abbrev s_Table_take_out : Stmt := inClass (topS 7) 5
theorem sc_Table_take_out : FnScope ["self", "key"] ["self", "key"] (defScope s_Table_take_out) := ⟨rfl, rfl, rfl, by decide +kernel, rfl, by decide +kernel, by decide +kernel⟩
abbrev s_Table_pairs : Stmt := inClass (topS 7) 6
theorem sc_Table_pairs : FnScope ["self", "at"] ["self"] (defScope s_Table_pairs) := ⟨rfl, rfl, rfl, by decide +kernel, rfl, by decide +kernel, by decide +kernel⟩
abbrev s_Table_fork : Stmt := inClass (topS 7) 7
theorem sc_Table_fork : FnScope ["self"] ["self"] (defScope s_Table_fork) := ⟨rfl, rfl, rfl, by decide +kernel, rfl, by decide +kernel, by decide +kernel⟩
abbrev s_Instance___init__ : Stmt := inClass (topS 8) 0
theorem sc_Instance___init__ : FnScope ["self", "owner"] ["self", "owner"] (defScope s_Instance___init__) := ⟨rfl, rfl, rfl, by decide +kernel, rfl, by decide +kernel, by decide +kernel⟩
abbrev s_Instance_fork : Stmt := inClass (topS 8) 1
theorem sc_Instance_fork : FnScope ["self"] ["self"] (defScope s_Instance_fork) := ⟨rfl, rfl, rfl, by decide +kernel, rfl, by decide +kernel, by decide +kernel⟩
abbrev s_Kin___init__ : Stmt := inClass (topS 9) 0
theorem sc_Kin___init__ : FnScope ["self", "name", "parent"] ["self", "name", "parent"] (defScope s_Kin___init__) := ⟨rfl, rfl, rfl, by decide +kernel, rfl, by decide +kernel, by decide +kernel⟩
abbrev s_Kin_fork : Stmt := inClass (topS 9) 1
theorem sc_Kin_fork : FnScope ["self"] ["self"] (defScope s_Kin_fork) := ⟨rfl, rfl, rfl, by decide +kernel, rfl, by decide +kernel, by decide +kernel⟩
abbrev s_Closure___init__ : Stmt := inClass (topS 10) 0
theorem sc_Closure___init__ : FnScope ["self", "number", "wanted", "scope"] ["self", "number", "wanted", "scope"] (defScope s_Closure___init__) := ⟨rfl, rfl, rfl, by decide +kernel, rfl, by decide +kernel, by decide +kernel⟩
abbrev s_Closure_fork : Stmt := inClass (topS 10) 1
theorem sc_Closure_fork : FnScope ["self"] ["self"] (defScope s_Closure_fork) := ⟨rfl, rfl, rfl, by decide +kernel, rfl, by decide +kernel, by decide +kernel⟩
abbrev s_Bound___init__ : Stmt := inClass (topS 11) 0
theorem sc_Bound___init__ : FnScope ["self", "owner", "function"] ["self", "owner", "function"] (defScope s_Bound___init__) := ⟨rfl, rfl, rfl, by decide +kernel, rfl, by decide +kernel, by decide +kernel⟩
abbrev s_Bound_fork : Stmt := inClass (topS 11) 1
theorem sc_Bound_fork : FnScope ["self"] ["self"] (defScope s_Bound_fork) := ⟨rfl, rfl, rfl, by decide +kernel, rfl, by decide +kernel, by decide +kernel⟩
abbrev s_Variable___init__ : Stmt := inClass (topS 12) 0
theorem sc_Variable___init__ : FnScope ["self", "value"] ["self", "value"] (defScope s_Variable___init__) := ⟨rfl, rfl, rfl, by decide +kernel, rfl, by decide +kernel, by decide +kernel⟩
abbrev s_Variable_fork : Stmt := inClass (topS 12) 1
theorem sc_Variable_fork : FnScope ["self"] ["self"] (defScope s_Variable_fork) := ⟨rfl, rfl, rfl, by decide +kernel, rfl, by decide +kernel, by decide +kernel⟩
abbrev s_Cursor___init__ : Stmt := inClass (topS 13) 0
theorem sc_Cursor___init__ : FnScope ["self", "rest"] ["self", "rest"] (defScope s_Cursor___init__) := ⟨rfl, rfl, rfl, by decide +kernel, rfl, by decide +kernel, by decide +kernel⟩
abbrev s_Cursor_fork : Stmt := inClass (topS 13) 1
theorem sc_Cursor_fork : FnScope ["self"] ["self"] (defScope s_Cursor_fork) := ⟨rfl, rfl, rfl, by decide +kernel, rfl, by decide +kernel, by decide +kernel⟩
abbrev s_numbers_in : Stmt := topS 16
theorem sc_numbers_in : FnScope ["values", "value"] ["values"] (defScope s_numbers_in) := ⟨rfl, rfl, rfl, by decide +kernel, rfl, by decide +kernel, by decide +kernel⟩
abbrev s_values_of : Stmt := topS 17
theorem sc_values_of : FnScope ["thing", "name", "pair"] ["thing"] (defScope s_values_of) := ⟨rfl, rfl, rfl, by decide +kernel, rfl, by decide +kernel, by decide +kernel⟩
abbrev s_children_of : Stmt := topS 18
theorem sc_children_of : FnScope ["store", "number", "thing", "name"] ["store", "number"] (defScope s_children_of) := ⟨rfl, rfl, rfl, by decide +kernel, rfl, by decide +kernel, by decide +kernel⟩
abbrev s_sort_of : Stmt := topS 19
theorem sc_sort_of : FnScope ["store", "number", "thing"] ["store", "number"] (defScope s_sort_of) := ⟨rfl, rfl, rfl, by decide +kernel, rfl, by decide +kernel, by decide +kernel⟩
abbrev s_letters : Stmt := topS 20
theorem sc_letters : FnScope ["values", "value"] ["values"] (defScope s_letters) := ⟨rfl, rfl, rfl, by decide +kernel, rfl, by decide +kernel, by decide +kernel⟩
abbrev s_size_of : Stmt := topS 21
theorem sc_size_of : FnScope ["store", "number", "thing", "keys", "pair"] ["store", "number"] (defScope s_size_of) := ⟨rfl, rfl, rfl, by decide +kernel, rfl, by decide +kernel, by decide +kernel⟩
abbrev s_counts_of : Stmt := topS 23
theorem sc_counts_of : FnScope ["store", "counts", "number", "row", "sort"] ["store"] (defScope s_counts_of) := ⟨rfl, rfl, rfl, by decide +kernel, rfl, by decide +kernel, by decide +kernel⟩
abbrev s_Store___init__ : Stmt := inClass (topS 26) 0
theorem sc_Store___init__ : FnScope ["self", "lines"] ["self", "lines"] (defScope s_Store___init__) := ⟨rfl, rfl, rfl, by decide +kernel, rfl, by decide +kernel, by decide +kernel⟩
abbrev s_Store_make : Stmt := inClass (topS 26) 1
theorem sc_Store_make : FnScope ["self", "thing"] ["self", "thing"] (defScope s_Store_make) := ⟨rfl, rfl, rfl, by decide +kernel, rfl, by decide +kernel, by decide +kernel⟩
abbrev s_Store_at : Stmt := inClass (topS 26) 2
theorem sc_Store_at : FnScope ["self", "ref"] ["self", "ref"] (defScope s_Store_at) := ⟨rfl, rfl, rfl, by decide +kernel, rfl, by decide +kernel, by decide +kernel⟩
abbrev s_Store_fork : Stmt := inClass (topS 26) 3
theorem sc_Store_fork : FnScope ["self"] ["self"] (defScope s_Store_fork) := ⟨rfl, rfl, rfl, by decide +kernel, rfl, by decide +kernel, by decide +kernel⟩
abbrev s_law_cell : Stmt := topS 28
theorem sc_law_cell : FnScope ["script", "k"] ["script", "k"] (defScope s_law_cell) := ⟨rfl, rfl, rfl, by decide +kernel, rfl, by decide +kernel, by decide +kernel⟩
abbrev s_law_is_integer : Stmt := topS 29
theorem sc_law_is_integer : FnScope ["told"] ["told"] (defScope s_law_is_integer) := ⟨rfl, rfl, rfl, by decide +kernel, rfl, by decide +kernel, by decide +kernel⟩
abbrev s_law_begin : Stmt := topS 30
theorem sc_law_begin : FnScope ["script", "k"] ["script", "k"] (defScope s_law_begin) := ⟨rfl, rfl, rfl, by decide +kernel, rfl, by decide +kernel, by decide +kernel⟩
abbrev s_law_draw : Stmt := topS 31
theorem sc_law_draw : FnScope ["state", "many", "k", "cell", "prime", "mixed", "digit"] ["state", "many"] (defScope s_law_draw) := ⟨rfl, rfl, rfl, by decide +kernel, rfl, by decide +kernel, by decide +kernel⟩
abbrev s_law_pick : Stmt := topS 32
theorem sc_law_pick : FnScope ["state", "row"] ["state", "row"] (defScope s_law_pick) := ⟨rfl, rfl, rfl, by decide +kernel, rfl, by decide +kernel, by decide +kernel⟩
abbrev s_law_value : Stmt := topS 33
theorem sc_law_value : FnScope ["state", "many"] ["state", "many"] (defScope s_law_value) := ⟨rfl, rfl, rfl, by decide +kernel, rfl, by decide +kernel, by decide +kernel⟩
abbrev s_law_texts : Stmt := topS 34
theorem sc_law_texts : FnScope ["values", "size", "value"] ["values"] (defScope s_law_texts) := ⟨rfl, rfl, rfl, by decide +kernel, rfl, by decide +kernel, by decide +kernel⟩
abbrev s_law_refs : Stmt := topS 35
theorem sc_law_refs : FnScope ["values", "value"] ["values"] (defScope s_law_refs) := ⟨rfl, rfl, rfl, by decide +kernel, rfl, by decide +kernel, by decide +kernel⟩
abbrev s_law_row : Stmt := topS 36
theorem sc_law_row : FnScope ["state", "many", "values", "kind", "value", "k"] ["state", "many"] (defScope s_law_row) := ⟨rfl, rfl, rfl, by decide +kernel, rfl, by decide +kernel, by decide +kernel⟩
abbrev s_law_table : Stmt := topS 37
theorem sc_law_table : FnScope ["state", "many", "table", "keys", "values", "key", "value"] ["state", "many"] (defScope s_law_table) := ⟨rfl, rfl, rfl, by decide +kernel, rfl, by decide +kernel, by decide +kernel⟩
abbrev s_law_instance : Stmt := topS 38
theorem sc_law_instance : FnScope ["state", "many", "owner", "thing", "size", "children", "name", "value", "named"] ["state", "many"] (defScope s_law_instance) := ⟨rfl, rfl, rfl, by decide +kernel, rfl, by decide +kernel, by decide +kernel⟩
abbrev s_law_class : Stmt := topS 39
theorem sc_law_class : FnScope ["state", "many", "parent", "name", "thing", "children", "size", "word", "number", "methods"] ["state", "many"] (defScope s_law_class) := ⟨rfl, rfl, rfl, by decide +kernel, rfl, by decide +kernel, by decide +kernel⟩
abbrev s_law_made : Stmt := topS 40
theorem sc_law_made : FnScope ["state", "many", "kind", "first", "second", "scope", "k", "number"] ["state", "many"] (defScope s_law_made) := ⟨rfl, rfl, rfl, by decide +kernel, rfl, by decide +kernel, by decide +kernel⟩
abbrev s_law : Stmt := topS 41
theorem sc_law : FnScope ["script", "state", "store", "many", "rows", "k", "row", "sums", "children", "size", "before", "told", "sorts", "due"] ["script"] (defScope s_law) := ⟨rfl, rfl, rfl, by decide +kernel, rfl, by decide +kernel, by decide +kernel⟩
structure Cs where
  Ref : Addr
  Builtin : Addr
  Parts : Addr
  Table : Addr
  Instance : Addr
  Kin : Addr
  Closure : Addr
  Bound : Addr
  Variable : Addr
  Cursor : Addr
  Store : Addr
theorem keyEq : (("__eq__" : Str) == "name") = false ∧ ¬ (("__eq__" : Str) = "name") ∧ (("__eq__" : Str) == "number") = false ∧ ¬ (("__eq__" : Str) = "number") ∧ (("__init__" : Str) == "_rows") = false ∧ ¬ (("__init__" : Str) = "_rows") ∧ (("__init__" : Str) == "function") = false ∧ ¬ (("__init__" : Str) = "function") ∧ (("__init__" : Str) == "held") = false ∧ ¬ (("__init__" : Str) = "held") ∧ (("__init__" : Str) == "lines") = false ∧ ¬ (("__init__" : Str) = "lines") ∧ (("__init__" : Str) == "methods") = false ∧ ¬ (("__init__" : Str) = "methods") ∧ (("__init__" : Str) == "name") = false ∧ ¬ (("__init__" : Str) = "name") ∧ (("__init__" : Str) == "named") = false ∧ ¬ (("__init__" : Str) = "named") ∧ (("__init__" : Str) == "number") = false ∧ ¬ (("__init__" : Str) = "number") ∧ (("__init__" : Str) == "output") = false ∧ ¬ (("__init__" : Str) = "output") ∧ (("__init__" : Str) == "owner") = false ∧ ¬ (("__init__" : Str) = "owner") ∧ (("__init__" : Str) == "parent") = false ∧ ¬ (("__init__" : Str) = "parent") ∧ (("__init__" : Str) == "rest") = false ∧ ¬ (("__init__" : Str) = "rest") ∧ (("__init__" : Str) == "scope") = false ∧ ¬ (("__init__" : Str) = "scope") ∧ (("__init__" : Str) == "taken") = false ∧ ¬ (("__init__" : Str) = "taken") ∧ (("__init__" : Str) == "things") = false ∧ ¬ (("__init__" : Str) = "things") ∧ (("__init__" : Str) == "value") = false ∧ ¬ (("__init__" : Str) = "value") ∧ (("__init__" : Str) == "wanted") = false ∧ ¬ (("__init__" : Str) = "wanted") ∧ (("at" : Str) == "lines") = false ∧ ¬ (("at" : Str) = "lines") ∧ (("at" : Str) == "output") = false ∧ ¬ (("at" : Str) = "output") ∧ (("at" : Str) == "taken") = false ∧ ¬ (("at" : Str) = "taken") ∧ (("at" : Str) == "things") = false ∧ ¬ (("at" : Str) = "things") ∧ (("fork" : Str) == "_rows") = false ∧ ¬ (("fork" : Str) = "_rows") ∧ (("fork" : Str) == "function") = false ∧ ¬ (("fork" : Str) = "function") ∧ (("fork" : Str) == "held") = false ∧ ¬ (("fork" : Str) = "held") ∧ (("fork" : Str) == "lines") = false ∧ ¬ (("fork" : Str) = "lines") ∧ (("fork" : Str) == "methods") = false ∧ ¬ (("fork" : Str) = "methods") ∧ (("fork" : Str) == "name") = false ∧ ¬ (("fork" : Str) = "name") ∧ (("fork" : Str) == "named") = false ∧ ¬ (("fork" : Str) = "named") ∧ (("fork" : Str) == "number") = false ∧ ¬ (("fork" : Str) = "number") ∧ (("fork" : Str) == "output") = false ∧ ¬ (("fork" : Str) = "output") ∧ (("fork" : Str) == "owner") = false ∧ ¬ (("fork" : Str) = "owner") ∧ (("fork" : Str) == "parent") = false ∧ ¬ (("fork" : Str) = "parent") ∧ (("fork" : Str) == "rest") = false ∧ ¬ (("fork" : Str) = "rest") ∧ (("fork" : Str) == "scope") = false ∧ ¬ (("fork" : Str) = "scope") ∧ (("fork" : Str) == "taken") = false ∧ ¬ (("fork" : Str) = "taken") ∧ (("fork" : Str) == "things") = false ∧ ¬ (("fork" : Str) = "things") ∧ (("fork" : Str) == "value") = false ∧ ¬ (("fork" : Str) = "value") ∧ (("fork" : Str) == "wanted") = false ∧ ¬ (("fork" : Str) = "wanted") ∧ (("function" : Str) == "owner") = false ∧ ¬ (("function" : Str) = "owner") ∧ (("has" : Str) == "_rows") = false ∧ ¬ (("has" : Str) = "_rows") ∧ (("lines" : Str) == "output") = false ∧ ¬ (("lines" : Str) = "output") ∧ (("lines" : Str) == "taken") = false ∧ ¬ (("lines" : Str) = "taken") ∧ (("lines" : Str) == "things") = false ∧ ¬ (("lines" : Str) = "things") ∧ (("make" : Str) == "lines") = false ∧ ¬ (("make" : Str) = "lines") ∧ (("make" : Str) == "output") = false ∧ ¬ (("make" : Str) = "output") ∧ (("make" : Str) == "taken") = false ∧ ¬ (("make" : Str) = "taken") ∧ (("make" : Str) == "things") = false ∧ ¬ (("make" : Str) = "things") ∧ (("many" : Str) == "_rows") = false ∧ ¬ (("many" : Str) = "_rows") ∧ (("methods" : Str) == "name") = false ∧ ¬ (("methods" : Str) = "name") ∧ (("methods" : Str) == "parent") = false ∧ ¬ (("methods" : Str) = "parent") ∧ (("name" : Str) == "methods") = false ∧ ¬ (("name" : Str) = "methods") ∧ (("name" : Str) == "parent") = false ∧ ¬ (("name" : Str) = "parent") ∧ (("named" : Str) == "owner") = false ∧ ¬ (("named" : Str) = "owner") ∧ (("number" : Str) == "scope") = false ∧ ¬ (("number" : Str) = "scope") ∧ (("number" : Str) == "wanted") = false ∧ ¬ (("number" : Str) = "wanted") ∧ (("output" : Str) == "lines") = false ∧ ¬ (("output" : Str) = "lines") ∧ (("output" : Str) == "taken") = false ∧ ¬ (("output" : Str) = "taken") ∧ (("output" : Str) == "things") = false ∧ ¬ (("output" : Str) = "things") ∧ (("owner" : Str) == "function") = false ∧ ¬ (("owner" : Str) = "function") ∧ (("owner" : Str) == "named") = false ∧ ¬ (("owner" : Str) = "named") ∧ (("pairs" : Str) == "_rows") = false ∧ ¬ (("pairs" : Str) = "_rows") ∧ (("parent" : Str) == "methods") = false ∧ ¬ (("parent" : Str) = "methods") ∧ (("parent" : Str) == "name") = false ∧ ¬ (("parent" : Str) = "name") ∧ (("put" : Str) == "_rows") = false ∧ ¬ (("put" : Str) = "_rows") ∧ (("scope" : Str) == "number") = false ∧ ¬ (("scope" : Str) = "number") ∧ (("scope" : Str) == "wanted") = false ∧ ¬ (("scope" : Str) = "wanted") ∧ (("take_out" : Str) == "_rows") = false ∧ ¬ (("take_out" : Str) = "_rows") ∧ (("taken" : Str) == "lines") = false ∧ ¬ (("taken" : Str) = "lines") ∧ (("taken" : Str) == "output") = false ∧ ¬ (("taken" : Str) = "output") ∧ (("taken" : Str) == "things") = false ∧ ¬ (("taken" : Str) = "things") ∧ (("things" : Str) == "lines") = false ∧ ¬ (("things" : Str) = "lines") ∧ (("things" : Str) == "output") = false ∧ ¬ (("things" : Str) = "output") ∧ (("things" : Str) == "taken") = false ∧ ¬ (("things" : Str) = "taken") ∧ (("value_of" : Str) == "_rows") = false ∧ ¬ (("value_of" : Str) = "_rows") ∧ (("wanted" : Str) == "number") = false ∧ ¬ (("wanted" : Str) = "number") ∧ (("wanted" : Str) == "scope") = false ∧ ¬ (("wanted" : Str) = "scope") := by (repeat' apply And.intro) <;> decide +kernel
--!none range len int isinstance bool list tuple str abs min max dict sum
structure Txt (K : PySem.W.Frag) (mg : Str → Option Value) (c : Cs) : Prop where
  no_abs : mg "abs" = none
  no_bool : mg "bool" = none
  no_dict : mg "dict" = none
  no_int : mg "int" = none
  no_isinstance : mg "isinstance" = none
  no_len : mg "len" = none
  no_list : mg "list" = none
  no_max : mg "max" = none
  no_min : mg "min" = none
  no_range : mg "range" = none
  no_str : mg "str" = none
  no_sum : mg "sum" = none
  no_tuple : mg "tuple" = none
  g_ERROR : ∃ t, mg "ERROR" = some (.str "Error" t)
  g_SORTS : GTup K mg "SORTS" [.str "variable", .str "list", .str "map", .str "instance", .str "class", .str "function", .str "method", .str "iterator"]
  mg_Ref : mg "Ref" = some (.ref c.Ref)
  cl_Ref : Cls K c.Ref
  mk_Ref : MkAt K mg "Ref" c.Ref
  mg_Builtin : mg "Builtin" = some (.ref c.Builtin)
  cl_Builtin : Cls K c.Builtin
  mk_Builtin : MkAt K mg "Builtin" c.Builtin
  mg_Parts : mg "Parts" = some (.ref c.Parts)
  cl_Parts : Cls K c.Parts
  mk_Parts : MkAt K mg "Parts" c.Parts
  mg_Table : mg "Table" = some (.ref c.Table)
  cl_Table : Cls K c.Table
  mk_Table : MkAt K mg "Table" c.Table
  mg_Instance : mg "Instance" = some (.ref c.Instance)
  cl_Instance : Cls K c.Instance
  mk_Instance : MkAt K mg "Instance" c.Instance
  mg_Kin : mg "Kin" = some (.ref c.Kin)
  cl_Kin : Cls K c.Kin
  mk_Kin : MkAt K mg "Kin" c.Kin
  mg_Closure : mg "Closure" = some (.ref c.Closure)
  cl_Closure : Cls K c.Closure
  mk_Closure : MkAt K mg "Closure" c.Closure
  mg_Bound : mg "Bound" = some (.ref c.Bound)
  cl_Bound : Cls K c.Bound
  mk_Bound : MkAt K mg "Bound" c.Bound
  mg_Variable : mg "Variable" = some (.ref c.Variable)
  cl_Variable : Cls K c.Variable
  mk_Variable : MkAt K mg "Variable" c.Variable
  mg_Cursor : mg "Cursor" = some (.ref c.Cursor)
  cl_Cursor : Cls K c.Cursor
  mk_Cursor : MkAt K mg "Cursor" c.Cursor
  mg_Store : mg "Store" = some (.ref c.Store)
  cl_Store : Cls K c.Store
  mk_Store : MkAt K mg "Store" c.Store
  pl__rows : Plain K [c.Table] "_rows"
  pl_function : Plain K [c.Bound] "function"
  pl_held : Plain K [c.Parts] "held"
  pl_lines : Plain K [c.Store] "lines"
  pl_methods : Plain K [c.Kin] "methods"
  pl_name : Plain K [c.Builtin, c.Kin] "name"
  pl_named : Plain K [c.Instance] "named"
  pl_number : Plain K [c.Ref, c.Closure] "number"
  pl_output : Plain K [c.Store] "output"
  pl_owner : Plain K [c.Instance, c.Bound] "owner"
  pl_parent : Plain K [c.Kin] "parent"
  pl_rest : Plain K [c.Cursor] "rest"
  pl_scope : Plain K [c.Closure] "scope"
  pl_taken : Plain K [c.Store] "taken"
  pl_things : Plain K [c.Store] "things"
  pl_value : Plain K [c.Variable] "value"
  pl_wanted : Plain K [c.Closure] "wanted"
  ob : ObjFact K
  kit : Kit K [c.Ref, c.Builtin, c.Parts, c.Table, c.Instance, c.Kin, c.Closure, c.Bound, c.Variable, c.Cursor, c.Store] [c.Table, c.Variable, c.Parts, c.Cursor, c.Instance, c.Kin, c.Closure, c.Bound, c.Ref, c.Builtin]
  ne : (c.Ref = c.Builtin) = False ∧ (c.Ref = c.Parts) = False ∧ (c.Ref = c.Table) = False ∧ (c.Ref = c.Instance) = False ∧ (c.Ref = c.Kin) = False ∧ (c.Ref = c.Closure) = False ∧ (c.Ref = c.Bound) = False ∧ (c.Ref = c.Variable) = False ∧ (c.Ref = c.Cursor) = False ∧ (c.Ref = c.Store) = False ∧ (c.Builtin = c.Ref) = False ∧ (c.Builtin = c.Parts) = False ∧ (c.Builtin = c.Table) = False ∧ (c.Builtin = c.Instance) = False ∧ (c.Builtin = c.Kin) = False ∧ (c.Builtin = c.Closure) = False ∧ (c.Builtin = c.Bound) = False ∧ (c.Builtin = c.Variable) = False ∧ (c.Builtin = c.Cursor) = False ∧ (c.Builtin = c.Store) = False ∧ (c.Parts = c.Ref) = False ∧ (c.Parts = c.Builtin) = False ∧ (c.Parts = c.Table) = False ∧ (c.Parts = c.Instance) = False ∧ (c.Parts = c.Kin) = False ∧ (c.Parts = c.Closure) = False ∧ (c.Parts = c.Bound) = False ∧ (c.Parts = c.Variable) = False ∧ (c.Parts = c.Cursor) = False ∧ (c.Parts = c.Store) = False ∧ (c.Table = c.Ref) = False ∧ (c.Table = c.Builtin) = False ∧ (c.Table = c.Parts) = False ∧ (c.Table = c.Instance) = False ∧ (c.Table = c.Kin) = False ∧ (c.Table = c.Closure) = False ∧ (c.Table = c.Bound) = False ∧ (c.Table = c.Variable) = False ∧ (c.Table = c.Cursor) = False ∧ (c.Table = c.Store) = False ∧ (c.Instance = c.Ref) = False ∧ (c.Instance = c.Builtin) = False ∧ (c.Instance = c.Parts) = False ∧ (c.Instance = c.Table) = False ∧ (c.Instance = c.Kin) = False ∧ (c.Instance = c.Closure) = False ∧ (c.Instance = c.Bound) = False ∧ (c.Instance = c.Variable) = False ∧ (c.Instance = c.Cursor) = False ∧ (c.Instance = c.Store) = False ∧ (c.Kin = c.Ref) = False ∧ (c.Kin = c.Builtin) = False ∧ (c.Kin = c.Parts) = False ∧ (c.Kin = c.Table) = False ∧ (c.Kin = c.Instance) = False ∧ (c.Kin = c.Closure) = False ∧ (c.Kin = c.Bound) = False ∧ (c.Kin = c.Variable) = False ∧ (c.Kin = c.Cursor) = False ∧ (c.Kin = c.Store) = False ∧ (c.Closure = c.Ref) = False ∧ (c.Closure = c.Builtin) = False ∧ (c.Closure = c.Parts) = False ∧ (c.Closure = c.Table) = False ∧ (c.Closure = c.Instance) = False ∧ (c.Closure = c.Kin) = False ∧ (c.Closure = c.Bound) = False ∧ (c.Closure = c.Variable) = False ∧ (c.Closure = c.Cursor) = False ∧ (c.Closure = c.Store) = False ∧ (c.Bound = c.Ref) = False ∧ (c.Bound = c.Builtin) = False ∧ (c.Bound = c.Parts) = False ∧ (c.Bound = c.Table) = False ∧ (c.Bound = c.Instance) = False ∧ (c.Bound = c.Kin) = False ∧ (c.Bound = c.Closure) = False ∧ (c.Bound = c.Variable) = False ∧ (c.Bound = c.Cursor) = False ∧ (c.Bound = c.Store) = False ∧ (c.Variable = c.Ref) = False ∧ (c.Variable = c.Builtin) = False ∧ (c.Variable = c.Parts) = False ∧ (c.Variable = c.Table) = False ∧ (c.Variable = c.Instance) = False ∧ (c.Variable = c.Kin) = False ∧ (c.Variable = c.Closure) = False ∧ (c.Variable = c.Bound) = False ∧ (c.Variable = c.Cursor) = False ∧ (c.Variable = c.Store) = False ∧ (c.Cursor = c.Ref) = False ∧ (c.Cursor = c.Builtin) = False ∧ (c.Cursor = c.Parts) = False ∧ (c.Cursor = c.Table) = False ∧ (c.Cursor = c.Instance) = False ∧ (c.Cursor = c.Kin) = False ∧ (c.Cursor = c.Closure) = False ∧ (c.Cursor = c.Bound) = False ∧ (c.Cursor = c.Variable) = False ∧ (c.Cursor = c.Store) = False ∧ (c.Store = c.Ref) = False ∧ (c.Store = c.Builtin) = False ∧ (c.Store = c.Parts) = False ∧ (c.Store = c.Table) = False ∧ (c.Store = c.Instance) = False ∧ (c.Store = c.Kin) = False ∧ (c.Store = c.Closure) = False ∧ (c.Store = c.Bound) = False ∧ (c.Store = c.Variable) = False ∧ (c.Store = c.Cursor) = False
section
variable {P : Program} {w : World} {K : PySem.W.Frag} {mg : Str → Option Value} {base : Heap} {c : Cs}
/-- the law's own state: a number, a place, the script; H0: the heap at the law's start -/
structure Dr (K : PySem.W.Frag) (H0 : Hp) (s sc : Addr) (ns : List Int) (H : Hp) : Prop where
  st : ∃ a k : Int, H s = some (.lst [.int a, .int k, .ref sc]) ∧ 0 ≤ a ∧ 0 ≤ k
  sq : SqL K H0 sc (ns.map V.int)
  sm : Same H0 H
  nw : H0 s = none
  le : ns.length ≤ 63
theorem same_keep {H0 H H' : Hp} {ps : List Addr} (s : Same H0 H) (k : Keep ps H H') (n : ∀ q ∈ ps, H0 q = none) : Same H0 H' := fun a o e => k a o (fun m => by rw [n a m] at e; cases e) (s a o e)
theorem Dr.keep {H0 : Hp} {s sc : Addr} {ns : List Int} {ps : List Addr} {H H' : Hp} (d : Dr K H0 s sc ns H) (k : Keep ps H H') (n1 : s ∉ ps) (n2 : ∀ q ∈ ps, H0 q = none) : Dr K H0 s sc ns H' := by
  obtain ⟨a, j, e, h1, h2⟩ := d.st
  exact ⟨⟨a, j, k _ _ n1 e, h1, h2⟩, d.sq, same_keep d.sm k n2, d.nw, d.le⟩
theorem Dr.same {H0 : Hp} {s sc : Addr} {ns : List Int} {H H' : Hp} (d : Dr K H0 s sc ns H) (k : Same H H') : Dr K H0 s sc ns H' := d.keep (Keep.of (ps := []) k) (by simp) (fun _ h => by cases h)
def spCell (K : PySem.W.Frag) : Sp := fun vs H Q _ => match vs with
  | [.ref a, .int k] => ∃ ns : List Int, SqL K H a (ns.map V.int) ∧ ns.length ≤ 63 ∧ 0 ≤ k ∧ ∀ v : Int, Q (.int v) H
  | _ => False
theorem ok_cell (A : At K mg "_law_cell" "_law_cell" s_law_cell ["script", "k"]) (T : Txt K mg c) : Has P w K mg base CX0 "_law_cell" 1 ["script", "k"] (spCell K) := by
  have Sc := sc_law_cell
  refine has_of A Sc (fun vs H Q E h => ?_) (fun cdv f A outer s H vs Q E hr h => ?_)
  · unfold spCell at h; split at h; rfl; cases h
  · unfold spCell at h
    split at h
    · rename_i a k
      obtain ⟨ns, hS, hn, h0, kk⟩ := h
      refine ⟨_, (pss_cons (ps_if (pt_cmpR op_fLt (fe_var 1) (pe_callB call_fLen (by rfl) T.no_len (by decide +kernel) (pa_cons (fe_var 0) pa_nil)) (nomark _)) (pss_one (ps_ret (pe_ix ix_fx (fe_var 0) (fe_var 1) (fun _ _ => rfl)))) pss_nil)
      (pss_one (ps_ret pe_int))), ?_⟩
      walk_at "fx0"
      walk_at "fx"
      refine ifs_ ?_
      walk_at "fx"
      refine ⟨_, .inl hS, ?_⟩
      rw [List.length_map]
      split
      · rename_i hlt
        obtain ⟨z, ez⟩ := at_ints (ns := ns) (i := k) h0 hlt
        exact ⟨_, .inl hS, _, ez, kk z⟩
      · exact kk 0
    · cases h
def spBegin (K : PySem.W.Frag) : Sp := fun vs H Q _ => match vs with
  | [.ref a, .int k] => 0 ≤ k ∧ ∀ s H1, H s = none → Same H H1 → H1 s = some (.lst [.int 0, .int k, .ref a]) → Q (.ref s) H1
  | _ => False
theorem ok_begin (A : At K mg "_law_begin" "_law_begin" s_law_begin ["script", "k"]) (T : Txt K mg c) : Has P w K mg base CX0 "_law_begin" 1 ["script", "k"] (spBegin K) := by
  have Sc := sc_law_begin
  refine has_of A Sc (fun vs H Q E h => ?_) (fun cdv f A outer s H vs Q E hr h => ?_)
  · unfold spBegin at h; split at h; rfl; cases h
  · unfold spBegin at h
    split at h
    · rename_i a k
      obtain ⟨h0, kk⟩ := h
      refine ⟨_, (pss_one (ps_ret (fe_lst (pa_cons pe_int (pa_cons (fe_var 1) (pa_cons (fe_var 0) pa_nil)))))), ?_⟩
      walk_at "fx0"
      walk_at "fx"
      exact kk
    · cases h
def spDraw (K : PySem.W.Frag) : Sp := fun vs H Q _ => match vs with
  | [.ref s, .int m] => ∃ H0 sc ns, Dr K H0 s sc ns H ∧ 0 < m ∧ m < 1000000000000000000000000000000 ∧ ∀ H1 (d : Int), Keep [s] H H1 → Dr K H0 s sc ns H1 → 0 ≤ d → d < m → Q (.int d) H1
  | _ => False
theorem big_mul {i : Int} (h0 : 0 ≤ i) (h : i < 2 ^ 100) : IntMulOk i i := by
  have b : Builtin.Int.intBits i ≤ 128 := by
    unfold Builtin.Int.intBits
    by_cases hz : i = 0
    · subst hz; decide
    · rw [if_neg (by simpa using hz)]
      have : i.natAbs.log2 < 100 := (Nat.log2_lt (by omega)).mpr (by omega)
      omega
  exact IntMulOk.of_le b b (by decide)
theorem ok_draw (A : At K mg "_law_draw" "_law_draw" s_law_draw ["state", "many"]) (T : Txt K mg c) (H_law_cell : Has P w K mg base CX0 "_law_cell" 1 ["script", "k"] (spCell K)) : Has P w K mg base CX0 "_law_draw" 2 ["state", "many"] (spDraw K) := by
  have Sc := sc_law_draw
  refine has_of A Sc (fun vs H Q E h => ?_) (fun cdv f A outer s H vs Q E hr h => ?_)
  · unfold spDraw at h; split at h; rfl; cases h
  · unfold spDraw at h
    split at h
    · rename_i st m
      obtain ⟨H0, sc, ns, D, h0, h1, kk⟩ := h
      obtain ⟨x, k, es, hx, hk⟩ := D.st
      refine ⟨_, (pss_cons (ps_if (pt_cmpR op_fLt (pe_ix ix_fx (fe_var 0) pe_int (fun _ _ => rfl)) (fe_var 1) (nomark _)) (pss_cons (ps_set (i := 2) Sc.nd rfl (.inl rfl) (pe_ix ix_fx (fe_var 0) pe_int (fun _ _ => rfl)))
      (pss_cons (ps_set (i := 3) Sc.nd rfl (.inl rfl) (fe_call H_law_cell (hr.mono (by walk_at "rm")) (by rfl) pass0 (pa_cons (pe_ix ix_fx (fe_var 0) pe_int (fun _ _ => rfl)) (pa_cons (fe_var 2) pa_nil))))
      (pss_cons (ps_set (i := 4) Sc.nd rfl (.inl rfl) pe_int)
      (pss_cons (ps_asg (pe_op op_fAdd (fe_var 2) pe_int) (pg_sub (fe_var 0) pe_int set_fx))
      (pss_cons (ps_asg (pe_callB call_fAbs (by rfl) T.no_abs (by decide +kernel) (pa_cons (fe_var 3) pa_nil)) (pg_sub (fe_var 0) pe_int set_fx))
      (pss_one (ps_if (pt_chain op_fLt op_fLt (pe_un un_fNeg pe_int) (fe_var 3) pe_int) (pss_cons (ps_set (i := 5) Sc.nd rfl (.inl rfl) (pe_op op_fMod (pe_callTy call_fInt (by rfl) T.no_int (by decide +kernel) (pa_cons (pe_op op_fAdd (pe_op op_fMul (fe_var 3) pe_int) (pe_op op_fMul (pe_op op_fAdd (fe_var 2) pe_int) pe_int)) pa_nil)) (fe_var 4)))
      (pss_one (ps_asg (pe_op op_fAdd (pe_op op_fMod (pe_callTy call_fInt (by rfl) T.no_int (by decide +kernel) (pa_cons (pe_op op_fAdd (pe_op op_fAdd (pe_op op_fMul (fe_var 5) (fe_var 5)) (pe_op op_fMul pe_int (fe_var 5))) (fe_var 2)) pa_nil)) (fe_var 4)) (fe_var 4)) (pg_sub (fe_var 0) pe_int set_fx)))) pss_nil))))))) pss_nil)
      (pss_cons (ps_set (i := 6) Sc.nd rfl (.inl rfl) (pe_op op_fMod (pe_callTy call_fInt (by rfl) T.no_int (by decide +kernel) (pa_cons (pe_ix ix_fx (fe_var 0) pe_int (fun _ _ => rfl)) pa_nil)) (fe_var 1)))
      (pss_cons (ps_asg (pe_op op_fDiv (pe_ix ix_fx (fe_var 0) pe_int (fun _ _ => rfl)) (fe_var 1)) (pg_sub (fe_var 0) pe_int set_fx))
      (pss_one (ps_ret (fe_var 6)))))), ?_⟩
      walk_at "fx0"
      walk_at "fx"
      refine cut_ fun N hN => ifs_ ?_
      walk_at "fx"
      refine ⟨_, rl_l es, _, atI_nat (j := 0) rfl, ?_⟩
      walk_at "fx"
      have fin : ∀ (y : Int) (k' : Int) (v2 v3 v4 v5 : Option V) (H1 : Hp), Keep [st] H H1 → H1 st = some (.lst [.int y, .int k', .ref sc]) → 0 ≤ y → 0 ≤ k' → N [some (.ref st), some (.int m), v2, v3, v4, v5, none] H1 := by
        intro y k' v3 v4 v5 v6 H1 kp e1 g0 g1
        refine hN _ _ ?_
        walk_at "fx"
        refine ⟨_, rl_l e1, _, atI_nat (j := 0) rfl, h0, _, rl_l e1, _, atI_nat (j := 0) rfl, wide_div (b := 100) h0 (by omega) (by decide) (by decide), ?_⟩
        rw [e1]
        refine ⟨0, rfl, ?_⟩
        have kp2 : Keep [st] H (upd H1 st (.lst ([V.int y, .int k', .ref sc].set 0 (.int (y / m))))) := kp.upd (by simp)
        exact kk _ _ kp2 ⟨⟨y / m, k', upd_same, Int.ediv_nonneg g0 (by omega), g1⟩, D.sq, same_keep D.sm kp2 (by intro q hq; rw [List.mem_singleton.mp hq]; exact D.nw), D.nw, D.le⟩ (emod_lo y h0) (emod_hi y h0)
      split
      · refine ⟨_, rl_l es, _, atI_nat (j := 1) rfl, _, rl_l es, _, atI_nat (j := 2) rfl, ?_⟩
        unfold spCell
        refine ⟨ns, D.sm.seq D.sq, D.le, hk, fun v => ?_⟩
        walk_at "fx"
        simp only [es]
        walk_at "fx"
        refine ⟨1, rfl, 0, rfl, ?_⟩
        refine ifs_ ?_
        walk_at "fx"
        have kp : Keep [st] H (upd (upd H st (.lst [.int x, .int (k + 1), .ref sc])) st (.lst [.int (if v < 0 then -v else v), .int (k + 1), .ref sc])) := (Keep.refl.upd (by simp)).upd (by simp)
        have ha : 0 ≤ (if v < 0 then -v else v) := by split <;> omega
        split
        · split
          · have g0 := emod_lo (v * 2654435761 + (k + 1) * 6700417) (m := 618970019642690137449562111) (by decide)
            have g1 := emod_hi (v * 2654435761 + (k + 1) * 6700417) (m := 618970019642690137449562111) (by decide)
            generalize (v * 2654435761 + (k + 1) * 6700417) % 618970019642690137449562111 = y at g0 g1
            have g2 := emod_lo (y * y + 7 * y + k) (m := 618970019642690137449562111) (by decide)
            refine ⟨by walk_at "mul", by walk_at "mul", big_mul g0 (by omega), by walk_at "mul", 0, rfl, ?_⟩
            exact fin _ (k + 1) _ _ _ _ _ (kp.upd (by simp)) upd_same (by omega) (by omega)
          · exact fin _ (k + 1) _ _ _ _ _ kp upd_same ha (by omega)
        · exact fin _ (k + 1) _ _ _ _ _ kp upd_same ha (by omega)
      · exact fin x k _ _ _ _ H Keep.refl es hx hk
    · cases h
end

section
variable {P : Program} {w : World} {K : PySem.W.Frag} {mg : Str → Option Value} {base : Heap} {c : Cs}
def spMk_Ref (K : PySem.W.Frag) (c : Cs) : Sp := fun vs H Q _ => match vs with
  | [v_number] => ∀ y dx H1, H y = none → Same H H1 → H1 y = some (.ins c.Ref dx [("number", v_number)]) → Q (.ref y) H1
  | _ => False
theorem mk_Ref (A : AtM K c.Ref "__init__" "Ref.__init__" s_Ref___init__ ["self", "number"]) (T : Txt K mg c) : HasC P w K mg base CX0 c.Ref "Ref" 1 ["self", "number"] (spMk_Ref K c) := by
  have Sc := sc_Ref___init__
  refine hasC_of T.mk_Ref A Sc (fun vs H Q E h => ?_) (fun cdv f A outer s H vs Q E y dx H0 hr h hy hs h0 => ?_)
  · unfold spMk_Ref at h; split at h; rfl; cases h
  · unfold spMk_Ref at h
    split at h
    · rename_i v_number
      refine ⟨_, (pss_one (fs_fld (fe_var 0) (fe_var 1) T.pl_number rfl)), ?_⟩
      walk_at "fx0"
      walk_at "ox"
      simp only [h0]
      walk_at "ox"
      first
        | exact h y dx _ hy (mk_same hs hy) upd_same
        | exact ⟨by decide, h y dx _ hy (mk_same hs hy) upd_same⟩
    · cases h
def spMk_Builtin (K : PySem.W.Frag) (c : Cs) : Sp := fun vs H Q _ => match vs with
  | [v_name] => ∀ y dx H1, H y = none → Same H H1 → H1 y = some (.ins c.Builtin dx [("name", v_name)]) → Q (.ref y) H1
  | _ => False
theorem mk_Builtin (A : AtM K c.Builtin "__init__" "Builtin.__init__" s_Builtin___init__ ["self", "name"]) (T : Txt K mg c) : HasC P w K mg base CX0 c.Builtin "Builtin" 1 ["self", "name"] (spMk_Builtin K c) := by
  have Sc := sc_Builtin___init__
  refine hasC_of T.mk_Builtin A Sc (fun vs H Q E h => ?_) (fun cdv f A outer s H vs Q E y dx H0 hr h hy hs h0 => ?_)
  · unfold spMk_Builtin at h; split at h; rfl; cases h
  · unfold spMk_Builtin at h
    split at h
    · rename_i v_name
      refine ⟨_, (pss_one (fs_fld (fe_var 0) (fe_var 1) T.pl_name rfl)), ?_⟩
      walk_at "fx0"
      walk_at "ox"
      simp only [h0]
      walk_at "ox"
      first
        | exact h y dx _ hy (mk_same hs hy) upd_same
        | exact ⟨by decide, h y dx _ hy (mk_same hs hy) upd_same⟩
    · cases h
def spMk_Instance (K : PySem.W.Frag) (c : Cs) : Sp := fun vs H Q _ => match vs with
  | [v_owner] => ∀ y dx p_named H1, H y = none → Same H H1 → H1 y = some (.ins c.Instance dx [("owner", v_owner), ("named", (.ref p_named))]) → H p_named = none → H1 p_named = some (.dK []) → p_named ≠ y → Q (.ref y) H1
  | _ => False
theorem mk_Instance (A : AtM K c.Instance "__init__" "Instance.__init__" s_Instance___init__ ["self", "owner"]) (T : Txt K mg c) : HasC P w K mg base CX0 c.Instance "Instance" 1 ["self", "owner"] (spMk_Instance K c) := by
  have Sc := sc_Instance___init__
  refine hasC_of T.mk_Instance A Sc (fun vs H Q E h => ?_) (fun cdv f A outer s H vs Q E y dx H0 hr h hy hs h0 => ?_)
  · unfold spMk_Instance at h; split at h; rfl; cases h
  · unfold spMk_Instance at h
    split at h
    · rename_i v_owner
      refine ⟨_, (pss_cons (fs_fld (fe_var 0) (fe_var 1) T.pl_owner rfl)
      (pss_one (fs_fld (fe_var 0) fe_dnew T.pl_named rfl))), ?_⟩
      walk_at "fx0"
      walk_at "ox"
      simp only [h0]
      walk_at "ox"
      intro p_named G_named n_named s_named e_named
      have ny_named : p_named ≠ y := fun q => by rw [q, upd_same] at n_named; cases n_named
      have y_named := s_named _ _ (upd_same)
      have t_named := (mk_same hs hy).trans s_named
      have f_named := Same.free (mk_same hs hy) n_named
      simp only [y_named]
      walk_at "ox"
      first
        | exact h y dx p_named _ hy (mk_same t_named hy) upd_same f_named ((upd_ne ny_named).trans e_named) ny_named
        | exact ⟨by decide, h y dx p_named _ hy (mk_same t_named hy) upd_same f_named ((upd_ne ny_named).trans e_named) ny_named⟩
    · cases h
def spMk_Kin (K : PySem.W.Frag) (c : Cs) : Sp := fun vs H Q _ => match vs with
  | [v_name, v_parent] => ∀ y dx p_methods H1, H y = none → Same H H1 → H1 y = some (.ins c.Kin dx [("name", v_name), ("parent", v_parent), ("methods", (.ref p_methods))]) → H p_methods = none → H1 p_methods = some (.dK []) → p_methods ≠ y → Q (.ref y) H1
  | _ => False
theorem mk_Kin (A : AtM K c.Kin "__init__" "Kin.__init__" s_Kin___init__ ["self", "name", "parent"]) (T : Txt K mg c) : HasC P w K mg base CX0 c.Kin "Kin" 1 ["self", "name", "parent"] (spMk_Kin K c) := by
  have Sc := sc_Kin___init__
  refine hasC_of T.mk_Kin A Sc (fun vs H Q E h => ?_) (fun cdv f A outer s H vs Q E y dx H0 hr h hy hs h0 => ?_)
  · unfold spMk_Kin at h; split at h; rfl; cases h
  · unfold spMk_Kin at h
    split at h
    · rename_i v_name v_parent
      refine ⟨_, (pss_cons (fs_fld (fe_var 0) (fe_var 1) T.pl_name rfl)
      (pss_cons (fs_fld (fe_var 0) (fe_var 2) T.pl_parent rfl)
      (pss_one (fs_fld (fe_var 0) fe_dnew T.pl_methods rfl)))), ?_⟩
      walk_at "fx0"
      walk_at "ox"
      simp only [h0]
      walk_at "ox"
      intro p_methods G_methods n_methods s_methods e_methods
      have ny_methods : p_methods ≠ y := fun q => by rw [q, upd_same] at n_methods; cases n_methods
      have y_methods := s_methods _ _ (upd_same)
      have t_methods := (mk_same hs hy).trans s_methods
      have f_methods := Same.free (mk_same hs hy) n_methods
      simp only [y_methods]
      walk_at "ox"
      first
        | exact h y dx p_methods _ hy (mk_same t_methods hy) upd_same f_methods ((upd_ne ny_methods).trans e_methods) ny_methods
        | exact ⟨by decide, h y dx p_methods _ hy (mk_same t_methods hy) upd_same f_methods ((upd_ne ny_methods).trans e_methods) ny_methods⟩
    · cases h
def spMk_Parts (K : PySem.W.Frag) (c : Cs) : Sp := fun vs H Q _ => match vs with
  | [.ref v_held] => ∃ xs_held, Rl K H v_held xs_held ∧ ∀ y dx p_held H1, H y = none → Same H H1 → H1 y = some (.ins c.Parts dx [("held", (.ref p_held))]) → H p_held = none → H1 p_held = some (.lst xs_held) → p_held ≠ y → Q (.ref y) H1
  | _ => False
theorem mk_Parts (A : AtM K c.Parts "__init__" "Parts.__init__" s_Parts___init__ ["self", "held"]) (T : Txt K mg c) : HasC P w K mg base CX0 c.Parts "Parts" 1 ["self", "held"] (spMk_Parts K c) := by
  have Sc := sc_Parts___init__
  refine hasC_of T.mk_Parts A Sc (fun vs H Q E h => ?_) (fun cdv f A outer s H vs Q E y dx H0 hr h hy hs h0 => ?_)
  · unfold spMk_Parts at h; split at h; rfl; cases h
  · unfold spMk_Parts at h
    split at h
    · rename_i v_held
      obtain ⟨xs_held, r_held, h⟩ := h
      refine ⟨_, (pss_one (fs_fld (fe_var 0) (pe_callTy call_fListOf (by rfl) T.no_list (by decide +kernel) (pa_cons (fe_var 1) pa_nil)) T.pl_held rfl)), ?_⟩
      walk_at "fx0"
      walk_at "ox"
      refine ⟨_, rl_keep (hs) r_held, ?_⟩
      intro p_held G_held n_held s_held e_held
      have ny_held : p_held ≠ y := fun q => by rw [q, h0] at n_held; cases n_held
      have y_held := s_held _ _ (h0)
      have t_held := (hs).trans s_held
      have f_held := Same.free (hs) n_held
      simp only [y_held]
      walk_at "ox"
      first
        | exact h y dx p_held _ hy (mk_same t_held hy) upd_same f_held ((upd_ne ny_held).trans e_held) ny_held
        | exact ⟨by decide, h y dx p_held _ hy (mk_same t_held hy) upd_same f_held ((upd_ne ny_held).trans e_held) ny_held⟩
    · cases h
def spMk_Closure (K : PySem.W.Frag) (c : Cs) : Sp := fun vs H Q _ => match vs with
  | [v_number, v_wanted, v_scope] => ∀ y dx H1, H y = none → Same H H1 → H1 y = some (.ins c.Closure dx [("number", v_number), ("wanted", v_wanted), ("scope", v_scope)]) → Q (.ref y) H1
  | _ => False
theorem mk_Closure (A : AtM K c.Closure "__init__" "Closure.__init__" s_Closure___init__ ["self", "number", "wanted", "scope"]) (T : Txt K mg c) : HasC P w K mg base CX0 c.Closure "Closure" 1 ["self", "number", "wanted", "scope"] (spMk_Closure K c) := by
  have Sc := sc_Closure___init__
  refine hasC_of T.mk_Closure A Sc (fun vs H Q E h => ?_) (fun cdv f A outer s H vs Q E y dx H0 hr h hy hs h0 => ?_)
  · unfold spMk_Closure at h; split at h; rfl; cases h
  · unfold spMk_Closure at h
    split at h
    · rename_i v_number v_wanted v_scope
      refine ⟨_, (pss_cons (fs_fld (fe_var 0) (fe_var 1) T.pl_number rfl)
      (pss_cons (fs_fld (fe_var 0) (fe_var 2) T.pl_wanted rfl)
      (pss_one (fs_fld (fe_var 0) (fe_var 3) T.pl_scope rfl)))), ?_⟩
      walk_at "fx0"
      walk_at "ox"
      simp only [h0]
      walk_at "ox"
      first
        | exact h y dx _ hy (mk_same hs hy) upd_same
        | exact ⟨by decide, h y dx _ hy (mk_same hs hy) upd_same⟩
    · cases h
def spMk_Bound (K : PySem.W.Frag) (c : Cs) : Sp := fun vs H Q _ => match vs with
  | [v_owner, v_function] => ∀ y dx H1, H y = none → Same H H1 → H1 y = some (.ins c.Bound dx [("owner", v_owner), ("function", v_function)]) → Q (.ref y) H1
  | _ => False
theorem mk_Bound (A : AtM K c.Bound "__init__" "Bound.__init__" s_Bound___init__ ["self", "owner", "function"]) (T : Txt K mg c) : HasC P w K mg base CX0 c.Bound "Bound" 1 ["self", "owner", "function"] (spMk_Bound K c) := by
  have Sc := sc_Bound___init__
  refine hasC_of T.mk_Bound A Sc (fun vs H Q E h => ?_) (fun cdv f A outer s H vs Q E y dx H0 hr h hy hs h0 => ?_)
  · unfold spMk_Bound at h; split at h; rfl; cases h
  · unfold spMk_Bound at h
    split at h
    · rename_i v_owner v_function
      refine ⟨_, (pss_cons (fs_fld (fe_var 0) (fe_var 1) T.pl_owner rfl)
      (pss_one (fs_fld (fe_var 0) (fe_var 2) T.pl_function rfl))), ?_⟩
      walk_at "fx0"
      walk_at "ox"
      simp only [h0]
      walk_at "ox"
      first
        | exact h y dx _ hy (mk_same hs hy) upd_same
        | exact ⟨by decide, h y dx _ hy (mk_same hs hy) upd_same⟩
    · cases h
def spMk_Variable (K : PySem.W.Frag) (c : Cs) : Sp := fun vs H Q _ => match vs with
  | [v_value] => ∀ y dx H1, H y = none → Same H H1 → H1 y = some (.ins c.Variable dx [("value", v_value)]) → Q (.ref y) H1
  | _ => False
theorem mk_Variable (A : AtM K c.Variable "__init__" "Variable.__init__" s_Variable___init__ ["self", "value"]) (T : Txt K mg c) : HasC P w K mg base CX0 c.Variable "Variable" 1 ["self", "value"] (spMk_Variable K c) := by
  have Sc := sc_Variable___init__
  refine hasC_of T.mk_Variable A Sc (fun vs H Q E h => ?_) (fun cdv f A outer s H vs Q E y dx H0 hr h hy hs h0 => ?_)
  · unfold spMk_Variable at h; split at h; rfl; cases h
  · unfold spMk_Variable at h
    split at h
    · rename_i v_value
      refine ⟨_, (pss_one (fs_fld (fe_var 0) (fe_var 1) T.pl_value rfl)), ?_⟩
      walk_at "fx0"
      walk_at "ox"
      simp only [h0]
      walk_at "ox"
      first
        | exact h y dx _ hy (mk_same hs hy) upd_same
        | exact ⟨by decide, h y dx _ hy (mk_same hs hy) upd_same⟩
    · cases h
def spMk_Cursor (K : PySem.W.Frag) (c : Cs) : Sp := fun vs H Q _ => match vs with
  | [.ref v_rest] => ∃ xs_rest, Rl K H v_rest xs_rest ∧ ∀ y dx p_rest H1, H y = none → Same H H1 → H1 y = some (.ins c.Cursor dx [("rest", (.ref p_rest))]) → H p_rest = none → H1 p_rest = some (.lst xs_rest) → p_rest ≠ y → Q (.ref y) H1
  | _ => False
theorem mk_Cursor (A : AtM K c.Cursor "__init__" "Cursor.__init__" s_Cursor___init__ ["self", "rest"]) (T : Txt K mg c) : HasC P w K mg base CX0 c.Cursor "Cursor" 1 ["self", "rest"] (spMk_Cursor K c) := by
  have Sc := sc_Cursor___init__
  refine hasC_of T.mk_Cursor A Sc (fun vs H Q E h => ?_) (fun cdv f A outer s H vs Q E y dx H0 hr h hy hs h0 => ?_)
  · unfold spMk_Cursor at h; split at h; rfl; cases h
  · unfold spMk_Cursor at h
    split at h
    · rename_i v_rest
      obtain ⟨xs_rest, r_rest, h⟩ := h
      refine ⟨_, (pss_one (fs_fld (fe_var 0) (pe_callTy call_fListOf (by rfl) T.no_list (by decide +kernel) (pa_cons (fe_var 1) pa_nil)) T.pl_rest rfl)), ?_⟩
      walk_at "fx0"
      walk_at "ox"
      refine ⟨_, rl_keep (hs) r_rest, ?_⟩
      intro p_rest G_rest n_rest s_rest e_rest
      have ny_rest : p_rest ≠ y := fun q => by rw [q, h0] at n_rest; cases n_rest
      have y_rest := s_rest _ _ (h0)
      have t_rest := (hs).trans s_rest
      have f_rest := Same.free (hs) n_rest
      simp only [y_rest]
      walk_at "ox"
      first
        | exact h y dx p_rest _ hy (mk_same t_rest hy) upd_same f_rest ((upd_ne ny_rest).trans e_rest) ny_rest
        | exact ⟨by decide, h y dx p_rest _ hy (mk_same t_rest hy) upd_same f_rest ((upd_ne ny_rest).trans e_rest) ny_rest⟩
    · cases h
end
section
variable {P : Program} {w : World} {K : PySem.W.Frag} {mg : Str → Option Value} {base : Heap} {c : Cs}
/-- the content of a key's tuple -/
def kxs (v : V) : List V := match v with
  | .bl _ => [.str "boolean", v]
  | _ => [.str "key", v]
def kN (v : V) : NestedKey := tupK (kxs v)
theorem kxs_sc {v : V} (h : scV v = true) : (kxs v).all scV = true := by cases v <;> first | rfl | cases h
theorem leaf_bl {p q : Bool} (h : leafK (.bl p) = leafK (.bl q)) : p = q := by
  have h' := NestedKey.num.inj (show NestedKey.num (if p = true then 1 else 0) = .num (if q = true then 1 else 0) from h)
  cases p <;> cases q <;> first
    | rfl
    | exact absurd h' (by decide)
theorem leafK_inj {x y : V} (hx : scV x = true) (hy : scV y = true) (b : (∃ p, x = .bl p) ↔ ∃ p, y = .bl p) (h : leafK x = leafK y) : x = y := by
  cases x <;> cases y <;> first
    | rfl
    | (exact congrArg V.bl (leaf_bl h))
    | (cases hx; done)
    | (cases hy; done)
    | (exact absurd (b.mp ⟨_, rfl⟩) (fun ⟨_, z⟩ => by cases z))
    | (exact absurd (b.mpr ⟨_, rfl⟩) (fun ⟨_, z⟩ => by cases z))
    | (cases h; done)
    | (cases h; rfl)
def tagV : V → Str
  | .bl _ => "boolean"
  | _ => "key"
theorem kN_inj {x y : V} (hx : scV x = true) (hy : scV y = true) (h : kN x = kN y) : x = y := by
  have h' := NestedKey.tup.inj (show NestedKey.tup ((kxs x).map leafK) = .tup ((kxs y).map leafK) from h)
  have e : ∀ v : V, (kxs v).map leafK = [.text (tagV v), leafK v] := fun v => by cases v <;> rfl
  rw [e, e] at h'
  have ht := NestedKey.text.inj (List.cons.inj h').1
  have hl := (List.cons.inj (List.cons.inj h').2).1
  refine leafK_inj hx hy ?_ hl
  have n1 : ¬ ((Str.ofString "boolean") = Str.ofString "key") := by decide +kernel
  have n2 : ¬ ((Str.ofString "key") = Str.ofString "boolean") := by decide +kernel
  cases x <;> cases y <;> first
    | (exact absurd ht n1)
    | (exact absurd ht n2)
    | (simp; done)
/-- the entries of a table: keys and values in order -/
def RowE (H : Hp) (e : NEnt) (r : V × V) : Prop := e.1 = kN r.1 ∧ scV r.1 = true ∧ ∃ tp, e.2.2 = .ref tp ∧ H tp = some (.tup [r.1, r.2])
structure TabR (w : World) (H : Hp) (d : Addr) (rows : List (V × V)) : Prop where
  ex : ∃ es, DN w H d es ∧ H d = some (nkO w d es) ∧ Paired (RowE H) es rows
  nd : (rows.map (·.1)).Nodup
def IsTab (c : Cs) (H : Hp) (a d : Addr) : Prop := ∃ dx, H a = some (.ins c.Table dx [("_rows", .ref d)])
theorem IsTab.same {H H' : Hp} {a d : Addr} (h : IsTab c H a d) (s : Same H H') : IsTab c H' a d := h.imp fun _ e => s _ _ e
theorem RowE.mono {H H' : Hp} {e : NEnt} {r : V × V} (h : RowE H e r) (s : ∀ b xs, H b = some (.tup xs) → H' b = some (.tup xs)) : RowE H' e r := ⟨h.1, h.2.1, h.2.2.imp fun _ ⟨x, y⟩ => ⟨x, s _ _ y⟩⟩
theorem TabR.mono {H H' : Hp} {d : Addr} {rows : List (V × V)} (h : TabR w H d rows) (hd : ∀ o, H d = some o → H' d = some o) (s : ∀ b xs, H b = some (.tup xs) → H' b = some (.tup xs)) : TabR w H' d rows := by
  obtain ⟨⟨es, D, e0, r⟩, nd⟩ := h
  exact ⟨⟨es, ⟨.inl (hd _ e0), fun e he => (D.ks e he).mono s⟩, hd _ e0, Paired.mapP r fun _ _ q => q.mono s⟩, nd⟩
theorem TabR.same {H H' : Hp} {d : Addr} {rows : List (V × V)} (h : TabR w H d rows) (s : Same H H') : TabR w H' d rows := h.mono (fun _ e => s _ _ e) fun _ _ e => s _ _ e
/-- behind a change of something that is no tuple, elsewhere -/
theorem TabR.keep {H H' : Hp} {d : Addr} {rows : List (V × V)} {ps : List Addr} (h : TabR w H d rows) (k : Keep ps H H') (n : d ∉ ps) (nt : ∀ p ∈ ps, ∀ xs, H p ≠ some (.tup xs)) : TabR w H' d rows :=
  h.mono (fun _ e => k _ _ n e) fun b xs e => k _ _ (fun m => nt b m xs e) e
def rowAt (rows : List (V × V)) (k : V) : Option V := (rows.find? fun r => decide (r.1 = k)).map (·.2)
def putR (rows : List (V × V)) (k v : V) : List (V × V) := if (rowAt rows k).isSome = true then rows.map (fun r => if r.1 = k then (k, v) else r) else rows ++ [(k, v)]
def dropR (rows : List (V × V)) (k : V) : List (V × V) := rows.filter fun r => decide (r.1 ≠ k)
theorem rows_at {H : Hp} {k : V} (hk : scV k = true) : ∀ {es : List NEnt} {rows : List (V × V)}, Paired (RowE H) es rows → match atN es (kN k), rowAt rows k with
    | some (.ref tp), some v => H tp = some (.tup [k, v])
    | none, none => True
    | _, _ => False := by
  intro es rows h
  induction h with
  | nil => exact trivial
  | @cons e r es rows h t ih =>
    obtain ⟨h1, h2, tp, h3, h4⟩ := h
    by_cases q : r.1 = k
    · have a : atN (e :: es) (kN k) = some e.2.2 := by simp [atN, List.find?_cons, h1, q]
      have b : rowAt (r :: rows) k = some r.2 := by simp [rowAt, List.find?_cons, q]
      rw [a, b, h3]
      rw [q] at h4
      exact h4
    · have nq : ¬ e.1 = kN k := fun z => q (kN_inj h2 hk (h1.symm.trans z))
      have a : atN (e :: es) (kN k) = atN es (kN k) := by simp [atN, List.find?_cons, nq]
      have b : rowAt (r :: rows) k = rowAt rows k := by simp [rowAt, List.find?_cons, q]
      rw [a, b]
      exact ih
theorem rows_some {H : Hp} {k : V} (hk : scV k = true) {es : List NEnt} {rows : List (V × V)} (h : Paired (RowE H) es rows) : (atN es (kN k)).isSome = (rowAt rows k).isSome := by
  have := rows_at hk h
  split at this
  · rename_i e1 e2; rw [e1, e2]; rfl
  · rename_i e1 e2; rw [e1, e2]
  · exact this.elim
theorem rows_put {H : Hp} {k v : V} {q tp : Addr} (hk : scV k = true) (ht : H tp = some (.tup [k, v])) {es : List NEnt} {rows : List (V × V)} (h : Paired (RowE H) es rows) : Paired (RowE H) (putN es (kN k) q (.ref tp)) (putR rows k v) := by
  unfold putN putR
  rw [rows_some hk h]
  split
  · rename_i hs
    clear hs
    induction h with
    | nil => exact .nil
    | @cons e r es rows h t ih =>
      rw [List.map_cons, List.map_cons]
      refine .cons ?_ ih
      obtain ⟨h1, h2, h3⟩ := h
      by_cases z : r.1 = k
      · rw [if_pos z, if_pos (by rw [h1, z])]
        exact ⟨by rw [h1, z], hk, tp, rfl, ht⟩
      · rw [if_neg z, if_neg (fun w => z (kN_inj h2 hk (h1.symm.trans w)))]
        exact ⟨h1, h2, h3⟩
  · exact Paired.snoc h ⟨rfl, hk, tp, rfl, ht⟩
theorem rows_drop {H : Hp} {k : V} (hk : scV k = true) {es : List NEnt} {rows : List (V × V)} (h : Paired (RowE H) es rows) : Paired (RowE H) (dropN es (kN k)) (dropR rows k) := by
  unfold dropN dropR
  induction h with
  | nil => exact .nil
  | @cons e r es rows h t ih =>
    obtain ⟨h1, h2, h3⟩ := h
    rw [List.filter_cons, List.filter_cons]
    by_cases z : r.1 = k
    · rw [if_neg (by simp [h1, z]), if_neg (by simp [z])]
      exact ih
    · rw [if_pos (by simpa using fun w => z (kN_inj h2 hk (h1.symm.trans w))), if_pos (by simp [z])]
      exact .cons ⟨h1, h2, h3⟩ ih
theorem rowAt_mem {rows : List (V × V)} {k : V} : (rowAt rows k).isSome = true ↔ k ∈ rows.map (·.1) := by
  unfold rowAt
  rw [Option.isSome_map, List.find?_isSome]
  simp
theorem putR_nd {rows : List (V × V)} {k v : V} (h : (rows.map (·.1)).Nodup) : ((putR rows k v).map (·.1)).Nodup := by
  unfold putR
  split
  · have e : (rows.map fun r => if r.1 = k then (k, v) else r).map (·.1) = rows.map (·.1) := by
      rw [List.map_map]
      refine List.map_congr_left fun r _ => ?_
      show (if r.1 = k then (k, v) else r).1 = r.1
      split
      · rename_i z; exact z.symm
      · rfl
    rw [e]; exact h
  · rename_i z
    rw [rowAt_mem] at z
    rw [List.map_append, List.nodup_append]
    refine ⟨h, by simp, fun a ha b hb e => ?_⟩
    simp at hb
    subst hb
    subst e
    exact z ha
theorem dropR_nd {rows : List (V × V)} {k : V} (h : (rows.map (·.1)).Nodup) : ((dropR rows k).map (·.1)).Nodup := (List.filter_sublist.map _).nodup h
theorem rows_get {H : Hp} : ∀ {es : List NEnt} {rows : List (V × V)}, Paired (RowE H) es rows → (rows.map (·.1)).Nodup → ∀ {i : Nat} {x : NEnt}, es[i]? = some x → atN es x.1 = some x.2.2 := by
  intro es rows h
  induction h with
  | nil => intro _ i x hx; simp at hx
  | @cons e r es rows h t ih =>
    intro nd i x hx
    obtain ⟨h1, h2, h3⟩ := h
    rw [List.map_cons, List.nodup_cons] at nd
    cases i with
    | zero =>
      simp at hx
      subst hx
      simp [atN, List.find?_cons]
    | succ j =>
      simp at hx
      obtain ⟨r', hr', k1, k2, k3⟩ := paired_get t hx
      have ne : ¬ e.1 = x.1 := fun z => by
        rw [h1, k1] at z
        have := kN_inj h2 k2 z
        exact nd.1 (by rw [this]; exact List.mem_map_of_mem (List.mem_of_getElem? hr'))
      have a : atN (e :: es) x.1 = atN es x.1 := by simp [atN, List.find?_cons, ne]
      rw [a]
      exact ih nd.2 hx
theorem rowAt_get : ∀ {rows : List (V × V)}, (rows.map (·.1)).Nodup → ∀ {i : Nat} {r : V × V}, rows[i]? = some r → rowAt rows r.1 = some r.2
  | [], _, i, r, h => by simp at h
  | q :: rows, nd, 0, r, h => by
    simp at h
    subst h
    simp [rowAt, List.find?_cons]
  | q :: rows, nd, i + 1, r, h => by
    simp at h
    rw [List.map_cons, List.nodup_cons] at nd
    have ne : ¬ q.1 = r.1 := fun z => nd.1 (by rw [z]; exact List.mem_map_of_mem (List.mem_of_getElem? h))
    have a : rowAt (q :: rows) r.1 = rowAt rows r.1 := by simp [rowAt, List.find?_cons, ne]
    rw [a]
    exact rowAt_get nd.2 h
theorem map_off {rows : List (V × V)} {k v : V} (h : k ∉ rows.map (·.1)) : (rows.map fun r => if r.1 = k then (k, v) else r) = rows := by
  induction rows with
  | nil => rfl
  | cons r rows ih =>
    rw [List.map_cons, List.mem_cons, not_or] at h
    rw [List.map_cons, if_neg (Ne.symm h.1), ih h.2]
theorem drop_off {rows : List (V × V)} {k : V} (h : k ∉ rows.map (·.1)) : dropR rows k = rows := by
  unfold dropR
  rw [List.filter_eq_self]
  intro r hr
  exact decide_eq_true fun e => h (by rw [← e]; exact List.mem_map_of_mem hr)
/-- where a key stands -/
theorem row_cases (k : V) : ∀ {rows : List (V × V)}, (rows.map (·.1)).Nodup → (∃ i r, rows[i]? = some r ∧ r.1 = k ∧ rows.findIdx? (fun r => decide (r.1 = k)) = some i ∧ (rowAt rows k).isSome = true ∧ dropR rows k = rows.eraseIdx i ∧ ∀ v, putR rows k v = rows.set i (k, v)) ∨
    (rows.findIdx? (fun r => decide (r.1 = k)) = none ∧ (rowAt rows k).isSome = false ∧ k ∉ rows.map (·.1) ∧ ∀ v, putR rows k v = rows ++ [(k, v)])
  | [], _ => .inr ⟨rfl, rfl, by simp, fun v => rfl⟩
  | r :: rows, nd => by
    rw [List.map_cons, List.nodup_cons] at nd
    by_cases e : r.1 = k
    · have hno : k ∉ rows.map (·.1) := by rw [← e]; exact nd.1
      have hs : (rowAt (r :: rows) k).isSome = true := by simp [rowAt, List.find?_cons, e]
      refine .inl ⟨0, r, rfl, e, by simp [List.findIdx?_cons, e], hs, ?_, fun v => ?_⟩
      · have : dropR (r :: rows) k = dropR rows k := by
          unfold dropR
          rw [List.filter_cons, if_neg (by simp [e])]
        rw [this, drop_off hno]
        rfl
      · unfold putR
        rw [if_pos hs, List.map_cons, if_pos e, map_off hno]
        rfl
    · have hs : (rowAt (r :: rows) k) = rowAt rows k := by simp [rowAt, List.find?_cons, e]
      rcases row_cases k nd.2 with ⟨i, r', h1, h2, h3, h4, h5, h6⟩ | ⟨h3, h4, hno, h6⟩
      · refine .inl ⟨i + 1, r', h1, h2, by simp [List.findIdx?_cons, e, h3], by rw [hs]; exact h4, ?_, fun v => ?_⟩
        · have : dropR (r :: rows) k = r :: dropR rows k := by
            unfold dropR
            rw [List.filter_cons, if_pos (by simp [e])]
          rw [this, h5]
          first | rfl | skip
        · have := h6 v
          unfold putR at this ⊢
          rw [if_pos h4] at this
          rw [hs, if_pos h4, List.map_cons, if_neg e, this]
          try rfl
      · refine .inr ⟨by simp [List.findIdx?_cons, e, h3], by rw [hs]; exact h4, by rw [List.map_cons, List.mem_cons, not_or]; exact ⟨Ne.symm e, hno⟩, fun v => ?_⟩
        unfold putR
        rw [hs, if_neg (by rw [h4]; decide)]
        try rfl
theorem paired_erase {α β : Type} {F : α → β → Prop} {xs : List α} {ys : List β} (h : Paired F xs ys) : ∀ i : Nat, Paired F (xs.eraseIdx i) (ys.eraseIdx i) := by
  induction h with
  | nil => intro i; exact .nil
  | cons r t ih =>
    intro i
    cases i with
    | zero => exact t
    | succ j => exact .cons r (ih j)
theorem paired_set {α β : Type} {F : α → β → Prop} {xs : List α} {ys : List β} {a : α} {b : β} (h : Paired F xs ys) (hab : F a b) : ∀ i : Nat, Paired F (xs.set i a) (ys.set i b) := by
  induction h with
  | nil => intro i; exact .nil
  | cons r t ih =>
    intro i
    cases i with
    | zero => exact .cons hab t
    | succ j => exact .cons r (ih j)
theorem putR_len (rows : List (V × V)) (k v : V) : (putR rows k v).length ≤ rows.length + 1 := by
  unfold putR
  split
  · rw [List.length_map]; omega
  · rw [List.length_append]; exact Nat.le_refl _
end

section
variable {P : Program} {w : World} {K : PySem.W.Frag} {mg : Str → Option Value} {base : Heap} {c : Cs}
def spMkTab (w : World) (c : Cs) : Sp := fun vs H Q _ => match vs with
  | [] => ∀ y d H1, H y = none → H d = none → Same H H1 → IsTab c H1 y d → TabR w H1 d [] → Q (.ref y) H1
  | _ => False
theorem ok_mktab (A : AtM K c.Table "__init__" "Table.__init__" s_Table___init__ ["self"]) (T : Txt K mg c) : HasC P w K mg base CX0 c.Table "Table" 1 ["self"] (spMkTab w c) := by
  have Sc := sc_Table___init__
  refine hasC_of T.mk_Table A Sc (fun vs H Q E h => ?_) (fun cdv f A outer s H vs Q E y dx H0 hr h hy hs h0 => ?_)
  · unfold spMkTab at h; split at h; rfl; cases h
  · unfold spMkTab at h
    split at h
    · refine ⟨_, (pss_one (fs_fld (fe_var 0) (pe_newN (w := w) rfl) T.pl__rows rfl)), ?_⟩
      walk_at "fx0"
      walk_at "ox"
      intro d H1 nd s1 e1
      have ny : d ≠ y := fun q => by rw [q, h0] at nd; cases nd
      have ey := s1 _ _ h0
      simp only [ey]
      walk_at "ox"
      first
        | exact h y d _ hy (hs.free nd) (mk_same (hs.trans s1) hy) ⟨dx, upd_same⟩ ⟨⟨[], ⟨.inl ((upd_ne ny).trans e1), fun _ z => by cases z⟩, (upd_ne ny).trans e1, .nil⟩, List.nodup_nil⟩
        | exact ⟨by decide, h y d _ hy (hs.free nd) (mk_same (hs.trans s1) hy) ⟨dx, upd_same⟩ ⟨⟨[], ⟨.inl ((upd_ne ny).trans e1), fun _ z => by cases z⟩, (upd_ne ny).trans e1, .nil⟩, List.nodup_nil⟩⟩
    · cases h
def spKeyOf : Sp := fun vs H Q _ => match vs with
  | [v] => scV v = true ∧ ∀ q H1, H q = none → Same H H1 → isKey H1 q (kxs v) → Q (.ref q) H1
  | _ => False
theorem ok_keyof (A : At K mg "key_of" "key_of" s_key_of ["value"]) (T : Txt K mg c) : Has P w K mg base CX0 "key_of" 1 ["value"] spKeyOf := by
  have Sc := sc_key_of
  refine has_of A Sc (fun vs H Q E h => ?_) (fun cdv f A outer s H vs Q E hr h => ?_)
  · unfold spKeyOf at h; split at h; rfl; cases h
  · unfold spKeyOf at h
    split at h
    · rename_i v
      obtain ⟨hv, h⟩ := h
      refine ⟨_, (pss_cons (ps_if (pt_val (pe_callB (call_fIsiA T.kit) (by rfl) T.no_isinstance (by decide +kernel) (pa_cons (fe_var 0) (pa_cons (fe_ty (n := "bool") (by rfl) T.no_bool (by decide +kernel)) pa_nil)))) (pss_one (ps_ret (fe_tup (pa_cons pe_str (pa_cons (fe_var 0) pa_nil))))) pss_nil)
      (pss_one (ps_ret (fe_tup (pa_cons pe_str (pa_cons (fe_var 0) pa_nil)))))), ?_⟩
      walk_at "fx0"
      cases v <;> first
        | (cases hv; done)
        | (repeat (walk_at "oxs")
           intro q H1 nq sm eq
           exact h q H1 nq sm ⟨eq, rfl⟩)
    · cases h
def spHas (w : World) (c : Cs) : Sp := fun vs H Q _ => match vs with
  | [.ref a, v] => ∃ d rows, IsTab c H a d ∧ TabR w H d rows ∧ scV v = true ∧ ∀ H1, Same H H1 → Q (.bl (rowAt rows v).isSome) H1
  | _ => False

def spValOf (w : World) (c : Cs) : Sp := fun vs H Q _ => match vs with
  | [.ref a, v] => ∃ d rows x, IsTab c H a d ∧ TabR w H d rows ∧ scV v = true ∧ rowAt rows v = some x ∧ ∀ H1, Same H H1 → Q x H1
  | _ => False

def spPut (w : World) (c : Cs) : Sp := fun vs H Q _ => match vs with
  | [.ref a, k, v] => ∃ d rows, IsTab c H a d ∧ TabR w H d rows ∧ scV k = true ∧ rows.length < 100000 ∧ ∀ H1, Keep [d] H H1 → TabR w H1 d (putR rows k v) → Q .non H1
  | _ => False
theorem DN.upd {H : Hp} {d : Addr} {es es' : List NEnt} (D : DN w H d es) (e0 : H d = some (nkO w d es)) (sub : ∀ e ∈ es', KeyT H e.1 e.2.1) : DN w (upd H d (nkO w d es')) d es' :=
  ⟨.inl upd_same, fun e he => (sub e he).mono fun b xs eb => by rw [upd_ne (ne_of eb e0 (Ne.symm nkO_ne_tup))]; exact eb⟩
theorem putN_mem {es : List NEnt} {k : NestedKey} {q : Addr} {v : V} {e : NEnt} (h : e ∈ putN es k q v) : (∃ e0 ∈ es, e.1 = e0.1 ∧ e.2.1 = e0.2.1) ∨ (e.1 = k ∧ e.2.1 = q) := by
  unfold putN at h
  split at h
  · obtain ⟨e0, he, rfl⟩ := List.mem_map.mp h
    refine .inl ⟨e0, he, ?_⟩
    split <;> exact ⟨rfl, rfl⟩
  · rcases List.mem_append.mp h with h | h
    · exact .inl ⟨e, h, rfl, rfl⟩
    · rw [List.mem_singleton.mp h]; exact .inr ⟨rfl, rfl⟩
theorem ok_put (A : AtM K c.Table "put" "Table.put" s_Table_put ["self", "key", "value"]) (T : Txt K mg c) (H_key_of : Has P w K mg base CX0 "key_of" 1 ["value"] spKeyOf) : HasM P w K mg base CX0 c.Table "put" 2 ["self", "key", "value"] (spPut w c) := by
  have Sc := sc_Table_put
  refine hasM_of A Sc (fun vs H Q E h => ?_) (fun cdv f A outer s H vs Q E hr h => ?_)
  · unfold spPut at h; split at h; rfl; cases h
  · unfold spPut at h
    split at h
    · rename_i a k v
      obtain ⟨d, rows, ⟨dx, ea⟩, TR, hk, hl, h⟩ := h
      refine ⟨_, (pss_one (ps_putN (w := w) rfl hr.units (fe_fld (fe_var 0) T.pl__rows rfl) (fe_call H_key_of (hr.mono (by walk_at "rm")) (by rfl) pass0 (pa_cons (fe_var 1) pa_nil)) (fe_tup (pa_cons (fe_var 1) (pa_cons (fe_var 2) pa_nil))) rfl)), ?_⟩
      walk_at "fx0"
      walk_at "ox"
      intro tp H1 ntp s1 etp
      have ea1 := s1 _ _ ea
      simp only [ea1]
      walk_at "ox"
      refine ⟨hk, fun q H2 nq s2 kq => ?_⟩
      obtain ⟨⟨es, D, e0, r⟩, nd⟩ := TR.same (s1.trans s2)
      have hle : es.length = rows.length := Paired.length r
      refine ⟨es, D, e0, _, kq, len_line' (by omega), ?_⟩
      have ne : ∀ b xs, H2 b = some (.tup xs) → upd H2 d (nkO w d (putN es (tupK (kxs k)) q (.ref tp))) b = some (.tup xs) := fun b xs eb => by
        rw [upd_ne (ne_of eb e0 (Ne.symm nkO_ne_tup))]; exact eb
      refine h _ ((Keep.of (s1.trans s2)).upd (by simp)) ⟨⟨_, DN.upd D e0 (fun e he => ?_), upd_same, Paired.mapP (rows_put (q := q) hk (s2 _ _ etp) r) fun _ _ z => z.mono ne⟩, putR_nd nd⟩
      rcases putN_mem he with ⟨e', he', h1, h2⟩ | ⟨h1, h2⟩
      · rw [h1, h2]; exact D.ks e' he'
      · rw [h1, h2]; exact kq.t
    · cases h
def spTake (w : World) (c : Cs) : Sp := fun vs H Q _ => match vs with
  | [.ref a, k] => ∃ d rows, IsTab c H a d ∧ TabR w H d rows ∧ scV k = true ∧ (rowAt rows k).isSome = true ∧ ∀ H1, Keep [d] H H1 → TabR w H1 d (dropR rows k) → Q .non H1
  | _ => False

def spMany (w : World) (c : Cs) : Sp := fun vs H Q _ => match vs with
  | [.ref a] => ∃ d rows, IsTab c H a d ∧ TabR w H d rows ∧ Q (.int rows.length) H
  | _ => False
theorem ok_many (A : AtP K c.Table "many" "Table.many" s_Table_many ["self"]) (T : Txt K mg c) : HasP P w K mg base CX0 c.Table "many" 1 ["self"] (spMany w c) := by
  have Sc := sc_Table_many
  refine hasP_of A Sc (fun vs H Q E h => ?_) (fun cdv f A outer s H vs Q E hr h => ?_)
  · unfold spMany at h; split at h; rfl; cases h
  · unfold spMany at h
    split at h
    · rename_i a
      obtain ⟨d, rows, ⟨dx, ea⟩, ⟨⟨es, D, e0, r⟩, nd⟩, h⟩ := h
      refine ⟨_, (pss_one (ps_ret (pe_callB (call_fLenN (w := w) rfl) (by rfl) T.no_len (by decide +kernel) (pa_cons (fe_fld (fe_var 0) T.pl__rows rfl) pa_nil)))), ?_⟩
      walk_at "fx0"
      walk_at "ox"
      simp only [ea]
      walk_at "ox"
      refine ⟨es, D, ?_⟩
      rw [show es.length = rows.length from Paired.length r]
      exact h
    · cases h
/-- the entries as tuples -/
def RowsT (H : Hp) (ts : List Addr) (rows : List (V × V)) : Prop := Paired (fun t r => H t = some (.tup [r.1, r.2])) ts rows
def spPairs (w : World) (c : Cs) : Sp := fun vs H Q _ => match vs with
  | [.ref a] => ∃ d rows, IsTab c H a d ∧ TabR w H d rows ∧ rows.length ≤ 100000 ∧ ∀ p ts H1, H p = none → Same H H1 → H1 p = some (.lst (ts.map V.ref)) → RowsT H1 ts rows → Q (.ref p) H1
  | _ => False
theorem paired_take {α β : Type} {F : α → β → Prop} {xs : List α} {ys : List β} (h : Paired F xs ys) {i : Nat} {x : α} (e : xs[i]? = some x) : ∃ y, ys[i]? = some y ∧ F x y := paired_get h e
theorem ok_pairs (A : AtM K c.Table "pairs" "Table.pairs" s_Table_pairs ["self"]) (T : Txt K mg c) : HasM P w K mg base CX0 c.Table "pairs" 1 ["self"] (spPairs w c) := by
  have Sc := sc_Table_pairs
  refine hasM_of A Sc (fun vs H Q E h => ?_) (fun cdv f A outer s H vs Q E hr h => ?_)
  · unfold spPairs at h; split at h; rfl; cases h
  · unfold spPairs at h
    split at h
    · rename_i a
      obtain ⟨d, rows, ⟨dx, ea⟩, ⟨⟨es, D, e0, r⟩, nd⟩, hl, h⟩ := h
      refine ⟨_, (pss_one (ps_ret (pe_lock (pe_lc (own := [("at", 1)]) (by rfl) Sc.nd (pi_keysN (w := w) rfl (fe_fld (fe_var 0) T.pl__rows rfl)) (blkOk_by (own := [("at", 1)]) (N := ["self", "at"]) (sc := defScope s_Table_pairs) (by decide +kernel)) (fun _ _ _ _ _ => (pg_name (i := 1) Sc.nd rfl (.inl rfl))) (fun _ _ _ _ _ => pts_nil) (fun _ _ _ _ _ => (pe_getN (w := w) rfl hr.units (fe_fld (fe_var 0) T.pl__rows rfl) (fe_var 1) (fun _ _ => rfl))))))), ?_⟩
      walk_at "fx0"
      refine ⟨d, _, e0, trivial, fun od => ?_⟩
      have nad : a ≠ d := fun q => by
        rw [q, e0] at ea
        have z' : HO.ext _ = HO.ins _ _ _ := Option.some.inj ea
        cases z'
      have ea1 : upd H d (.frz od (nkO w d es)) a = some (.ins c.Table dx [("_rows", .ref d)]) := (upd_ne nad).trans ea
      refine lc_ ?_
      repeat (first | walk_at "oxs" | simp only [ea1])
      refine ⟨od, es, rfl, fun D0 nD => ?_⟩
      have nDd : D0 ≠ d := fun q => by rw [q, upd_same] at nD; cases nD
      have nDH : H D0 = none := by rw [upd_ne nDd] at nD; exact nD
      have hle : es.length = rows.length := Paired.length r
      refine lcx_keysN (fun i H1 => H1 d = some (.frz od (nkO w d es)) ∧ (∀ b o, b ≠ d → H b = some o → H1 b = some o) ∧ ∃ ts : List Addr, H1 D0 = some (.lst (ts.map V.ref)) ∧ RowsT H ts (rows.take i)) ⟨?_, ?_, [], upd_same, .nil⟩ ?_ ?_ ?_
      · rw [upd_ne (Ne.symm nDd)]; exact upd_same
      · intro b o nb eb
        rw [upd_ne (ne_of_none eb nDH), upd_ne nb]
        exact eb
      · rintro i H1 _ ⟨h1, _⟩
        exact h1
      · rintro i x H1 hx ⟨h1, h2, ts, h3, h4⟩
        obtain ⟨row, hr1, k1, k2, tp, k3, k4⟩ := paired_get r hx
        obtain ⟨kxs', g1, g2, g3⟩ := D.ks x (List.mem_of_getElem? hx)
        have nx : x.2.1 ≠ d := fun q => by rw [q, e0] at g1; exact nkO_ne_tup (Option.some.inj g1)
        have ea2 := h2 _ _ nad ea
        repeat (first | walk_at "oxs" | simp only [ea2])
        refine ⟨es, ⟨.inr ⟨od, h1⟩, fun e he => ?_⟩, kxs', ⟨h2 _ _ nx g1, g2⟩, x.2.2, ?_, ?_⟩
        · obtain ⟨ys, y1, y2, y3⟩ := D.ks e he
          exact ⟨ys, h2 _ _ (fun q => by rw [q, e0] at y1; exact nkO_ne_tup (Option.some.inj y1)) y1, y2, y3⟩
        · rw [← g3]
          exact rows_get r nd hx
        · rw [k3]
          refine ⟨_, h3, len_line' ?_, ?_, ?_, ts ++ [tp], ?_, ?_⟩
          · have := Paired.length h4
            have hi := (List.getElem?_eq_some_iff.mp hx).1
            rw [List.length_take] at this
            rw [List.length_map]
            omega
          · rw [upd_ne (Ne.symm nDd)]; exact h1
          · intro b o nb eb
            rw [upd_ne (ne_of_none eb nDH)]
            exact h2 b o nb eb
          · rw [List.map_append]; rfl
          · have et : rows.take (i + 1) = rows.take i ++ [row] := by rw [List.take_add_one, hr1]; rfl
            rw [et]
            exact Paired.snoc h4 k4
      · rintro H1 ⟨h1, h2, ts, h3, h4⟩
        refine ⟨h1, ?_⟩
        have et : rows.take es.length = rows := by rw [hle]; exact List.take_length
        rw [et] at h4
        have sm : Same H (upd H1 d (nkO w d es)) := fun b o eb => by
          by_cases q : b = d
          · rw [q, upd_same, ← e0, ← q]; exact eb
          · rw [upd_ne q]; exact h2 b o q eb
        exact h D0 ts _ nDH sm (by rw [upd_ne nDd]; exact h3) (Paired.mapP h4 fun _ _ z => sm _ _ z)
    · cases h
end

section
variable {P : Program} {w : World} {K : PySem.W.Frag} {mg : Str → Option Value} {base : Heap} {c : Cs}
/-! ### the store as a model -/
theorem take_get {α : Type} {xs : List α} {i : Nat} {x : α} (h : xs[i]? = some x) : xs.take (i + 1) = xs.take i ++ [x] := by rw [List.take_succ, h]; rfl
/-- a value of the language: null, a boolean, an integer, a text, a built-in function, an object's number -/
inductive RV where
  | nul
  | boo (b : Bool)
  | num (n : Int)
  | txt (z : Str)
  | bt (z : Str)
  | ob (n : Nat)
  deriving DecidableEq
inductive Th where
  | parts (xs : List RV)
  | table (rows : List (RV × RV))
  | inst (owner : Nat) (fs : List (Str × RV))
  | kin (name : Str) (parent : Option Nat) (ms : List (Str × Nat))
  | clo (number wanted : Int) (scope : List Nat)
  | bound (owner fn : Nat)
  | var (v : RV)
  | cur (xs : List RV)
def IsRef (c : Cs) (H : Hp) (a : Addr) (n : Int) : Prop := ∃ dx, H a = some (.ins c.Ref dx [("number", .int n)])
def IsRefV (c : Cs) (H : Hp) (v : V) (n : Nat) : Prop := ∃ a, v = .ref a ∧ IsRef c H a (n : Nat)
def IsBt (c : Cs) (H : Hp) (a : Addr) (n : Str) : Prop := ∃ dx, H a = some (.ins c.Builtin dx [("name", .str n)])

def IsVal (c : Cs) (H : Hp) (v : V) : RV → Prop
  | .nul => v = .non
  | .boo b => v = .bl b
  | .num n => v = .int n
  | .txt z => v = .str z
  | .bt n => ∃ a, v = .ref a ∧ IsBt c H a n
  | .ob n => IsRefV c H v n
/-- what never changes: tuples, references, built-in functions -/
def Hard (c : Cs) (o : HO) : Prop := (∃ xs, o = .tup xs) ∨ (∃ dx fs, o = .ins c.Ref dx fs)
  ∨ (∃ dx fs, o = .ins c.Builtin dx fs)
def Soft (c : Cs) (H : Hp) (p : Addr) : Prop := ∀ o, H p = some o → ¬ Hard c o
theorem Hard.t (xs : List V) : Hard c (.tup xs) := .inl ⟨xs, rfl⟩

theorem Hard.r {dx : Addr} {fs : List (Str × V)} : Hard c (.ins c.Ref dx fs) := .inr (.inl ⟨dx, fs, rfl⟩)
theorem Hard.b {dx : Addr} {fs : List (Str × V)} : Hard c (.ins c.Builtin dx fs) := .inr (.inr ⟨dx, fs, rfl⟩)
/-- the hard things stay -/
def HardStay (c : Cs) (H H' : Hp) : Prop := ∀ a o, H a = some o → Hard c o → H' a = some o
theorem HardStay.same {H H' : Hp} (s : Same H H') : HardStay c H H' := fun a o e _ => s a o e
theorem HardStay.keep {H H' : Hp} {ps : List Addr} (k : Keep ps H H') (s : ∀ p ∈ ps, Soft c H p) : HardStay c H H' := fun a o e hd => k a o (fun m => s a m o e hd) e
theorem HardStay.trans {H H1 H2 : Hp} (h : HardStay c H H1) (g : HardStay c H1 H2) : HardStay c H H2 := fun a o e hd => g a o (h a o e hd) hd
theorem IsRef.hs {H H' : Hp} {a : Addr} {n : Int} (h : IsRef c H a n) (s : HardStay c H H') : IsRef c H' a n := h.imp fun _ e => s _ _ e Hard.r
theorem IsRef.same {H H' : Hp} {a : Addr} {n : Int} (h : IsRef c H a n) (s : Same H H') : IsRef c H' a n := h.imp fun _ e => s _ _ e
theorem IsRefV.hs {H H' : Hp} {v : V} {n : Nat} (h : IsRefV c H v n) (s : HardStay c H H') : IsRefV c H' v n := h.imp fun _ ⟨e, r⟩ => ⟨e, r.hs s⟩
theorem IsVal.hs {H H' : Hp} {v : V} {r : RV} (h : IsVal c H v r) (s : HardStay c H H') : IsVal c H' v r := by
  cases r <;> first
    | exact h
    | exact IsRefV.hs h s
    | (obtain ⟨a, e, dx, h⟩ := h; exact ⟨a, e, dx, s _ _ h Hard.b⟩)

theorem IsVal.same {H H' : Hp} {v : V} {r : RV} (h : IsVal c H v r) (s : Same H H') : IsVal c H' v r := h.hs (.same s)
abbrev VsAt (c : Cs) (H : Hp) : List V → List RV → Prop := Paired (IsVal c H)
theorem VsAt.hs {H H' : Hp} {xs : List V} {rs : List RV} (h : VsAt c H xs rs) (s : HardStay c H H') : VsAt c H' xs rs := Paired.mapP h fun _ _ z => z.hs s
abbrev RefsAt (c : Cs) (H : Hp) : List V → List Nat → Prop := Paired (IsRefV c H)
/-- an object of the store at a, its content at b -/
def ThAt (w : World) (c : Cs) (H : Hp) (a : Addr) (b : Option Addr) : Th → Prop
  | .parts rs => ∃ dx l xs, b = some l ∧ H a = some (.ins c.Parts dx [("held", .ref l)]) ∧ H l = some (.lst xs) ∧ VsAt c H xs rs
  | .table rows => ∃ d rws, b = some d ∧ IsTab c H a d ∧ TabR w H d rws ∧ Paired (fun x r => IsVal c H x.1 r.1 ∧ IsVal c H x.2 r.2) rws rows
  | .inst o fs => ∃ dx ra nd kvs, b = some nd ∧ H a = some (.ins c.Instance dx [("owner", .ref ra), ("named", .ref nd)]) ∧ IsRef c H ra (o : Nat) ∧ H nd = some (.dK kvs) ∧ Paired (fun (kv : Key × V) (f : Str × RV) => kv.1 = .inr f.1 ∧ IsVal c H kv.2 f.2) kvs fs
  | .kin n p ms => ∃ dx pv md kvs, b = some md ∧ H a = some (.ins c.Kin dx [("name", .str n), ("parent", pv), ("methods", .ref md)]) ∧ (match p with | none => pv = .non | some k => IsRefV c H pv k) ∧ H md = some (.dK kvs) ∧ Paired (fun (kv : Key × V) (f : Str × Nat) => kv.1 = .inr f.1 ∧ IsRefV c H kv.2 f.2) kvs ms
  | .clo n k sc => ∃ dx t xs, b = none ∧ H a = some (.ins c.Closure dx [("number", .int n), ("wanted", .int k), ("scope", .ref t)]) ∧ H t = some (.tup xs) ∧ RefsAt c H xs sc
  | .bound o f => ∃ dx v1 v2, b = none ∧ H a = some (.ins c.Bound dx [("owner", v1), ("function", v2)]) ∧ IsRefV c H v1 o ∧ IsRefV c H v2 f
  | .var v => ∃ dx x, b = none ∧ H a = some (.ins c.Variable dx [("value", x)]) ∧ IsVal c H x v
  | .cur rs => ∃ dx l xs, b = some l ∧ H a = some (.ins c.Cursor dx [("rest", .ref l)]) ∧ H l = some (.lst xs) ∧ VsAt c H xs rs

def footT (a : Addr) (b : Option Addr) : List Addr := a :: b.toList
theorem TabR.soft {H : Hp} {d : Addr} {rows : List (V × V)} (h : TabR w H d rows) : Soft c H d := by
  obtain ⟨⟨es, D, e0, r⟩, _⟩ := h
  intro o e hd
  rw [e0] at e
  cases e
  rcases hd with ⟨_, z⟩ | ⟨_, _, z⟩ | ⟨_, _, z⟩
  · exact nkO_ne_tup z
  · have z' : HO.ext _ = HO.ins _ _ _ := z
    cases z'
  · have z' : HO.ext _ = HO.ins _ _ _ := z
    cases z'
theorem putR_new {rows : List (V × V)} {k v : V} (h : k ∉ rows.map (·.1)) : putR rows k v = rows ++ [(k, v)] := by
  unfold putR
  rw [if_neg (by rw [rowAt_mem]; exact h)]
theorem ThAt.mono {H H' : Hp} {a : Addr} {b : Option Addr} {t : Th} (h : ThAt w c H a b t) (s : HardStay c H H') (ka : ∀ o, H a = some o → H' a = some o) (kb : ∀ q o, b = some q → H q = some o → H' q = some o) : ThAt w c H' a b t := by
  cases t with
  | parts rs => obtain ⟨dx, l, xs, rfl, e1, e2, e3⟩ := h; exact ⟨dx, l, xs, rfl, ka _ e1, kb _ _ rfl e2, e3.hs s⟩
  | table rows => obtain ⟨d, rws, rfl, ⟨dx, e1⟩, e2, e3⟩ := h; exact ⟨d, rws, rfl, ⟨dx, ka _ e1⟩, e2.mono (fun o e => kb _ _ rfl e) (fun q xs e => s _ _ e (Hard.t xs)), Paired.mapP e3 fun _ _ z => ⟨z.1.hs s, z.2.hs s⟩⟩
  | inst o fs => obtain ⟨dx, ra, nd, kvs, rfl, e1, e2, e3, e4⟩ := h; exact ⟨dx, ra, nd, kvs, rfl, ka _ e1, e2.hs s, kb _ _ rfl e3, Paired.mapP e4 fun _ _ z => ⟨z.1, z.2.hs s⟩⟩
  | kin n p ms => obtain ⟨dx, pv, md, kvs, rfl, e1, e2, e3, e4⟩ := h; exact ⟨dx, pv, md, kvs, rfl, ka _ e1, (by cases p with | none => exact e2 | some k => exact IsRefV.hs e2 s), kb _ _ rfl e3, Paired.mapP e4 fun _ _ z => ⟨z.1, z.2.hs s⟩⟩
  | clo n k sc => obtain ⟨dx, t, xs, rfl, e1, e2, e3⟩ := h; exact ⟨dx, t, xs, rfl, ka _ e1, s _ _ e2 (Hard.t xs), Paired.mapP e3 fun _ _ z => z.hs s⟩
  | bound o f => obtain ⟨dx, v1, v2, rfl, e1, e2, e3⟩ := h; exact ⟨dx, v1, v2, rfl, ka _ e1, e2.hs s, e3.hs s⟩
  | var v => obtain ⟨dx, x, rfl, e1, e2⟩ := h; exact ⟨dx, x, rfl, ka _ e1, e2.hs s⟩
  | cur rs => obtain ⟨dx, l, xs, rfl, e1, e2, e3⟩ := h; exact ⟨dx, l, xs, rfl, ka _ e1, kb _ _ rfl e2, e3.hs s⟩

theorem ThAt.same {H H' : Hp} {a : Addr} {b : Option Addr} {t : Th} (h : ThAt w c H a b t) (s : Same H H') : ThAt w c H' a b t := h.mono (.same s) (fun _ e => s _ _ e) fun _ _ _ e => s _ _ e
theorem ThAt.keep {H H' : Hp} {a : Addr} {b : Option Addr} {t : Th} {ps : List Addr} (h : ThAt w c H a b t) (k : Keep ps H H') (s : ∀ p ∈ ps, Soft c H p) (n : ∀ q ∈ footT a b, q ∉ ps) : ThAt w c H' a b t :=
  h.mono (.keep k s) (fun _ e => k _ _ (n _ (by simp [footT])) e) fun q _ hb e => k _ _ (n _ (by simp [footT, hb])) e
/-- the addresses of a store's objects; the store as a model -/
structure SA where
  (y tl ol ll : Addr)
  L : List (Addr × Option Addr)
def footL (L : List (Addr × Option Addr)) : List Addr := L.flatMap fun p => footT p.1 p.2
def SA.foot (x : SA) : List Addr := x.y :: x.tl :: x.ol :: x.ll :: footL x.L
structure SV where
  things : List Th
  out : List Str
  lines : List Str
  taken : Nat
def StR (c : Cs) (H : Hp) (y tl ol ll : Addr) (tk : V) : Prop := ∃ dx, H y = some (.ins c.Store dx [("things", .ref tl), ("output", .ref ol), ("lines", .ref ll), ("taken", tk)])
theorem StR.same {H H' : Hp} {y tl ol ll : Addr} {tk : V} (h : StR c H y tl ol ll tk) (s : Same H H') : StR c H' y tl ol ll tk := h.imp fun _ e => s _ _ e
structure Sto (w : World) (c : Cs) (H : Hp) (x : SA) (S : SV) : Prop where
  st : StR c H x.y x.tl x.ol x.ll (.int (S.taken : Nat))
  et : H x.tl = some (.lst (x.L.map fun p => V.ref p.1))
  eo : H x.ol = some (.lst (S.out.map V.str))
  el : H x.ll = some (.lst (S.lines.map V.str))
  th : Paired (fun p t => ThAt w c H p.1 p.2 t) x.L S.things
  nd : x.foot.Nodup
theorem Sto.same {H H' : Hp} {x : SA} {S : SV} (h : Sto w c H x S) (s : Same H H') : Sto w c H' x S := ⟨h.st.same s, s _ _ h.et, s _ _ h.eo, s _ _ h.el, Paired.mapP h.th fun _ _ z => z.same s, h.nd⟩
theorem paired_mem {α β : Type} {F : α → β → Prop} {xs : List α} {ys : List β} (h : Paired F xs ys) : Paired (fun a b => a ∈ xs ∧ F a b) xs ys := by
  induction h with
  | nil => exact .nil
  | cons r t ih => exact .cons ⟨List.mem_cons_self .., r⟩ (Paired.mapP ih fun _ _ z => ⟨List.mem_cons_of_mem _ z.1, z.2⟩)
theorem mem_footL {L : List (Addr × Option Addr)} {p : Addr × Option Addr} {q : Addr} (h : p ∈ L) (hq : q ∈ footT p.1 p.2) : q ∈ footL L := List.mem_flatMap.mpr ⟨p, h, hq⟩
/-- behind a change elsewhere -/
theorem Sto.keep {H H' : Hp} {x : SA} {S : SV} {ps : List Addr} (h : Sto w c H x S) (k : Keep ps H H') (s : ∀ p ∈ ps, Soft c H p) (n : ∀ q ∈ x.foot, q ∉ ps) : Sto w c H' x S := by
  have m1 : x.y ∈ x.foot := by simp [SA.foot]
  have m2 : x.tl ∈ x.foot := by simp [SA.foot]
  have m3 : x.ol ∈ x.foot := by simp [SA.foot]
  have m4 : x.ll ∈ x.foot := by simp [SA.foot]
  obtain ⟨dx, e⟩ := h.st
  exact ⟨⟨dx, k _ _ (n _ m1) e⟩, k _ _ (n _ m2) h.et, k _ _ (n _ m3) h.eo, k _ _ (n _ m4) h.el,
    Paired.mapP (paired_mem h.th) fun p t z => z.2.keep k s fun q hq => n q (by simp only [SA.foot, List.mem_cons]; exact .inr (.inr (.inr (.inr (mem_footL z.1 hq))))), h.nd⟩
theorem Sto.at {H : Hp} {x : SA} {S : SV} (h : Sto w c H x S) {n : Nat} {t : Th} (e : S.things[n]? = some t) : ∃ a b, x.L[n]? = some (a, b) ∧ ThAt w c H a b t := by
  have hl : x.L.length = S.things.length := Paired.length h.th
  obtain ⟨hi, _⟩ := List.getElem?_eq_some_iff.mp e
  have e1 : x.L[n]? = some x.L[n] := List.getElem?_eq_getElem (by omega)
  obtain ⟨t', h1, h2⟩ := paired_get h.th e1
  rw [e] at h1
  cases h1
  exact ⟨x.L[n].1, x.L[n].2, e1, h2⟩
/-! ### Store(..), its methods -/
def st0 (lines : List Str) : SV := ⟨[.kin "Error" none []], [], lines, 0⟩
def spStore (w : World) (K : PySem.W.Frag) (c : Cs) : Sp := fun vs H Q _ => match vs with
  | [.ref l] => ∃ zs : List Str, Rl K H l (zs.map V.str) ∧ ∀ x H1, Sto w c H1 x (st0 zs) → Same H H1 → (∀ q ∈ x.foot, H q = none) → Q (.ref x.y) H1
  | _ => False
theorem ok_store (A : AtM K c.Store "__init__" "Store.__init__" s_Store___init__ ["self", "lines"]) (T : Txt K mg c) (M_Kin : HasC P w K mg base CX0 c.Kin "Kin" 1 ["self", "name", "parent"] (spMk_Kin K c)) : HasC P w K mg base CX0 c.Store "Store" 3 ["self", "lines"] (spStore w K c) := by
  have Sc := sc_Store___init__
  refine hasC_of T.mk_Store A Sc (fun vs H Q E h => ?_) (fun cdv f A outer s H vs Q E y dx H0 hr h hy hs h0 => ?_)
  · unfold spStore at h; split at h; rfl; cases h
  · unfold spStore at h
    split at h
    · rename_i l
      obtain ⟨zs, r, h⟩ := h
      refine ⟨_, (pss_cons (fs_fld (fe_var 0) (fe_lst (pa_cons (fe_make (k := _) M_Kin (hr.mono (by walk_at "rm")) (by rfl) pass0 (pa_cons (fe_gstr (by rfl) T.g_ERROR) (pa_cons pe_non pa_nil))) pa_nil)) T.pl_things rfl)
      (pss_cons (fs_fld (fe_var 0) (fe_lst pa_nil) T.pl_output rfl)
      (pss_cons (fs_fld (fe_var 0) (pe_callTy call_fListOf (by rfl) T.no_list (by decide +kernel) (pa_cons (fe_var 1) pa_nil)) T.pl_lines rfl)
      (pss_one (fs_fld (fe_var 0) pe_int T.pl_taken rfl))))), ?_⟩
      walk_at "fx0"
      walk_at "ox"
      unfold spMk_Kin
      intro k kdx md H1 nk s1 e1 nmd emd hne
      walk_at "ox"
      intro tl H2 ntl s2 etl
      have ey2 := s2 _ _ (s1 _ _ h0)
      simp only [ey2]
      walk_at "ox"
      have ny2 : tl ≠ y := fun q => by rw [q, s1 _ _ h0] at ntl; cases ntl
      have nky : k ≠ y := fun q => by rw [q, h0] at nk; cases nk
      have nmy : md ≠ y := fun q => by rw [q, h0] at nmd; cases nmd
      intro ol H3 nol s3 eol
      have noy : ol ≠ y := fun q => by rw [q, upd_same] at nol; cases nol
      have not_ : tl ≠ ol := fun q => by rw [← q, upd_ne ny2, etl] at nol; cases nol
      have nolH : H2 ol = none := by rw [upd_ne noy] at nol; exact nol
      have ey3 := s3 _ _ upd_same
      simp only [ey3]
      walk_at "ox"
      refine ⟨_, rl_keep (mk_same ((mk_same ((hs.trans s1).trans s2) hy).trans s3) hy) r, ?_⟩
      intro ll H4 nll s4 ell
      have nly : ll ≠ y := fun q => by rw [q, upd_same] at nll; cases nll
      have nllH : H3 ll = none := by rw [upd_ne nly] at nll; exact nll
      have nlt : tl ≠ ll := fun q => by rw [← q, s3 _ _ ((upd_ne ny2).trans etl)] at nllH; cases nllH
      have nlo : ol ≠ ll := fun q => by rw [← q, eol] at nllH; cases nllH
      have ey4 := s4 _ _ upd_same
      simp only [ey4]
      walk_at "ox"
      have S2 : Same H H2 := (hs.trans s1).trans s2
      have S3 : Same H H3 := (mk_same S2 hy).trans s3
      have S4 : Same H H4 := (mk_same S3 hy).trans s4
      have up : ∀ {q : Addr} {o : HO}, q ≠ y → H2 q = some o → upd H4 y (.ins c.Store dx [("things", .ref tl), ("output", .ref ol), ("lines", .ref ll), ("taken", .int 0)]) q = some o := fun nq e =>
        (upd_ne nq).trans (s4 _ _ ((upd_ne nq).trans (s3 _ _ ((upd_ne nq).trans e))))
      have ek2 := s2 _ _ e1
      have em2 := s2 _ _ emd
      have nkt : k ≠ tl := fun q => by rw [q, etl] at ek2; cases ek2
      have nmt : md ≠ tl := fun q => by rw [q, etl] at em2; cases em2
      have nko : k ≠ ol := fun q => by rw [← q, ek2] at nolH; cases nolH
      have nmo : md ≠ ol := fun q => by rw [← q, em2] at nolH; cases nolH
      have nkl : k ≠ ll := fun q => by rw [← q, s3 _ _ ((upd_ne nky).trans ek2)] at nllH; cases nllH
      have nml : md ≠ ll := fun q => by rw [← q, s3 _ _ ((upd_ne nmy).trans em2)] at nllH; cases nllH
      refine h ⟨y, tl, ol, ll, [(k, some md)]⟩ _ ⟨⟨dx, upd_same⟩, up ny2 etl, (upd_ne noy).trans (s4 _ _ ((upd_ne noy).trans eol)), (upd_ne nly).trans ell, .cons ⟨kdx, .non, md, [], rfl, up nky ek2, rfl, up nmy em2, .nil⟩ .nil, ?_⟩ (mk_same S4 hy) ?_
      · simp only [SA.foot, footL, footT, List.flatMap_cons, List.flatMap_nil, Option.toList_some, List.cons_append, List.nil_append, List.append_nil, List.nodup_cons, List.mem_cons, List.not_mem_nil, or_false, not_or, List.nodup_nil, and_true, not_false_eq_true]
        exact ⟨⟨Ne.symm ny2, Ne.symm noy, Ne.symm nly, Ne.symm nky, Ne.symm nmy⟩, ⟨not_, nlt, Ne.symm nkt, Ne.symm nmt⟩, ⟨nlo, Ne.symm nko, Ne.symm nmo⟩, ⟨Ne.symm nkl, Ne.symm nml⟩, Ne.symm hne⟩
      · intro q hq
        simp only [SA.foot, footL, footT, List.flatMap_cons, List.flatMap_nil, Option.toList_some, List.cons_append, List.nil_append, List.append_nil, List.mem_cons, List.not_mem_nil, or_false] at hq
        rcases hq with rfl | rfl | rfl | rfl | rfl | rfl
        · exact hy
        · exact (hs.trans s1).free ntl
        · exact S2.free nolH
        · exact S3.free nllH
        · exact hs.free nk
        · exact hs.free nmd
    · cases h
end

section
variable {P : Program} {w : World} {K : PySem.W.Frag} {mg : Str → Option Value} {base : Heap} {c : Cs}
/-! ### objects of a store, by their classes -/
def clsT (c : Cs) : Th → Addr
  | .parts _ => c.Parts
  | .table _ => c.Table
  | .inst _ _ => c.Instance
  | .kin _ _ _ => c.Kin
  | .clo _ _ _ => c.Closure
  | .bound _ _ => c.Bound
  | .var _ => c.Variable
  | .cur _ => c.Cursor

theorem ThAt.ins {H : Hp} {a : Addr} {b : Option Addr} {t : Th} (h : ThAt w c H a b t) : ∃ dx fs, H a = some (.ins (clsT c t) dx fs) := by
  cases t <;> first
    | (obtain ⟨dx, l, xs, _, e, _⟩ := h; exact ⟨_, _, e⟩)
    | (obtain ⟨d, rws, _, ⟨dx, e⟩, _⟩ := h; exact ⟨_, _, e⟩)
    | (obtain ⟨dx, ra, nd, kvs, _, e, _⟩ := h; exact ⟨_, _, e⟩)
    | (obtain ⟨dx, e⟩ := h; exact ⟨_, _, e⟩)
    | (obtain ⟨dx, x, _, e, _⟩ := h; exact ⟨_, _, e⟩)
    | exact h.elim
def tyR (c : Cs) (S : SV) : RV → Value
  | .ob n => match S.things[n]? with
    | some t => .ref (clsT c t)
    | none => .type "NoneType"
  | _ => .type "NoneType"
def WfR (S : SV) (r : RV) : Prop := ∀ n, r = .ob n → n < S.things.length
theorem WfR.num {S : SV} {n : Int} : WfR S (.num n) := fun _ h => by cases h
def kindT : Th → Str
  | .parts _ => "list"
  | .table _ => "map"
  | .inst _ _ => "instance"
  | .kin _ _ _ => "class"
  | _ => "function"
def kindR (S : SV) : RV → Str
  | .nul => "null"
  | .boo _ => "boolean"
  | .num _ => "integer"
  | .txt _ => "text"
  | .bt _ => "function"
  | .ob n => match S.things[n]? with
    | some t => kindT t
    | none => "function"
def SA.add (x : SA) (a : Addr) (b : Option Addr) : SA := { x with L := x.L ++ [(a, b)] }
def SV.add (S : SV) (t : Th) : SV := { S with things := S.things ++ [t] }
theorem foot_add {x : SA} {a : Addr} {b : Option Addr} : (x.add a b).foot = x.foot ++ footT a b := by
  simp [SA.foot, SA.add, footL]
/-- a new object of the store -/
def NewTh (w : World) (c : Cs) (H : Hp) (x : SA) (S : SV) (t : Th) (Q : VK) : Prop := ∀ r a b H1, H r = none → (∀ q ∈ footT a b, H q = none) → Keep [x.tl] H H1 → Sto w c H1 (x.add a b) (S.add t) → IsRef c H1 r (S.things.length : Nat) → Q (.ref r) H1
theorem soft_lst {H : Hp} {p : Addr} {xs : List V} (e : H p = some (.lst xs)) : Soft c H p := fun o h hd => by
  rw [e] at h
  cases h
  rcases hd with ⟨_, h⟩ | hd
  · cases h
  · rcases hd with ⟨_, _, h⟩ | ⟨_, _, h⟩ <;> cases h

theorem soft_dk {H : Hp} {p : Addr} {xs : List (Key × V)} (e : H p = some (.dK xs)) : Soft c H p := fun o h hd => by
  rw [e] at h
  cases h
  rcases hd with ⟨_, h⟩ | hd
  · cases h
  · rcases hd with ⟨_, _, h⟩ | ⟨_, _, h⟩ <;> cases h

theorem Sto.soft_tl {H : Hp} {x : SA} {S : SV} (h : Sto w c H x S) : ∀ p ∈ [x.tl], Soft c H p := fun p m => by
  rw [List.mem_singleton.mp m]; exact soft_lst h.et
theorem mem_add {x : SA} {p : Addr × Option Addr} {q : Addr} (hp : p ∈ x.L) (hq : q ∈ footT p.1 p.2) : q ∈ x.foot := by
  simp only [SA.foot, List.mem_cons]; exact .inr (.inr (.inr (.inr (mem_footL hp hq))))
/-- an object that stands already is put into the store's list -/
theorem Sto.push {H H1 : Hp} {x : SA} {S : SV} {a : Addr} {b : Option Addr} {t : Th} (h : Sto w c H x S) (k : Keep [x.tl] H H1) (e : H1 x.tl = some (.lst ((x.L.map fun p => V.ref p.1) ++ [.ref a]))) (ht : ThAt w c H a b t) (hn : (footT a b).Nodup) (hd : ∀ q ∈ footT a b, q ∉ x.foot) : Sto w c H1 (x.add a b) (S.add t) := by
  have nd := h.nd
  have m2 : x.tl ∈ x.foot := by simp [SA.foot]
  simp only [SA.foot, List.nodup_cons, List.mem_cons, not_or] at nd
  obtain ⟨⟨n1, n2, n3, n4⟩, ⟨n5, n6, n7⟩, ⟨n8, n9⟩, n10, n11⟩ := nd
  obtain ⟨dx, ey⟩ := h.st
  refine ⟨⟨dx, k _ _ (by show x.y ∉ [x.tl]; simpa using n1) ey⟩, by rw [show (x.add a b).tl = x.tl from rfl, e]; simp [SA.add], k _ _ (by show x.ol ∉ [x.tl]; simpa using Ne.symm n5) h.eo, k _ _ (by show x.ll ∉ [x.tl]; simpa using Ne.symm n6) h.el, ?_, ?_⟩
  · refine Paired.snoc (Paired.mapP (paired_mem h.th) fun p t' z => z.2.keep k h.soft_tl fun q hq hm => ?_) (ht.keep k h.soft_tl fun q hq hm => ?_)
    · rw [List.mem_singleton.mp hm] at hq
      exact n7 (mem_footL z.1 hq)
    · rw [List.mem_singleton.mp hm] at hq
      exact hd _ hq m2
  · rw [foot_add, List.nodup_append]
    exact ⟨h.nd, hn, fun p hp q hq e => hd q hq (by rw [← e]; exact hp)⟩
def spMake (w : World) (c : Cs) : Sp := fun vs H Q _ => match vs with
  | [.ref y, .ref a] => ∃ x S b t, y = x.y ∧ Sto w c H x S ∧ ThAt w c H a b t ∧ (footT a b).Nodup ∧ (∀ q ∈ footT a b, q ∉ x.foot) ∧ S.things.length < 99999 ∧
    ∀ r H1, H r = none → Keep [x.tl] H H1 → Sto w c H1 (x.add a b) (S.add t) → IsRef c H1 r (S.things.length : Nat) → Q (.ref r) H1
  | _ => False
theorem ok_make (A : AtM K c.Store "make" "Store.make" s_Store_make ["self", "thing"]) (T : Txt K mg c) (M_Ref : HasC P w K mg base CX0 c.Ref "Ref" 1 ["self", "number"] (spMk_Ref K c)) : HasM P w K mg base CX0 c.Store "make" 3 ["self", "thing"] (spMake w c) := by
  have Sc := sc_Store_make
  refine hasM_of A Sc (fun vs H Q E h => ?_) (fun cdv f A outer s H vs Q E hr h => ?_)
  · unfold spMake at h; split at h; rfl; cases h
  · unfold spMake at h
    split at h
    · rename_i y a
      obtain ⟨x, S, b, t, rfl, hS, ht, hn, hd, hl, h⟩ := h
      have hlen : x.L.length = S.things.length := Paired.length hS.th
      obtain ⟨dx, e0⟩ := hS.st
      have e1 := hS.et
      have ne : x.y ≠ x.tl := fun q => by rw [q, e1] at e0; cases e0
      refine ⟨_, (pss_cons (ps_expr (fe_bm PySem.F.plainAttrs_list PySem.F.slot_list_append PySem.F.type_list_append isLst_ty mt_fAppend (fe_fld (fe_var 0) T.pl_things rfl) (pa_cons (fe_var 1) pa_nil)))
      (pss_one (ps_ret (fe_make (k := _) M_Ref (hr.mono (by walk_at "rm")) (by rfl) pass0 (pa_cons (pe_op op_fSub (pe_callB call_fLen (by rfl) T.no_len (by decide +kernel) (pa_cons (fe_fld (fe_var 0) T.pl_things rfl) pa_nil)) pe_int) pa_nil))))), ?_⟩
      walk_at "fx0"
      walk_at "ox"
      simp only [e0]
      walk_at "ox"
      simp only [e1]
      walk_at "ox"
      have e0' : ∀ o, upd H x.tl o x.y = some (.ins c.Store dx [("things", .ref x.tl), ("output", .ref x.ol), ("lines", .ref x.ll), ("taken", .int (S.taken : Nat))]) := fun o => by rw [upd_ne ne]; exact e0
      refine ⟨len_line' (by rw [List.length_map]; omega), ?_⟩
      simp only [e0']
      walk_at "ox"
      refine ⟨_, rl_l upd_same, ?_⟩
      unfold spMk_Ref
      intro r rdx H1 nr s1 er
      have k1 : Keep [x.tl] H H1 := (Keep.refl.upd (by simp)).trans (Keep.of s1)
      refine h r H1 ?_ k1 (hS.push k1 (s1 _ _ upd_same) ht hn hd) ⟨rdx, ?_⟩
      · by_cases q : r = x.tl
        · rw [q, upd_same] at nr; cases nr
        · rw [upd_ne q] at nr; exact nr
      · rw [er, List.length_append, List.length_map, List.length_cons, List.length_nil]
        have : (((x.L.length + (0 + 1) : Nat) : Int) - 1) = ((S.things.length : Nat) : Int) := by omega
        rw [this]
    · cases h
def spAt (w : World) (c : Cs) : Sp := fun vs H Q _ => match vs with
  | [.ref y, .ref r] => ∃ x S n t, y = x.y ∧ Sto w c H x S ∧ IsRef c H r (n : Nat) ∧ S.things[n]? = some t ∧ ∀ a b, x.L[n]? = some (a, b) → ThAt w c H a b t → Q (.ref a) H
  | _ => False
theorem Sto.num {H : Hp} {x : SA} {S : SV} (h : Sto w c H x S) {n : Nat} {t : Th} (e : S.things[n]? = some t) : ∃ a b, x.L[n]? = some (a, b) ∧ ThAt w c H a b t ∧ atI (x.L.map fun p => V.ref p.1) (n : Nat) = some (.ref a) := by
  obtain ⟨a, b, h1, h2⟩ := h.at e
  exact ⟨a, b, h1, h2, atI_nat (by rw [List.getElem?_map, h1]; rfl)⟩
theorem ok_at (A : AtM K c.Store "at" "Store.at" s_Store_at ["self", "ref"]) (T : Txt K mg c) : HasM P w K mg base CX0 c.Store "at" 1 ["self", "ref"] (spAt w c) := by
  have Sc := sc_Store_at
  refine hasM_of A Sc (fun vs H Q E h => ?_) (fun cdv f A outer s H vs Q E hr h => ?_)
  · unfold spAt at h; split at h; rfl; cases h
  · unfold spAt at h
    split at h
    · rename_i y r
      obtain ⟨x, S, n, t, rfl, hS, ⟨rdx, er⟩, et, h⟩ := h
      obtain ⟨dx, e0⟩ := hS.st
      obtain ⟨a, b, h1, h2, h3⟩ := hS.num et
      refine ⟨_, (pss_one (ps_ret (pe_ix ix_fx (fe_fld (fe_var 0) T.pl_things rfl) (fe_fld (fe_var 1) T.pl_number rfl) (fun _ _ => rfl)))), ?_⟩
      walk_at "fx0"
      walk_at "ox"
      simp only [e0]
      walk_at "ox"
      simp only [er]
      walk_at "ox"
      exact ⟨_, rl_l hS.et, _, h3, h a b h1 h2⟩
    · cases h
def spThing (w : World) (c : Cs) : Sp := fun vs H Q _ => match vs with
  | [.ref y, v] => ∃ x S r, y = x.y ∧ Sto w c H x S ∧ IsVal c H v r ∧ WfR S r ∧
    ∀ tv, tyV2 H tv = some (tyR c S r) → (∀ n t, r = .ob n → S.things[n]? = some t → ∃ a b, tv = .ref a ∧ x.L[n]? = some (a, b) ∧ ThAt w c H a b t) → ((∀ n, r ≠ .ob n) → tv = .non) → Q tv H
  | _ => False

def spKind (w : World) (c : Cs) : Sp := fun vs H Q _ => match vs with
  | [.ref y, v] => ∃ x S r, y = x.y ∧ Sto w c H x S ∧ IsVal c H v r ∧ WfR S r ∧ Q (.str (kindR S r)) H
  | _ => False

theorem kindR_len {S : SV} {r : RV} : (kindR S r).length ≤ 8 := by
  have ht : ∀ t, (kindT t).length ≤ 8 := fun t => by cases t <;> simp only [kindT] <;> decide
  cases r with
  | ob n =>
    show Str.length (match S.things[n]? with | some t => kindT t | none => "function") ≤ 8
    split
    · exact ht _
    · decide
  | _ => show Str.length _ ≤ 8; simp only [kindR]; decide
theorem keys_vs {H : Hp} {rws : List (V × V)} {rows : List (RV × RV)} (h : Paired (fun x r => IsVal c H x.1 r.1 ∧ IsVal c H x.2 r.2) rws rows) : VsAt c H (rws.map fun z => z.1) (rows.map fun z => z.1) := by
  induction h with
  | nil => exact .nil
  | cons a b ih => exact .cons a.1 ih
def rvOf : V → RV
  | .bl b => .boo b
  | .int n => .num n
  | .str z => .txt z
  | _ => .nul
theorem rvOf_is {H : Hp} {v : V} (h : scV v = true) : IsVal c H v (rvOf v) := by cases v <;> first | rfl | cases h
theorem rvOf_nb {v : V} {z : Str} : rvOf v ≠ .bt z := by cases v <;> (intro h; cases h)
theorem vs_rvOf {H : Hp} : ∀ {ks : List V}, (∀ v ∈ ks, scV v = true) → VsAt c H ks (ks.map rvOf)
  | [], _ => .nil
  | a :: t, h => .cons (rvOf_is (h a (List.mem_cons_self ..))) (vs_rvOf fun v m => h v (List.mem_cons_of_mem _ m))
end

section
variable {P : Program} {w : World} {K : PySem.W.Frag} {mg : Str → Option Value} {base : Heap} {c : Cs}

/-! ### new objects -/
theorem ThAt.live {H : Hp} {a : Addr} {b : Option Addr} {t : Th} (h : ThAt w c H a b t) : ∀ q ∈ footT a b, ∃ o, H q = some o := by
  have two_ : ∀ {l : Addr} {o1 o2 : HO}, H a = some o1 → H l = some o2 → ∀ q ∈ footT a (some l), ∃ o, H q = some o := by
    intro l o1 o2 e1 e2 q hq
    simp only [footT, Option.toList_some, List.mem_cons, List.not_mem_nil, or_false] at hq
    rcases hq with rfl | rfl
    · exact ⟨_, e1⟩
    · exact ⟨_, e2⟩
  have one_ : ∀ {o1 : HO}, H a = some o1 → ∀ q ∈ footT a none, ∃ o, H q = some o := by
    intro o1 e1 q hq
    simp only [footT, Option.toList_none, List.mem_cons, List.not_mem_nil, or_false] at hq
    rw [hq]; exact ⟨_, e1⟩
  cases t with
  | parts rs => obtain ⟨dx, l, xs, rfl, e1, e2, e3⟩ := h; exact two_ e1 e2
  | table rows => obtain ⟨d, rws, rfl, ⟨dx, e1⟩, e2, e3⟩ := h; obtain ⟨⟨es, D, e0, r⟩, nd⟩ := e2; exact two_ e1 e0
  | inst o fs => obtain ⟨dx, ra, nd, kvs, rfl, e1, e2, e3, e4⟩ := h; exact two_ e1 e3
  | kin n p ms => obtain ⟨dx, pv, md, kvs, rfl, e1, e2, e3, e4⟩ := h; exact two_ e1 e3
  | clo n k sc => obtain ⟨dx, t, xs, rfl, e1, e2, e3⟩ := h; exact one_ e1
  | bound o f => obtain ⟨dx, v1, v2, rfl, e1, e2, e3⟩ := h; exact one_ e1
  | var v => obtain ⟨dx, x, rfl, e1, e2⟩ := h; exact one_ e1
  | cur rs => obtain ⟨dx, l, xs, rfl, e1, e2, e3⟩ := h; exact two_ e1 e2

theorem Sto.live {H : Hp} {x : SA} {S : SV} (h : Sto w c H x S) : ∀ q ∈ x.foot, ∃ o, H q = some o := by
  intro q hq
  simp only [SA.foot, List.mem_cons] at hq
  rcases hq with rfl | rfl | rfl | rfl | hq
  · obtain ⟨dx, e⟩ := h.st; exact ⟨_, e⟩
  · exact ⟨_, h.et⟩
  · exact ⟨_, h.eo⟩
  · exact ⟨_, h.el⟩
  · obtain ⟨p, hp, hq⟩ := List.mem_flatMap.mp hq
    obtain ⟨i, hi, rfl⟩ := List.getElem_of_mem hp
    obtain ⟨t, _, ht⟩ := paired_get h.th (List.getElem?_eq_getElem hi)
    exact ht.live q hq
theorem new_make {H H1 : Hp} {x : SA} {S : SV} {a : Addr} {b : Option Addr} {t : Th} {Q : VK} {E : XK} (hS : Sto w c H x S) (s1 : Same H H1) (ht : ThAt w c H1 a b t) (hn : (footT a b).Nodup) (hf : ∀ q ∈ footT a b, H q = none) (hl : S.things.length < 99999) (h : NewTh w c H x S t Q) : spMake w c [.ref x.y, .ref a] H1 Q E :=
  ⟨x, S, b, t, rfl, hS.same s1, ht, hn, (fun q hq m => by
    obtain ⟨o, e⟩ := hS.live q m
    rw [hf q hq] at e
    cases e), hl, fun r H2 nr k st hr => h r a b H2 (s1.free nr) hf ((Keep.of s1).trans k) st hr⟩
theorem foot_two {a l : Addr} (h : l ≠ a) : (footT a (some l)).Nodup := by simp [footT, Ne.symm h]
theorem free_two {H : Hp} {a l : Addr} (h1 : H a = none) (h2 : H l = none) : ∀ q ∈ footT a (some l), H q = none := by
  intro q hq
  simp only [footT, Option.toList_some, List.mem_cons, List.not_mem_nil, or_false] at hq
  rcases hq with rfl | rfl <;> assumption
theorem foot_one {a : Addr} : (footT a none).Nodup := by simp [footT]
theorem free_one {H : Hp} {a : Addr} (h1 : H a = none) : ∀ q ∈ footT a none, H q = none := by
  intro q hq
  simp only [footT, Option.toList_none, List.mem_cons, List.not_mem_nil, or_false] at hq
  rw [hq]; exact h1

def spMkList (w : World) (c : Cs) : Sp := fun vs H Q _ => match vs with
  | [.ref y, .ref l] => ∃ x S xs rs, y = x.y ∧ Sto w c H x S ∧ H l = some (.lst xs) ∧ VsAt c H xs rs ∧ xs.length ≤ 1000 ∧ S.things.length < 99999 ∧ NewTh w c H x S (.parts rs) Q
  | _ => False

end

section
variable {P : Program} {w : World} {K : PySem.W.Frag} {mg : Str → Option Value} {base : Heap} {c : Cs}
/-! ### an object of the store changed -/
theorem paired_mk {α β : Type} {F : α → β → Prop} : ∀ {xs : List α} {ys : List β}, xs.length = ys.length → (∀ (i : Nat) (a : α) (b : β), xs[i]? = some a → ys[i]? = some b → F a b) → Paired F xs ys
  | [], [], _, _ => .nil
  | a :: xs, b :: ys, hl, h => .cons (h 0 a b rfl rfl) (paired_mk (by simpa using hl) fun i a b ha hb => h (i + 1) a b ha hb)
  | [], _ :: _, hl, _ => by cases hl
  | _ :: _, [], hl, _ => by cases hl
theorem footL_disj : ∀ {L : List (Addr × Option Addr)} {i j : Nat} {p p' : Addr × Option Addr} {q : Addr}, (footL L).Nodup → L[i]? = some p → L[j]? = some p' → q ∈ footT p.1 p.2 → q ∈ footT p'.1 p'.2 → i = j
  | [], i, _, _, _, _, _, h, _, _, _ => by cases i <;> cases h
  | r :: L, i, j, p, p', q, hn, h1, h2, m1, m2 => by
    have e : footL (r :: L) = footT r.1 r.2 ++ footL L := rfl
    rw [e, List.nodup_append] at hn
    cases i with
    | zero =>
      cases j with
      | zero => rfl
      | succ j =>
        cases h1
        exact absurd rfl (hn.2.2 q m1 q (mem_footL (List.mem_of_getElem? h2) m2))
    | succ i =>
      cases j with
      | zero =>
        cases h2
        exact absurd rfl (hn.2.2 q m2 q (mem_footL (List.mem_of_getElem? h1) m1))
      | succ j => rw [footL_disj hn.2.1 h1 h2 m1 m2]
def SV.setT (S : SV) (n : Nat) (t : Th) : SV := { S with things := S.things.set n t }
theorem Sto.setT {H H1 : Hp} {x : SA} {S : SV} {n : Nat} {a q : Addr} {t : Th} (h : Sto w c H x S) (hx : x.L[n]? = some (a, some q)) (k : Keep [q] H H1) (so : Soft c H q) (ht : ThAt w c H1 a (some q) t) : Sto w c H1 x (S.setT n t) := by
  have nd := h.nd
  have hl : x.L.length = S.things.length := Paired.length h.th
  have mq : q ∈ footL x.L := mem_footL (List.mem_of_getElem? hx) (by simp [footT])
  simp only [SA.foot, List.nodup_cons, List.mem_cons, not_or] at nd
  obtain ⟨⟨n1, n2, n3, n4⟩, ⟨n5, n6, n7⟩, ⟨n8, n9⟩, n10, n11⟩ := nd
  obtain ⟨dx, ey⟩ := h.st
  have no : ∀ {p : Addr}, p ∉ footL x.L → p ∉ [q] := fun hp m => hp (by rw [List.mem_singleton.mp m]; exact mq)
  have so' : ∀ p ∈ [q], Soft c H p := fun p m => by rw [List.mem_singleton.mp m]; exact so
  refine ⟨⟨dx, k _ _ (no n4) ey⟩, k _ _ (no n7) h.et, k _ _ (no n9) h.eo, k _ _ (no n10) h.el, ?_, h.nd⟩
  refine paired_mk (by rw [hl]; exact (List.length_set ..).symm) fun i p t' hp ht' => ?_
  have ht2 : (S.things.set n t)[i]? = some t' := ht'
  rw [List.getElem?_set] at ht2
  by_cases e : n = i
  · subst e
    rw [if_pos rfl] at ht2
    rw [hx] at hp
    cases hp
    split at ht2
    · cases ht2; exact ht
    · cases ht2
  · rw [if_neg e] at ht2
    obtain ⟨t2, e2, h2⟩ := paired_get h.th hp
    rw [ht2] at e2
    cases e2
    refine h2.keep k so' fun z hz m => ?_
    rw [List.mem_singleton.mp m] at hz
    exact e (footL_disj n11 hx hp (by simp [footT]) hz)
theorem footL_mem_set : ∀ {L : List (Addr × Option Addr)} {n : Nat} {p : Addr × Option Addr} {q : Addr}, q ∈ footL (L.set n p) → q ∈ footL L ∨ q ∈ footT p.1 p.2
  | [], _, _, _, h => by simp [footL] at h
  | r :: L, 0, p, q, h => by
    have h : q ∈ footT p.1 p.2 ++ footL L := h
    rcases List.mem_append.mp h with h | h
    · exact .inr h
    · exact .inl (List.mem_append_right _ h)
  | r :: L, n + 1, p, q, h => by
    have h : q ∈ footT r.1 r.2 ++ footL (L.set n p) := h
    rcases List.mem_append.mp h with h | h
    · exact .inl (List.mem_append_left _ h)
    · exact (footL_mem_set h).imp (fun z => List.mem_append_right _ z) id
theorem footL_set : ∀ {L : List (Addr × Option Addr)} {n : Nat} {p p' : Addr × Option Addr}, (footL L).Nodup → L[n]? = some p → (footT p'.1 p'.2).Nodup → (∀ q ∈ footT p'.1 p'.2, q ∈ footT p.1 p.2 ∨ q ∉ footL L) → (footL (L.set n p')).Nodup
  | [], _, _, _, _, h, _, _ => by cases h
  | r :: L, 0, p, p', h, e, hn, hf => by
    cases e
    have h : (footT r.1 r.2 ++ footL L).Nodup := h
    show (footT p'.1 p'.2 ++ footL L).Nodup
    rw [List.nodup_append] at h ⊢
    refine ⟨hn, h.2.1, fun a ha b hb z => ?_⟩
    rcases hf a ha with g | g
    · exact h.2.2 a g b hb z
    · exact g (List.mem_append_right _ (by rw [z]; exact hb))
  | r :: L, n + 1, p, p', h, e, hn, hf => by
    have h : (footT r.1 r.2 ++ footL L).Nodup := h
    have e : L[n]? = some p := e
    show (footT r.1 r.2 ++ footL (L.set n p')).Nodup
    rw [List.nodup_append] at h ⊢
    refine ⟨h.1, footL_set h.2.1 e hn (fun q m => (hf q m).imp id fun g z => g (List.mem_append_right _ z)), fun a ha b hb z => ?_⟩
    rcases footL_mem_set hb with g | g
    · exact h.2.2 a ha b g z
    · rcases hf b g with g | g
      · exact h.2.2 a ha b (mem_footL (List.mem_of_getElem? e) g) z
      · exact g (List.mem_append_left _ (by rw [← z]; exact ha))
def SA.setL (x : SA) (n : Nat) (a : Addr) (b : Option Addr) : SA := { x with L := x.L.set n (a, b) }
/-- an object of the store is changed at its own places, and may get a new second place -/
theorem Sto.mvT {H H1 : Hp} {x : SA} {S : SV} {n : Nat} {a : Addr} {b b' : Option Addr} {t : Th} {ps : List Addr} (h : Sto w c H x S) (hx : x.L[n]? = some (a, b)) (k : Keep ps H H1) (hps : ∀ p ∈ ps, p ∈ footT a b) (so : ∀ p ∈ ps, Soft c H p) (ht : ThAt w c H1 a b' t) (hn : (footT a b').Nodup) (hf : ∀ q ∈ footT a b', q ∈ footT a b ∨ H q = none) :
    Sto w c H1 (x.setL n a b') (S.setT n t) ∧ ∀ q ∈ (x.setL n a b').foot, q ∈ x.foot ∨ H q = none := by
  have nd := h.nd
  have lv := h.live
  have hl : x.L.length = S.things.length := Paired.length h.th
  have mq : ∀ p ∈ ps, p ∈ footL x.L := fun p m => mem_footL (List.mem_of_getElem? hx) (hps p m)
  simp only [SA.foot, List.nodup_cons, List.mem_cons, not_or] at nd
  obtain ⟨⟨n1, n2, n3, n4⟩, ⟨n5, n6, n7⟩, ⟨n8, n9⟩, n10, n11⟩ := nd
  obtain ⟨dx, ey⟩ := h.st
  have no : ∀ {p : Addr}, p ∉ footL x.L → p ∉ ps := fun hp m => hp (mq _ m)
  have hfx : ∀ q ∈ footL (x.L.set n (a, b')), q ∈ footL x.L ∨ H q = none := fun q m => by
    rcases footL_mem_set m with g | g
    · exact .inl g
    · exact (hf q g).imp (fun z => mem_footL (List.mem_of_getElem? hx) z) id
  have off : ∀ {q : Addr} {o : HO}, q ∉ footL x.L → H q = some o → q ∉ footL (x.L.set n (a, b')) := fun g e m => by
    rcases hfx _ m with z | z
    · exact g z
    · rw [e] at z; cases z
  have em : (x.L.set n (a, b')).map (fun p => V.ref p.1) = x.L.map fun p => V.ref p.1 := by
    rw [List.map_set]
    refine List.ext_getElem? fun i => ?_
    rw [List.getElem?_set]
    split
    · rename_i q
      subst q
      rw [List.getElem?_map, hx]
      rw [List.length_map, if_pos (List.getElem?_eq_some_iff.mp hx).1]; rfl
    · rfl
  refine ⟨⟨⟨dx, k _ _ (no n4) ey⟩, ?_, k _ _ (no n9) h.eo, k _ _ (no n10) h.el, ?_, ?_⟩, fun q m => ?_⟩
  · show H1 x.tl = some (.lst ((x.L.set n (a, b')).map fun p => V.ref p.1))
    rw [em]; exact k _ _ (no n7) h.et
  · refine paired_mk (by show (x.L.set n (a, b')).length = (S.things.set n t).length; rw [List.length_set, List.length_set, hl]) fun i p t' hp ht' => ?_
    have ht2 : (S.things.set n t)[i]? = some t' := ht'
    have hp2 : (x.L.set n (a, b'))[i]? = some p := hp
    rw [List.getElem?_set] at ht2 hp2
    by_cases e : n = i
    · subst e
      rw [if_pos rfl] at ht2 hp2
      split at ht2
      · split at hp2
        · cases ht2; cases hp2; exact ht
        · cases hp2
      · cases ht2
    · rw [if_neg e] at ht2 hp2
      obtain ⟨t2, e2, h2⟩ := paired_get h.th hp2
      rw [ht2] at e2
      cases e2
      exact h2.keep k so fun z hz m => e (footL_disj n11 hx hp2 (hps z m) hz)
  · obtain ⟨_, ey1⟩ := lv x.y (by simp [SA.foot])
    simp only [SA.foot, SA.setL, List.nodup_cons, List.mem_cons, not_or]
    exact ⟨⟨n1, n2, n3, off n4 ey⟩, ⟨n5, n6, off n7 h.et⟩, ⟨n8, off n9 h.eo⟩, off n10 h.el, footL_set n11 hx hn fun q m => (hf q m).imp id fun z g => by
      obtain ⟨o, eo⟩ := lv q (by simp [SA.foot, g])
      rw [z] at eo; cases eo⟩
  · simp only [SA.foot, SA.setL, List.mem_cons] at m ⊢
    rcases m with m | m | m | m | m
    · exact .inl (.inl m)
    · exact .inl (.inr (.inl m))
    · exact .inl (.inr (.inr (.inl m)))
    · exact .inl (.inr (.inr (.inr (.inl m))))
    · exact (hfx q m).imp (fun z => .inr (.inr (.inr (.inr z)))) id
theorem setL_foot {x : SA} {n : Nat} {a q : Addr} {b : Option Addr} (h : q ∈ (x.setL n a b).foot) : q ∈ x.foot ∨ q ∈ footT a b := by
  simp only [SA.foot, SA.setL, List.mem_cons] at h ⊢
  rcases h with m | m | m | m | m
  · exact .inl (.inl m)
  · exact .inl (.inr (.inl m))
  · exact .inl (.inr (.inr (.inl m)))
  · exact .inl (.inr (.inr (.inr (.inl m))))
  · exact (footL_mem_set m).imp (fun z => .inr (.inr (.inr (.inr z)))) id
end

section
variable {P : Program} {w : World} {K : PySem.W.Frag} {mg : Str → Option Value} {base : Heap} {c : Cs}
/-! ### the law's state, the store and the law's own things, apart from each other -/
structure Wd (K : PySem.W.Frag) (w : World) (c : Cs) (H0 : Hp) (s sc : Addr) (ns : List Int) (x : SA) (S : SV) (G : Hp → Prop) (gf : List Addr) (H : Hp) : Prop where
  dr : Dr K H0 s sc ns H
  st : Sto w c H x S
  g : G H
  gm : ∀ H H', G H → HardStay c H H' → (∀ q ∈ gf, ∀ o, H q = some o → H' q = some o) → G H'
  gl : ∀ q ∈ gf, ∃ o, H q = some o
  nd : (s :: (x.foot ++ gf)).Nodup
  fr : ∀ q ∈ s :: (x.foot ++ gf), H0 q = none
section
variable {H0 : Hp} {s sc : Addr} {ns : List Int} {x : SA} {S : SV} {G : Hp → Prop} {gf : List Addr} {H H1 : Hp}
theorem Wd.s_foot (W : Wd K w c H0 s sc ns x S G gf H) : ∀ {q : Addr}, q ∈ x.foot → s ≠ q := fun {q} m e => (List.nodup_cons.mp W.nd).1 (by rw [e]; exact List.mem_append_left _ m)
theorem Wd.s_gf (W : Wd K w c H0 s sc ns x S G gf H) : ∀ {q : Addr}, q ∈ gf → s ≠ q := fun {q} m e => (List.nodup_cons.mp W.nd).1 (by rw [e]; exact List.mem_append_right _ m)
theorem Wd.f_gf (W : Wd K w c H0 s sc ns x S G gf H) : ∀ {p q : Addr}, p ∈ x.foot → q ∈ gf → p ≠ q := fun {p q} m n e => (List.nodup_append.mp (List.nodup_cons.mp W.nd).2).2.2 p m q n e
theorem Wd.f0 (W : Wd K w c H0 s sc ns x S G gf H) : ∀ {q : Addr}, q ∈ x.foot → H0 q = none := fun m => W.fr _ (List.mem_cons_of_mem _ (List.mem_append_left _ m))
theorem Wd.g0 (W : Wd K w c H0 s sc ns x S G gf H) : ∀ {q : Addr}, q ∈ gf → H0 q = none := fun m => W.fr _ (List.mem_cons_of_mem _ (List.mem_append_right _ m))
theorem Wd.s_soft (W : Wd K w c H0 s sc ns x S G gf H) : ∀ p ∈ [s], Soft c H p := fun p m => by
  obtain ⟨a, k, e, _⟩ := W.dr.st
  rw [List.mem_singleton.mp m]; exact soft_lst e
theorem Wd.live (W : Wd K w c H0 s sc ns x S G gf H) : ∀ {q : Addr}, q ∈ s :: (x.foot ++ gf) → ∃ o, H q = some o := fun {q} m => by
  rcases List.mem_cons.mp m with rfl | m
  · obtain ⟨a, k, e, _⟩ := W.dr.st; exact ⟨_, e⟩
  · rcases List.mem_append.mp m with m | m
    · exact W.st.live q m
    · exact W.gl q m
theorem Wd.gkeep (W : Wd K w c H0 s sc ns x S G gf H) {ps : List Addr} (k : Keep ps H H1) (so : ∀ p ∈ ps, Soft c H p) (n : ∀ q ∈ gf, q ∉ ps) : G H1 ∧ ∀ q ∈ gf, ∃ o, H1 q = some o :=
  ⟨W.gm _ _ W.g (.keep k so) fun q m o e => k _ _ (n q m) e, fun q m => (W.gl q m).imp fun o e => k _ _ (n q m) e⟩
theorem Wd.draw (W : Wd K w c H0 s sc ns x S G gf H) (k : Keep [s] H H1) (d : Dr K H0 s sc ns H1) : Wd K w c H0 s sc ns x S G gf H1 := by
  obtain ⟨g1, g2⟩ := W.gkeep k W.s_soft fun q m n => W.s_gf m (List.mem_singleton.mp n).symm
  exact ⟨d, W.st.keep k W.s_soft fun q m n => W.s_foot m (List.mem_singleton.mp n).symm, g1, W.gm, g2, W.nd, W.fr⟩
theorem Wd.same (W : Wd K w c H0 s sc ns x S G gf H) (k : Same H H1) : Wd K w c H0 s sc ns x S G gf H1 :=
  ⟨W.dr.same k, W.st.same k, W.gm _ _ W.g (.same k) fun q _ o e => k _ _ e, W.gm, fun q m => (W.gl q m).imp fun o e => k _ _ e, W.nd, W.fr⟩
theorem Wd.make (W : Wd K w c H0 s sc ns x S G gf H) {a : Addr} {b : Option Addr} {t : Th} (hf : ∀ q ∈ footT a b, H q = none) (k : Keep [x.tl] H H1) (st : Sto w c H1 (x.add a b) (S.add t)) : Wd K w c H0 s sc ns (x.add a b) (S.add t) G gf H1 := by
  have mt : x.tl ∈ x.foot := by simp [SA.foot]
  have n0 : ∀ q ∈ footT a b, q ∉ s :: (x.foot ++ gf) := fun q hq m => by obtain ⟨o, e⟩ := W.live m; rw [hf q hq] at e; cases e
  obtain ⟨g1, g2⟩ := W.gkeep k W.st.soft_tl fun q m n => W.f_gf mt m (List.mem_singleton.mp n).symm
  refine ⟨W.dr.keep k (fun n => W.s_foot mt (List.mem_singleton.mp n)) fun q n => by rw [List.mem_singleton.mp n]; exact W.f0 mt, st, g1, W.gm, g2, ?_, ?_⟩
  · have nd2 := st.nd
    rw [foot_add] at nd2 ⊢
    rw [List.nodup_cons, List.nodup_append]
    refine ⟨fun m => ?_, nd2, (List.nodup_append.mp (List.nodup_cons.mp W.nd).2).2.1, fun p hp q hq e => ?_⟩
    · rcases List.mem_append.mp m with m | m
      · rcases List.mem_append.mp m with m | m
        · exact W.s_foot m rfl
        · exact n0 s m (List.mem_cons_self ..)
      · exact W.s_gf m rfl
    · rcases List.mem_append.mp hp with hp | hp
      · exact W.f_gf hp hq e
      · exact n0 p hp (by rw [e]; exact List.mem_cons_of_mem _ (List.mem_append_right _ hq))
  · intro q m
    rw [foot_add] at m
    rcases List.mem_cons.mp m with rfl | m
    · exact W.fr _ (List.mem_cons_self ..)
    · rcases List.mem_append.mp m with m | m
      · rcases List.mem_append.mp m with m | m
        · exact W.f0 m
        · exact W.dr.sm.free (hf q m)
      · exact W.g0 m
theorem Wd.set (W : Wd K w c H0 s sc ns x S G gf H) {S' : SV} {q : Addr} (hq : q ∈ x.foot) (k : Keep [q] H H1) (so : Soft c H q) (st : Sto w c H1 x S') : Wd K w c H0 s sc ns x S' G gf H1 := by
  obtain ⟨g1, g2⟩ := W.gkeep k (fun p m => by rw [List.mem_singleton.mp m]; exact so) fun p m n => W.f_gf hq m (List.mem_singleton.mp n).symm
  exact ⟨W.dr.keep k (fun n => W.s_foot hq (List.mem_singleton.mp n)) fun p n => by rw [List.mem_singleton.mp n]; exact W.f0 hq, st, g1, W.gm, g2, W.nd, W.fr⟩
/-- the law's own things are changed at q, its own -/
theorem Wd.own (W : Wd K w c H0 s sc ns x S G gf H) {G' : Hp → Prop} {q : Addr} (hq : q ∈ gf) (k : Keep [q] H H1) (so : Soft c H q) (l : ∃ o, H1 q = some o) (g : G' H1) (gm : ∀ H H', G' H → HardStay c H H' → (∀ q ∈ gf, ∀ o, H q = some o → H' q = some o) → G' H') : Wd K w c H0 s sc ns x S G' gf H1 := by
  refine ⟨W.dr.keep k (fun n => W.s_gf hq (List.mem_singleton.mp n)) fun p n => by rw [List.mem_singleton.mp n]; exact W.g0 hq, W.st.keep k (fun p m => by rw [List.mem_singleton.mp m]; exact so) fun p m n => W.f_gf m hq (List.mem_singleton.mp n), g, gm, fun p m => ?_, W.nd, W.fr⟩
  by_cases e : p = q
  · rw [e]; exact l
  · exact (W.gl p m).imp fun o z => k _ _ (by simpa using e) z
/-- the law's own things grow by new ones -/
theorem Wd.grow (W : Wd K w c H0 s sc ns x S G gf H) {G' : Hp → Prop} {qs : List Addr} (k : Same H H1) (nq : ∀ q ∈ qs, H q = none) (hn : qs.Nodup) (l : ∀ q ∈ qs, ∃ o, H1 q = some o) (g : G' H1) (gm : ∀ H H', G' H → HardStay c H H' → (∀ q ∈ gf ++ qs, ∀ o, H q = some o → H' q = some o) → G' H') : Wd K w c H0 s sc ns x S G' (gf ++ qs) H1 := by
  have n0 : ∀ q ∈ qs, q ∉ s :: (x.foot ++ gf) := fun q hq m => by obtain ⟨o, e⟩ := W.live m; rw [nq q hq] at e; cases e
  refine ⟨W.dr.same k, W.st.same k, g, gm, fun q m => ?_, ?_, fun q m => ?_⟩
  · rcases List.mem_append.mp m with m | m
    · exact (W.gl q m).imp fun o e => k _ _ e
    · exact l q m
  · have e : s :: (x.foot ++ (gf ++ qs)) = (s :: (x.foot ++ gf)) ++ qs := by simp
    rw [e, List.nodup_append]
    exact ⟨W.nd, hn, fun p hp q hq z => n0 q hq (by rw [← z]; exact hp)⟩
  · have e : s :: (x.foot ++ (gf ++ qs)) = (s :: (x.foot ++ gf)) ++ qs := by simp
    rw [e] at m
    rcases List.mem_append.mp m with m | m
    · exact W.fr q m
    · exact W.dr.sm.free (nq q m)
/-- the store is changed at its own places, and may get new ones -/
theorem Wd.mv (W : Wd K w c H0 s sc ns x S G gf H) {x' : SA} {S' : SV} {ps : List Addr} (k : Keep ps H H1) (hps : ∀ p ∈ ps, p ∈ x.foot) (so : ∀ p ∈ ps, Soft c H p) (st : Sto w c H1 x' S') (hf : ∀ q ∈ x'.foot, q ∈ x.foot ∨ H q = none) : Wd K w c H0 s sc ns x' S' G gf H1 := by
  obtain ⟨g1, g2⟩ := W.gkeep k so fun p m n => W.f_gf (hps p n) m rfl
  have n0 : ∀ {q : Addr}, H q = none → q ∉ s :: (x.foot ++ gf) := fun e m => by obtain ⟨o, z⟩ := W.live m; rw [e] at z; cases z
  refine ⟨W.dr.keep k (fun n => W.s_foot (hps _ n) rfl) fun p n => W.f0 (hps p n), st, g1, W.gm, g2, ?_, ?_⟩
  · rw [List.nodup_cons, List.nodup_append]
    refine ⟨fun m => ?_, st.nd, (List.nodup_append.mp (List.nodup_cons.mp W.nd).2).2.1, fun p hp q hq e => ?_⟩
    · rcases List.mem_append.mp m with m | m
      · rcases hf _ m with z | z
        · exact W.s_foot z rfl
        · exact n0 z (List.mem_cons_self ..)
      · exact W.s_gf m rfl
    · rcases hf _ hp with z | z
      · exact W.f_gf z hq e
      · exact n0 z (by rw [e]; exact List.mem_cons_of_mem _ (List.mem_append_right _ hq))
  · intro q m
    rcases List.mem_cons.mp m with rfl | m
    · exact W.fr _ (List.mem_cons_self ..)
    · rcases List.mem_append.mp m with m | m
      · rcases hf _ m with z | z
        · exact W.f0 z
        · exact W.dr.sm.free z
      · exact W.g0 m
/-- the law's own things are changed at their places, and may get new ones -/
theorem Wd.mvG (W : Wd K w c H0 s sc ns x S G gf H) {G' : Hp → Prop} {gf' ps : List Addr} (k : Keep ps H H1) (hps : ∀ p ∈ ps, p ∈ gf) (so : ∀ p ∈ ps, Soft c H p) (hn : gf'.Nodup) (hf : ∀ q ∈ gf', q ∈ gf ∨ H q = none) (l : ∀ q ∈ gf', ∃ o, H1 q = some o) (g : G' H1) (gm : ∀ H H', G' H → HardStay c H H' → (∀ q ∈ gf', ∀ o, H q = some o → H' q = some o) → G' H') : Wd K w c H0 s sc ns x S G' gf' H1 := by
  have n0 : ∀ {q : Addr}, H q = none → q ∉ s :: (x.foot ++ gf) := fun e m => by obtain ⟨o, z⟩ := W.live m; rw [e] at z; cases z
  refine ⟨W.dr.keep k (fun n => W.s_gf (hps _ n) rfl) fun p n => W.g0 (hps p n), W.st.keep k so fun p m n => W.f_gf m (hps _ n) rfl, g, gm, l, ?_, ?_⟩
  · rw [List.nodup_cons, List.nodup_append]
    refine ⟨fun m => ?_, W.st.nd, hn, fun p hp q hq e => ?_⟩
    · rcases List.mem_append.mp m with m | m
      · exact W.s_foot m rfl
      · rcases hf _ m with z | z
        · exact W.s_gf z rfl
        · exact n0 z (List.mem_cons_self ..)
    · rcases hf _ hq with z | z
      · exact W.f_gf hp z e
      · exact n0 z (by rw [← e]; exact List.mem_cons_of_mem _ (List.mem_append_left _ hp))
  · intro q m
    rcases List.mem_cons.mp m with rfl | m
    · exact W.fr _ (List.mem_cons_self ..)
    · rcases List.mem_append.mp m with m | m
      · exact W.f0 m
      · rcases hf _ m with z | z
        · exact W.g0 z
        · exact W.dr.sm.free z
/-- a change at places that are nobody's -/
theorem Wd.junk (W : Wd K w c H0 s sc ns x S G gf H) {ps : List Addr} (k : Keep ps H H1) (so : ∀ p ∈ ps, Soft c H p) (h0 : ∀ p ∈ ps, H0 p = none) (n : ∀ p ∈ ps, p ∉ s :: (x.foot ++ gf)) : Wd K w c H0 s sc ns x S G gf H1 := by
  obtain ⟨g1, g2⟩ := W.gkeep k so fun q m z => n q z (List.mem_cons_of_mem _ (List.mem_append_right _ m))
  exact ⟨W.dr.keep k (fun z => n _ z (List.mem_cons_self ..)) h0, W.st.keep k so fun q m z => n q z (List.mem_cons_of_mem _ (List.mem_append_left _ m)), g1, W.gm, g2, W.nd, W.fr⟩
/-- things that stand already become the law's own -/
theorem Wd.adopt (W : Wd K w c H0 s sc ns x S G gf H) {G' : Hp → Prop} {gf' : List Addr} (g : G' H) (gm : ∀ H H', G' H → HardStay c H H' → (∀ q ∈ gf', ∀ o, H q = some o → H' q = some o) → G' H') (hg : ∀ q ∈ gf', q ∈ gf ∨ (q ∉ s :: (x.foot ++ gf) ∧ H0 q = none ∧ ∃ o, H q = some o)) (hn : gf'.Nodup) : Wd K w c H0 s sc ns x S G' gf' H := by
  refine ⟨W.dr, W.st, g, gm, fun q m => ?_, ?_, fun q m => ?_⟩
  · rcases hg q m with z | ⟨_, _, z⟩
    · exact W.gl q z
    · exact z
  · rw [List.nodup_cons, List.nodup_append]
    refine ⟨fun m => ?_, W.st.nd, hn, fun p hp q hq e => ?_⟩
    · rcases List.mem_append.mp m with m | m
      · exact W.s_foot m rfl
      · rcases hg _ m with z | ⟨z, _⟩
        · exact W.s_gf z rfl
        · exact z (List.mem_cons_self ..)
    · rcases hg _ hq with z | ⟨z, _⟩
      · exact W.f_gf hp z e
      · exact z (by rw [← e]; exact List.mem_cons_of_mem _ (List.mem_append_left _ hp))
  · rcases List.mem_cons.mp m with rfl | m
    · exact W.fr _ (List.mem_cons_self ..)
    · rcases List.mem_append.mp m with m | m
      · exact W.f0 m
      · rcases hg _ m with z | ⟨_, z, _⟩
        · exact W.g0 z
        · exact z
/-- an object that stands already is put into the store -/
theorem Wd.make2 (W : Wd K w c H0 s sc ns x S G gf H) {a : Addr} {b : Option Addr} {t : Th} (hf : ∀ q ∈ footT a b, q ∉ s :: (x.foot ++ gf)) (h0 : ∀ q ∈ footT a b, H0 q = none) (k : Keep [x.tl] H H1) (st : Sto w c H1 (x.add a b) (S.add t)) : Wd K w c H0 s sc ns (x.add a b) (S.add t) G gf H1 := by
  have mt : x.tl ∈ x.foot := by simp [SA.foot]
  obtain ⟨g1, g2⟩ := W.gkeep k W.st.soft_tl fun q m n => W.f_gf mt m (List.mem_singleton.mp n).symm
  refine ⟨W.dr.keep k (fun n => W.s_foot mt (List.mem_singleton.mp n)) fun q n => by rw [List.mem_singleton.mp n]; exact W.f0 mt, st, g1, W.gm, g2, ?_, ?_⟩
  · have nd2 := st.nd
    rw [foot_add] at nd2 ⊢
    rw [List.nodup_cons, List.nodup_append]
    refine ⟨fun m => ?_, nd2, (List.nodup_append.mp (List.nodup_cons.mp W.nd).2).2.1, fun p hp q hq e => ?_⟩
    · rcases List.mem_append.mp m with m | m
      · rcases List.mem_append.mp m with m | m
        · exact W.s_foot m rfl
        · exact hf s m (List.mem_cons_self ..)
      · exact W.s_gf m rfl
    · rcases List.mem_append.mp hp with hp | hp
      · exact W.f_gf hp hq e
      · exact hf p hp (by rw [e]; exact List.mem_cons_of_mem _ (List.mem_append_right _ hq))
  · intro q m
    rw [foot_add] at m
    rcases List.mem_cons.mp m with rfl | m
    · exact W.fr _ (List.mem_cons_self ..)
    · rcases List.mem_append.mp m with m | m
      · rcases List.mem_append.mp m with m | m
        · exact W.f0 m
        · exact h0 q m
      · exact W.g0 m
/-- the same, told otherwise -/
theorem Wd.as (W : Wd K w c H0 s sc ns x S G gf H) {G' : Hp → Prop} {gf' : List Addr} (p : gf.Perm gf') (g : ∀ H, G H → G' H) (gm : ∀ H H', G' H → HardStay c H H' → (∀ q ∈ gf', ∀ o, H q = some o → H' q = some o) → G' H') : Wd K w c H0 s sc ns x S G' gf' H :=
  ⟨W.dr, W.st, g _ W.g, gm, fun q m => W.gl q (p.mem_iff.mpr m), ((p.append_left x.foot).cons s).nodup_iff.mp W.nd, fun q m => W.fr q (((p.append_left x.foot).cons s).mem_iff.mpr m)⟩
end
end

section
variable {P : Program} {w : World} {K : PySem.W.Frag} {mg : Str → Option Value} {base : Heap} {c : Cs}
def spPick2 (K : PySem.W.Frag) : Sp := fun vs H Q _ => match vs with
  | [.ref s, r] => ∃ H0 sc ns xs, Dr K H0 s sc ns H ∧ (match r with | .ref a => ∀ H1, Keep [s] H H1 → Rl K H1 a xs | .str z => xs = z.cps.toList.map (fun ch => V.str ⟨#[ch]⟩) | _ => False) ∧ 0 < xs.length ∧ xs.length ≤ 1000 ∧ ∀ H1 v, Keep [s] H H1 → Dr K H0 s sc ns H1 → v ∈ xs → Q v H1
  | _ => False
theorem ok_pick2 (A : At K mg "_law_pick" "_law_pick" s_law_pick ["state", "row"]) (T : Txt K mg c) (H_law_draw : Has P w K mg base CX0 "_law_draw" 2 ["state", "many"] (spDraw K)) : Has P w K mg base CX0 "_law_pick" 3 ["state", "row"] (spPick2 K) := by
  have Sc := sc_law_pick
  refine has_of A Sc (fun vs H Q E h => ?_) (fun cdv f A outer s H vs Q E hr h => ?_)
  · unfold spPick2 at h; split at h; rfl; cases h
  · unfold spPick2 at h
    split at h
    · rename_i st r
      obtain ⟨H0, sc, ns, xs, D, hr1, h0, h1, kk⟩ := h
      refine ⟨_, (pss_one (ps_ret (pe_ix ix_fx (fe_var 1) (fe_call H_law_draw (hr.mono (by walk_at "rm")) (by rfl) pass0 (pa_cons (fe_var 0) (pa_cons (pe_callB call_fLen (by rfl) T.no_len (by decide +kernel) (pa_cons (fe_var 1) pa_nil)) pa_nil))) (fun _ _ => rfl)))), ?_⟩
      walk_at "fx0"
      split at hr1
      · rename_i r
        walk_at "fx"
        refine ⟨_, hr1 H Keep.refl, ?_⟩
        unfold spDraw
        refine ⟨H0, sc, ns, D, by omega, by omega, fun H1 d kp D1 d0 d1 => ?_⟩
        obtain ⟨v, hv, ev⟩ := at_vs (xs := xs) d0 d1
        exact ⟨_, hr1 H1 kp, v, ev, kk H1 v kp D1 hv⟩
      · rename_i z
        have hz : z.length = xs.length := by rw [hr1, List.length_map]; exact Array.length_toList.symm
        have hl : z.length ≤ sizeLine := by
          have := len_line' (n := z.length) (by omega)
          omega
        walk_at "fx"
        refine ⟨hl, ?_⟩
        unfold spDraw
        refine ⟨H0, sc, ns, D, by omega, by omega, fun H1 d kp D1 d0 d1 => ?_⟩
        obtain ⟨n, rfl⟩ := Int.eq_ofNat_of_zero_le d0
        have hn : n < z.cps.toList.length := by
          have d1' : (n : Int) < (z.length : Nat) := d1
          have e : z.cps.toList.length = z.length := Array.length_toList
          rw [e]
          omega
        have ec : z.cps.toList[n]? = some z.cps.toList[n] := List.getElem?_eq_getElem hn
        refine ⟨hl, _, atI_nat ec, kk H1 _ kp D1 ?_⟩
        rw [hr1]
        exact List.mem_map_of_mem (List.getElem_mem hn)
      · exact hr1.elim
    · cases h
end

section
/-! ### comprehensions over a dict's keys, with its values -/
theorem valV_mem {E : List (Key × V)} {kv : Key × V} (h : kv ∈ E) : ∃ v, valV E kv.1 = some v ∧ ∃ q ∈ E, q.2 = v := by
  unfold valV
  cases e : E.find? (fun q => decide (q.1 = kv.1)) with
  | none => have := List.find?_eq_none.mp e kv h; simp at this
  | some q => exact ⟨q.2, rfl, q, List.mem_of_find?_eq_some e, rfl⟩
def vL (E : List (Key × V)) : List V := E.map fun kv => (valV E kv.1).getD .non
theorem vL_len {E : List (Key × V)} : (vL E).length = E.length := List.length_map ..
theorem vL_get {E : List (Key × V)} {i : Nat} {kv : Key × V} (h : E[i]? = some kv) : ∃ v, valV E kv.1 = some v ∧ (vL E)[i]? = some v := by
  obtain ⟨v, hv, _⟩ := valV_mem (List.mem_of_getElem? h)
  exact ⟨v, hv, by unfold vL; rw [List.getElem?_map, h, Option.map_some, hv]; rfl⟩
theorem vL_take {E : List (Key × V)} {i : Nat} {v : V} (h : (vL E)[i]? = some v) : (vL E).take i ++ [v] = (vL E).take (i + 1) := by
  rw [List.take_succ, h]; rfl
def CompI (nd D0 : Addr) (od : Obj) (E : List (Key × V)) (Hs : Hp) (i : Nat) (H1 : Hp) : Prop := H1 nd = some (.frz od (.dK E)) ∧ (∀ b o, b ≠ nd → Hs b = some o → H1 b = some o) ∧ H1 D0 = some (.lst ((vL E).take i))
theorem CompI.done {nd D0 : Addr} {od : Obj} {E : List (Key × V)} {Hs H1 : Hp} (h : CompI nd D0 od E Hs E.length H1) (en : Hs nd = some (.dK E)) (ne : D0 ≠ nd) : Same Hs (upd H1 nd (.dK E)) ∧ upd H1 nd (.dK E) D0 = some (.lst (vL E)) := by
  refine ⟨fun a o e => ?_, ?_⟩
  · by_cases q : a = nd
    · subst q
      rw [en] at e
      cases e
      exact upd_same
    · exact (upd_ne q).trans (h.2.1 a o q e)
  · rw [upd_ne ne, h.2.2, ← vL_len (E := E), List.take_length]
theorem CompI.zero {nd D0 : Addr} {od : Obj} {E : List (Key × V)} {Hs : Hp} (n1 : upd Hs nd (.frz od (.dK E)) D0 = none) : D0 ≠ nd ∧ CompI nd D0 od E Hs 0 (upd (upd Hs nd (.frz od (.dK E))) D0 (.lst [])) := by
  have ne : D0 ≠ nd := fun q => by rw [q, upd_same] at n1; cases n1
  have nH : Hs D0 = none := by rw [upd_ne ne] at n1; exact n1
  exact ⟨ne, (upd_ne (Ne.symm ne)).trans upd_same, fun b o nb e => by rw [upd_ne (ne_of_none e nH), upd_ne nb]; exact e, by rw [upd_same]; rfl⟩
theorem CompI.step {nd D0 : Addr} {od : Obj} {E : List (Key × V)} {Hs H1 : Hp} {i : Nat} {v : V} (h : CompI nd D0 od E Hs i H1) (ne : D0 ≠ nd) (nH : Hs D0 = none) (e : (vL E)[i]? = some v) : CompI nd D0 od E Hs (i + 1) (upd H1 D0 (.lst ((vL E).take i ++ [v]))) :=
  ⟨(upd_ne (Ne.symm ne)).trans h.1, fun b o nb eb => (upd_ne (ne_of_none eb nH)).trans (h.2.1 b o nb eb), by rw [upd_same, vL_take e]⟩
theorem valV_nd : ∀ {E : List (Key × V)} {kv : Key × V}, (E.map (·.1)).Nodup → kv ∈ E → valV E kv.1 = some kv.2
  | [], _, _, h => by cases h
  | p :: r, kv, nd, h => by
    rw [List.map_cons, List.nodup_cons] at nd
    rcases List.mem_cons.mp h with rfl | h
    · exact valV_pos rfl
    · rw [valV_neg (fun e => nd.1 (by rw [e]; exact List.mem_map_of_mem h))]
      exact valV_nd nd.2 h
theorem vL_nd {E : List (Key × V)} (nd : (E.map (·.1)).Nodup) : vL E = E.map (·.2) := by
  unfold vL
  refine List.map_congr_left fun kv h => ?_
  rw [valV_nd nd h]; rfl
end

section
variable {P : Program} {w : World} {K : PySem.W.Frag} {mg : Str → Option Value} {base : Heap} {c : Cs}
/-! ### what objects refer to, their sorts and sizes -/
def refR : RV → Option Nat
  | .ob n => some n
  | _ => none
def txtR : RV → Nat
  | .txt z => z.length
  | _ => 0
def refsR (rs : List RV) : List Nat := rs.filterMap refR
def txtsR (rs : List RV) : Nat := (rs.map txtR).sum
def intsN (ns : List Nat) : List V := ns.map fun n => V.int (n : Nat)
def childT : Th → List Nat
  | .var v => refsR [v]
  | .parts rs => refsR rs
  | .cur rs => refsR rs
  | .table rows => refsR (rows.map fun z => z.2)
  | .inst o fs => o :: refsR (fs.map fun z => z.2)
  | .kin _ p ms => p.toList ++ ms.map fun z => z.2
  | .clo _ _ sc => sc
  | .bound o f => [o, f]
def sizeT : Th → Nat
  | .var v => 1 + txtR v
  | .parts rs => 1 + rs.length + txtsR rs
  | .cur rs => 1 + rs.length + txtsR rs
  | .table rows => 1 + 2 * rows.length + txtsR (rows.map fun z => z.1) + txtsR (rows.map fun z => z.2)
  | .inst _ fs => 1 + fs.length + ((fs.map fun z => z.1.length).sum) + txtsR (fs.map fun z => z.2)
  | .kin n _ ms => 1 + ms.length + n.length
  | _ => 1
def sortT : Th → Str
  | .var _ => "variable"
  | .parts _ => "list"
  | .table _ => "map"
  | .inst _ _ => "instance"
  | .kin _ _ _ => "class"
  | .clo _ _ _ => "function"
  | .bound _ _ => "method"
  | .cur _ => "iterator"
/-- names that differ, and no more than a thousand of anything -/
def SmT : Th → Prop
  | .parts rs => rs.length ≤ 1000
  | .cur rs => rs.length ≤ 1000
  | .table rows => rows.length ≤ 1000
  | .inst _ fs => fs.length ≤ 1000 ∧ (fs.map (·.1)).Nodup
  | .kin _ _ ms => ms.length ≤ 1000 ∧ (ms.map (·.1)).Nodup
  | .clo _ _ sc => sc.length ≤ 1000
  | _ => True
def spNums (K : PySem.W.Frag) (c : Cs) : Sp := fun vs H Q _ => match vs with
  | [.ref l] => ∃ xs rs, (H l = some (.lst xs) ∨ H l = some (.tup xs)) ∧ VsAt c H xs rs ∧ rs.length ≤ 5000 ∧ ∀ p H1, H p = none → Same H H1 → H1 p = some (.lst (intsN (refsR rs))) → Q (.ref p) H1
  | _ => False
def NumI (H : Hp) (D0 : Addr) (rs : List RV) (i : Nat) (H' : Hp) : Prop := Same H H' ∧ H' D0 = some (.lst (intsN (refsR (rs.take i))))
theorem refsR_snoc {rs : List RV} {r : RV} : refsR (rs ++ [r]) = refsR rs ++ (refR r).toList := by
  unfold refsR
  rw [List.filterMap_append]
  cases h : refR r <;> simp [List.filterMap_cons, h]
theorem refsR_len (rs : List RV) : (refsR rs).length ≤ rs.length := List.length_filterMap_le _ _
theorem ok_nums (A : At K mg "numbers_in" "numbers_in" s_numbers_in ["values"]) (T : Txt K mg c) : Has P w K mg base CX0 "numbers_in" 2 ["values"] (spNums K c) := by
  have Sc := sc_numbers_in
  refine has_of A Sc (fun vs H Q E h => ?_) (fun cdv f A outer s H vs Q E hr h => ?_)
  · unfold spNums at h; split at h; rfl; cases h
  · unfold spNums at h
    split at h
    · rename_i l
      obtain ⟨xs, rs, el, hv, hn, h⟩ := h
      have hlx : xs.length = rs.length := Paired.length hv
      refine ⟨_, (pss_one (ps_ret (pe_lc (own := [("value", 1)]) (by rfl) Sc.nd (pi_either (pi_list (fe_var 0)) (pi_tup (fe_var 0))) (blkOk_by (own := [("value", 1)]) (N := ["values", "value"]) (sc := defScope s_numbers_in) (by decide +kernel)) (fun _ _ _ _ _ => (pg_name (i := 1) Sc.nd rfl (.inl rfl))) (fun _ _ _ _ _ => (pts_one (pt_val (pe_callB (call_fIsiO T.kit) (by rfl) T.no_isinstance (by decide +kernel) (pa_cons (fe_var 1) (pa_cons (pe_glob (v := .ref c.Ref) (by rfl) T.mg_Ref rfl) pa_nil)))))) (fun _ _ _ _ _ => (fe_fld (fe_var 1) T.pl_number rfl))))), ?_⟩
      walk_at "fx0"
      refine lc_ ?_
      rcases el with el | el
      · refine .inl ?_
        walk_at "ox"
        refine ⟨⟨_, .inl (.inl el)⟩, fun D0 nD => ?_⟩
        refine lcx_list (xs := xs) (NumI H D0 rs) ⟨same_new nD, upd_same⟩ (fun i H' _ ⟨s1, _⟩ => .inl (.inl (s1 _ _ el))) ?_ ?_
        · rintro i x H' hx ⟨s1, eD⟩
          obtain ⟨r, er, hr1⟩ := paired_get hv hx
          have hlt : (refsR (rs.take i)).length < 100000 := by
            have := refsR_len (rs.take i)
            rw [List.length_take] at this
            omega
          have fin : ∀ H2, NumI H D0 rs (i + 1) H2 ↔ Same H H2 ∧ H2 D0 = some (.lst (intsN (refsR (rs.take i) ++ (refR r).toList))) := fun H2 => by
            unfold NumI
            rw [take_get er, refsR_snoc]
          simp only [fin]
          cases r with
          | ob n =>
            obtain ⟨a, rfl, dx, e1⟩ := hr1
            have e2 := s1 _ _ e1
            repeat (first | walk_at "oxs" | simp only [e2])
            exact ⟨_, eD, len_line' (by unfold intsN; rw [List.length_map]; exact hlt), mk_same s1 nD, by unfold intsN; rw [List.map_append]; rfl⟩
          | bt z =>
            obtain ⟨a, rfl, dx, e1⟩ := hr1
            have e2 := s1 _ _ e1
            repeat (first | walk_at "oxs" | simp only [e2])
            exact ⟨s1, by rw [eD]; simp [refR]⟩

          | _ =>
            cases hr1
            repeat (walk_at "oxs")
            exact ⟨s1, by rw [eD]; simp [refR]⟩
        · rintro H1 ⟨s1, eD⟩
          rw [hlx, List.take_length] at eD
          exact h D0 H1 nD s1 eD
      · refine .inr ?_
        walk_at "ox"
        refine ⟨⟨_, .inl (.inl el)⟩, fun D0 nD => ?_⟩
        refine lcx_tup (xs := xs) (NumI H D0 rs) ⟨same_new nD, upd_same⟩ (fun i H' _ ⟨s1, _⟩ => .inl (.inl (s1 _ _ el))) ?_ ?_
        · rintro i x H' hx ⟨s1, eD⟩
          obtain ⟨r, er, hr1⟩ := paired_get hv hx
          have hlt : (refsR (rs.take i)).length < 100000 := by
            have := refsR_len (rs.take i)
            rw [List.length_take] at this
            omega
          have fin : ∀ H2, NumI H D0 rs (i + 1) H2 ↔ Same H H2 ∧ H2 D0 = some (.lst (intsN (refsR (rs.take i) ++ (refR r).toList))) := fun H2 => by
            unfold NumI
            rw [take_get er, refsR_snoc]
          simp only [fin]
          cases r with
          | ob n =>
            obtain ⟨a, rfl, dx, e1⟩ := hr1
            have e2 := s1 _ _ e1
            repeat (first | walk_at "oxs" | simp only [e2])
            exact ⟨_, eD, len_line' (by unfold intsN; rw [List.length_map]; exact hlt), mk_same s1 nD, by unfold intsN; rw [List.map_append]; rfl⟩
          | bt z =>
            obtain ⟨a, rfl, dx, e1⟩ := hr1
            have e2 := s1 _ _ e1
            repeat (first | walk_at "oxs" | simp only [e2])
            exact ⟨s1, by rw [eD]; simp [refR]⟩

          | _ =>
            cases hr1
            repeat (walk_at "oxs")
            exact ⟨s1, by rw [eD]; simp [refR]⟩
        · rintro H1 ⟨s1, eD⟩
          rw [hlx, List.take_length] at eD
          exact h D0 H1 nD s1 eD
    · cases h
theorem keys_nd {ρ : Type} {R : V → ρ → Prop} : ∀ {kvs : List (Key × V)} {fs : List (Str × ρ)}, Paired (fun (kv : Key × V) (f : Str × ρ) => kv.1 = .inr f.1 ∧ R kv.2 f.2) kvs fs → (fs.map (·.1)).Nodup → (kvs.map (·.1)).Nodup ∧ Paired R (kvs.map (·.2)) (fs.map (·.2)) ∧ kvs.map (·.1) = (fs.map (·.1)).map Sum.inr := by
  intro kvs fs h
  induction h with
  | nil => intro _; exact ⟨List.nodup_nil, .nil, rfl⟩
  | @cons kv f kvs fs h t ih =>
    intro nd
    rw [List.map_cons, List.nodup_cons] at nd
    obtain ⟨i1, i2, i3⟩ := ih nd.2
    obtain ⟨h1, h2⟩ := h
    refine ⟨?_, .cons h2 i2, by rw [List.map_cons, List.map_cons, List.map_cons, i3, h1]⟩
    rw [List.map_cons, List.nodup_cons]
    refine ⟨fun m => ?_, i1⟩
    rw [i3, h1] at m
    obtain ⟨z, hz, e⟩ := List.mem_map.mp m
    cases e
    exact nd.1 hz
theorem kv_keyR {ρ : Type} {R : V → ρ → Prop} {kvs : List (Key × V)} {fs : List (Str × ρ)} (h : Paired (fun (kv : Key × V) (f : Str × ρ) => kv.1 = .inr f.1 ∧ R kv.2 f.2) kvs fs) {i : Nat} {k : Key} {v : V} (e : kvs[i]? = some (k, v)) : ∃ z, k = .inr z := by
  obtain ⟨f, _, h1, _⟩ := paired_get h e
  exact ⟨f.1, h1⟩
def valsT : Th → Option (List RV)
  | .table rows => some (rows.map fun z => z.2)
  | .inst _ fs => some (fs.map fun z => z.2)
  | _ => none
def spValsOf (w : World) (c : Cs) : Sp := fun vs H Q _ => match vs with
  | [.ref a] => ∃ b t rs, ThAt w c H a b t ∧ SmT t ∧ valsT t = some rs ∧ ∀ p xs H1, H p = none → Same H H1 → H1 p = some (.lst xs) → VsAt c H1 xs rs → Q (.ref p) H1
  | _ => False
theorem ok_valsof (A : At K mg "values_of" "values_of" s_values_of ["thing"]) (T : Txt K mg c) (M_Table_pairs : HasM P w K mg base CX0 c.Table "pairs" 1 ["self"] (spPairs w c)) : Has P w K mg base CX0 "values_of" 2 ["thing"] (spValsOf w c) := by
  have Sc := sc_values_of
  refine has_of A Sc (fun vs H Q E h => ?_) (fun cdv f A outer s H vs Q E hr h => ?_)
  · unfold spValsOf at h; split at h; rfl; cases h
  · unfold spValsOf at h
    split at h
    · rename_i a
      obtain ⟨b, t, rs, ht, hm, hr1, h⟩ := h
      refine ⟨_, (pss_cons (ps_if (pt_val (pe_callB (call_fIsiO T.kit) (by rfl) T.no_isinstance (by decide +kernel) (pa_cons (fe_var 0) (pa_cons (pe_glob (v := .ref c.Table) (by rfl) T.mg_Table rfl) pa_nil)))) (pss_one (ps_ret (pe_lc (own := [("pair", 2)]) (by rfl) Sc.nd (pi_list (fe_meth0 M_Table_pairs T.cl_Table (hr.mono (by walk_at "rm")) pass0 (fe_var 0))) (blkOk_by (own := [("pair", 2)]) (N := ["thing", "name", "pair"]) (sc := defScope s_values_of) (by decide +kernel)) (fun _ _ _ _ _ => (pg_name (i := 2) Sc.nd rfl (.inl rfl))) (fun _ _ _ _ _ => pts_nil) (fun _ _ _ _ _ => (pe_ix (ix_fxK (K := K) rfl) (fe_var 2) pe_int (fun _ _ => rfl)))))) pss_nil)
      (pss_one (ps_ret (pe_lock (pe_lc (own := [("name", 1)]) (by rfl) Sc.nd (pi_keysK (fe_fld (fe_var 0) T.pl_named rfl)) (blkOk_by (own := [("name", 1)]) (N := ["thing", "name", "pair"]) (sc := defScope s_values_of) (by decide +kernel)) (fun _ _ _ _ _ => (pg_name (i := 1) Sc.nd rfl (.inl rfl))) (fun _ _ _ _ _ => pts_nil) (fun _ _ _ _ _ => (pe_getK (hu_of hr) (fe_fld (fe_var 0) T.pl_named rfl) (fe_var 1) (fun _ _ => rfl)))))))), ?_⟩
      walk_at "fx0"
      cases t with
      | table rows =>
        cases hr1
        obtain ⟨d, rws, rfl, ⟨dx3, g1⟩, g2, g3⟩ := ht
        have hlr : rws.length = rows.length := Paired.length g3
        have hsz : rows.length ≤ 1000 := hm
        repeat (first | walk_at "oxs" | simp only [g1])
        refine lc_ ?_
        repeat (first | walk_at "oxs" | simp only [g1])
        refine ⟨d, rws, ⟨dx3, g1⟩, g2, by omega, fun p ts H1 np s1 ep hts => ?_⟩
        have hlt : ts.length = rws.length := Paired.length hts
        refine ⟨p, rfl, ⟨_, .inl (.inl ep)⟩, fun D0 nD => ?_⟩
        refine lcx_list (xs := ts.map V.ref) (fun i H' => Same H1 H' ∧ H' D0 = some (.lst ((rws.map fun z => z.2).take i))) ⟨same_new nD, upd_same⟩ (fun i H' _ ⟨s2, _⟩ => .inl (.inl (s2 _ _ ep))) ?_ ?_
        · rintro i v H' hi ⟨s2, eD⟩
          rw [List.getElem?_map] at hi
          obtain ⟨t, et, rfl⟩ := Option.map_eq_some_iff.mp hi
          obtain ⟨r, hr1, hr2⟩ := paired_get hts et
          have hi := (List.getElem?_eq_some_iff.mp hr1).1
          walk_at "ox"
          refine ⟨_, rl_t (s2 _ _ hr2), r.2, rfl, _, eD, len_line' (by rw [List.length_take, List.length_map]; omega), mk_same s2 nD, ?_⟩
          rw [take_get (x := r.2) (by rw [List.getElem?_map, hr1]; rfl)]
        · rintro H2 ⟨s2, eD⟩
          rw [List.take_of_length_le (by rw [List.length_map, List.length_map]; omega)] at eD
          refine h D0 _ H2 (s1.free nD) (s1.trans s2) eD ?_
          have : VsAt c H (rws.map fun z => z.2) (rows.map fun z => z.2) := by
            clear h hlr hlt hts hsz hm g1 g2 eD ep
            induction g3 with
            | nil => exact .nil
            | cons a b ih => exact .cons a.2 ih
          exact Paired.mapP this fun _ _ z => z.same (s1.trans s2)
      | inst o fs =>
        cases hr1
        obtain ⟨dx, ra, nd, kvs, rfl, e1, e2, e3, e4⟩ := ht
        obtain ⟨k1, k2, k3⟩ := keys_nd e4 hm.2
        have hlk : kvs.length = fs.length := Paired.length e4
        have hl1 := hm.1
        have nan : a ≠ nd := fun z => by rw [z, e3] at e1; cases e1
        have eaf : ∀ o, upd H nd o a = some (.ins c.Instance dx [("owner", .ref ra), ("named", .ref nd)]) := fun o => (upd_ne nan).trans e1
        repeat (first | walk_at "oxs" | simp only [e1])
        refine ⟨nd, _, e3, trivial, fun od => ?_⟩
        refine lc_ ?_
        repeat (first | walk_at "oxs" | simp only [eaf])
        refine ⟨od, _, rfl, fun D0 nD => ?_⟩
        obtain ⟨neD, z0⟩ := CompI.zero nD
        have nHD : H D0 = none := by rw [upd_ne neD] at nD; exact nD
        refine lcx_keysK (CompI nd D0 od kvs H) z0 (fun i H1 _ q => q.1) ?_ ?_
        · intro i k v H1 hx hI
          obtain ⟨z, rfl⟩ := kv_keyR e4 hx
          obtain ⟨v1, hv1, hv2⟩ := vL_get hx
          have ea1 := hI.2.1 _ _ nan e1
          simp only [kV]
          repeat (first | walk_at "oxs" | simp only [ea1])
          have hi := (List.getElem?_eq_some_iff.mp hx).1
          exact ⟨_, .inr ⟨od, hI.1⟩, v1, hv1, _, hI.2.2, by rw [List.length_take, sizeLine_eq]; omega, hI.step neD nHD hv2⟩
        · intro H1 hI
          refine ⟨hI.1, ?_⟩
          obtain ⟨s12, eD0⟩ := hI.done e3 neD
          rw [vL_nd k1] at eD0
          exact h D0 _ _ nHD s12 eD0 (Paired.mapP k2 fun _ _ z => z.same s12)
      | _ => cases hr1
    · cases h
theorem refsR_ob : ∀ (ns : List Nat), refsR (ns.map RV.ob) = ns
  | [] => rfl
  | n :: ns => by
    have := refsR_ob ns
    unfold refsR at this ⊢
    rw [List.map_cons, List.filterMap_cons]
    simp [refR, this]
theorem refsV_vs {H : Hp} {xs : List V} {ns : List Nat} (h : Paired (IsRefV c H) xs ns) : VsAt c H xs (ns.map RV.ob) := by
  induction h with
  | nil => exact .nil
  | cons a b ih => exact .cons a ih
def parR : Option Nat → RV
  | none => .nul
  | some k => .ob k
def spChildren (w : World) (c : Cs) : Sp := fun vs H Q _ => match vs with
  | [.ref y, .int k] => ∃ x S n t, y = x.y ∧ k = ((n : Nat) : Int) ∧ Sto w c H x S ∧ S.things[n]? = some t ∧ SmT t ∧ ∀ p H1, H p = none → Same H H1 → H1 p = some (.lst (intsN (childT t))) → Q (.ref p) H1
  | _ => False
set_option maxHeartbeats 8000000 in
theorem ok_children (A : At K mg "children_of" "children_of" s_children_of ["store", "number"]) (T : Txt K mg c) (H_numbers_in : Has P w K mg base CX0 "numbers_in" 2 ["values"] (spNums K c)) (H_values_of : Has P w K mg base CX0 "values_of" 2 ["thing"] (spValsOf w c)) : Has P w K mg base CX0 "children_of" 3 ["store", "number"] (spChildren w c) := by
  have Sc := sc_children_of
  refine has_of A Sc (fun vs H Q E h => ?_) (fun cdv f A outer s H vs Q E hr h => ?_)
  · unfold spChildren at h; split at h; rfl; cases h
  · unfold spChildren at h
    split at h
    · rename_i y k
      obtain ⟨x, S, n, t, rfl, rfl, hS, et, hm, h⟩ := h
      obtain ⟨sdx, es⟩ := hS.st
      obtain ⟨a, b, h1, ht, h3⟩ := hS.num et
      have ht0 := ht
      refine ⟨_, (pss_cons (ps_set (i := 2) Sc.nd rfl (.inr rfl) (pe_ix ix_fx (fe_fld (fe_var 0) T.pl_things rfl) (fe_var 1) (fun _ _ => rfl)))
      (pss_cons (ps_if (pt_val (pe_callB (call_fIsiO T.kit) (by rfl) T.no_isinstance (by decide +kernel) (pa_cons (fe_var 2) (pa_cons (pe_glob (v := .ref c.Variable) (by rfl) T.mg_Variable rfl) pa_nil)))) (pss_one (ps_ret (fe_call H_numbers_in (hr.mono (by walk_at "rm")) (by rfl) pass0 (pa_cons (fe_lst (pa_cons (fe_fld (fe_var 2) T.pl_value rfl) pa_nil)) pa_nil)))) pss_nil)
      (pss_cons (ps_if (pt_val (pe_callB (call_fIsiO T.kit) (by rfl) T.no_isinstance (by decide +kernel) (pa_cons (fe_var 2) (pa_cons (pe_glob (v := .ref c.Parts) (by rfl) T.mg_Parts rfl) pa_nil)))) (pss_one (ps_ret (fe_call H_numbers_in (hr.mono (by walk_at "rm")) (by rfl) pass0 (pa_cons (fe_fld (fe_var 2) T.pl_held rfl) pa_nil)))) pss_nil)
      (pss_cons (ps_if (pt_val (pe_callB (call_fIsiO T.kit) (by rfl) T.no_isinstance (by decide +kernel) (pa_cons (fe_var 2) (pa_cons (pe_glob (v := .ref c.Cursor) (by rfl) T.mg_Cursor rfl) pa_nil)))) (pss_one (ps_ret (fe_call H_numbers_in (hr.mono (by walk_at "rm")) (by rfl) pass0 (pa_cons (fe_fld (fe_var 2) T.pl_rest rfl) pa_nil)))) pss_nil)
      (pss_cons (ps_if (pt_val (pe_callB (call_fIsiO T.kit) (by rfl) T.no_isinstance (by decide +kernel) (pa_cons (fe_var 2) (pa_cons (pe_glob (v := .ref c.Table) (by rfl) T.mg_Table rfl) pa_nil)))) (pss_one (ps_ret (fe_call H_numbers_in (hr.mono (by walk_at "rm")) (by rfl) pass0 (pa_cons (fe_call H_values_of (hr.mono (by walk_at "rm")) (by rfl) pass0 (pa_cons (fe_var 2) pa_nil)) pa_nil)))) pss_nil)
      (pss_cons (ps_if (pt_val (pe_callB (call_fIsiO T.kit) (by rfl) T.no_isinstance (by decide +kernel) (pa_cons (fe_var 2) (pa_cons (pe_glob (v := .ref c.Instance) (by rfl) T.mg_Instance rfl) pa_nil)))) (pss_one (ps_ret (pe_op op_fAdd (fe_lst (pa_cons (fe_fld (fe_fld (fe_var 2) T.pl_owner rfl) T.pl_number rfl) pa_nil)) (fe_call H_numbers_in (hr.mono (by walk_at "rm")) (by rfl) pass0 (pa_cons (fe_call H_values_of (hr.mono (by walk_at "rm")) (by rfl) pass0 (pa_cons (fe_var 2) pa_nil)) pa_nil))))) pss_nil)
      (pss_cons (ps_if (pt_val (pe_callB (call_fIsiO T.kit) (by rfl) T.no_isinstance (by decide +kernel) (pa_cons (fe_var 2) (pa_cons (pe_glob (v := .ref c.Kin) (by rfl) T.mg_Kin rfl) pa_nil)))) (pss_one (ps_ret (fe_call H_numbers_in (hr.mono (by walk_at "rm")) (by rfl) pass0 (pa_cons (pe_op op_fAdd (fe_lst (pa_cons (fe_fld (fe_var 2) T.pl_parent rfl) pa_nil)) (pe_lock (pe_lc (own := [("name", 3)]) (by rfl) Sc.nd (pi_keysK (fe_fld (fe_var 2) T.pl_methods rfl)) (blkOk_by (own := [("name", 3)]) (N := ["store", "number", "thing", "name"]) (sc := defScope s_children_of) (by decide +kernel)) (fun _ _ _ _ _ => (pg_name (i := 3) Sc.nd rfl (.inl rfl))) (fun _ _ _ _ _ => pts_nil) (fun _ _ _ _ _ => (pe_getK (hu_of hr) (fe_fld (fe_var 2) T.pl_methods rfl) (fe_var 3) (fun _ _ => rfl)))))) pa_nil)))) pss_nil)
      (pss_cons (ps_if (pt_val (pe_callB (call_fIsiO T.kit) (by rfl) T.no_isinstance (by decide +kernel) (pa_cons (fe_var 2) (pa_cons (pe_glob (v := .ref c.Closure) (by rfl) T.mg_Closure rfl) pa_nil)))) (pss_one (ps_ret (fe_call H_numbers_in (hr.mono (by walk_at "rm")) (by rfl) pass0 (pa_cons (fe_fld (fe_var 2) T.pl_scope rfl) pa_nil)))) pss_nil)
      (pss_one (ps_ret (fe_lst (pa_cons (fe_fld (fe_fld (fe_var 2) T.pl_owner rfl) T.pl_number rfl) (pa_cons (fe_fld (fe_fld (fe_var 2) T.pl_function rfl) T.pl_number rfl) pa_nil))))))))))))), ?_⟩
      walk_at "fx0"
      repeat (first | walk_at "oxs" | simp only [es])
      refine ⟨_, rl_l hS.et, _, h3, ?_⟩
      cases t with
      | var v =>
        obtain ⟨dx, x0, rfl, e1, e2⟩ := ht
        repeat (first | walk_at "oxs" | simp only [e1])
        intro p H1 np s1 ep
        refine ⟨[x0], [v], .inl ep, .cons (e2.same s1) .nil, by simp, fun q H2 nq s2 eq => h q H2 (s1.free nq) (s1.trans s2) eq⟩
      | parts rs =>
        obtain ⟨dx, l, xs, rfl, e1, e2, e3⟩ := ht
        have hm : rs.length ≤ 1000 := hm
        repeat (first | walk_at "oxs" | simp only [e1])
        exact ⟨xs, rs, .inl e2, e3, by omega, fun q H2 nq s2 eq => h q H2 nq s2 eq⟩
      | cur rs =>
        obtain ⟨dx, l, xs, rfl, e1, e2, e3⟩ := ht
        have hm : rs.length ≤ 1000 := hm
        repeat (first | walk_at "oxs" | simp only [e1])
        exact ⟨xs, rs, .inl e2, e3, by omega, fun q H2 nq s2 eq => h q H2 nq s2 eq⟩
      | table rows =>
        obtain ⟨d, rws, rfl, ⟨dx3, e1⟩, g2, g3⟩ := ht
        have hm2 : rows.length ≤ 1000 := hm
        repeat (first | walk_at "oxs" | simp only [e1])
        refine ⟨_, _, _, ht0, hm, rfl, fun p xs H1 np s1 ep hv => ?_⟩
        exact ⟨xs, _, .inl ep, hv, by rw [List.length_map]; omega, fun q H2 nq s2 eq => h q H2 (s1.free nq) (s1.trans s2) eq⟩
      | inst o fs =>
        obtain ⟨dx, ra, nd, kvs, rfl, e1, ⟨rdx, e2⟩, e3, e4⟩ := ht
        repeat (first | walk_at "oxs" | simp only [e1] | simp only [e2])
        intro p H1 np s1 ep
        refine ⟨_, _, _, ht0.same s1, hm, rfl, fun p2 xs H2 np2 s2 ep2 hv => ?_⟩
        refine ⟨xs, _, .inl ep2, hv, by rw [List.length_map]; have := hm.1; omega, fun q H3 nq s3 eq => ?_⟩
        have ep3 := s3 _ _ (s2 _ _ ep)
        simp only [ep3, eq]
        have hlr := refsR_len (fs.map fun z => z.2)
        rw [List.length_map] at hlr
        have hl1 := hm.1
        refine ⟨?_, fun p4 H4 np4 s4 ep4 => h p4 H4 (((s1.trans s2).trans s3).free np4) (((s1.trans s2).trans s3).trans s4) ep4⟩
        unfold intsN
        rw [List.length_map, List.length_singleton, sizeLine_eq]
        omega
      | kin n q ms =>
        obtain ⟨dx, pv, md, kvs, rfl, e1, e2, e3, e4⟩ := ht
        obtain ⟨k1, k2, k3⟩ := keys_nd e4 hm.2
        have hlk : kvs.length = ms.length := Paired.length e4
        have hl1 := hm.1
        repeat (first | walk_at "oxs" | simp only [e1])
        intro p H1 np s1 ep
        have e1' := s1 _ _ e1
        have e3' := s1 _ _ e3
        have nan : a ≠ md := fun z => by rw [z, e3] at e1; cases e1
        have eaf : ∀ o, upd H1 md o a = some (.ins c.Kin dx [("name", .str n), ("parent", pv), ("methods", .ref md)]) := fun o => (upd_ne nan).trans e1'
        repeat (first | walk_at "oxs" | simp only [e1'])
        refine ⟨md, _, e3', trivial, fun od => ?_⟩
        refine lc_ ?_
        repeat (first | walk_at "oxs" | simp only [eaf])
        refine ⟨od, _, rfl, fun D0 nD => ?_⟩
        obtain ⟨neD, z0⟩ := CompI.zero nD
        have nHD : H1 D0 = none := by rw [upd_ne neD] at nD; exact nD
        refine lcx_keysK (CompI md D0 od kvs H1) z0 (fun i H1 _ q => q.1) ?_ ?_
        · intro i k v H2 hx hI
          obtain ⟨z, rfl⟩ := kv_keyR e4 hx
          obtain ⟨v1, hv1, hv2⟩ := vL_get hx
          have ea1 := hI.2.1 _ _ nan e1'
          simp only [kV]
          repeat (first | walk_at "oxs" | simp only [ea1])
          have hi := (List.getElem?_eq_some_iff.mp hx).1
          exact ⟨_, .inr ⟨od, hI.1⟩, v1, hv1, _, hI.2.2, by rw [List.length_take, sizeLine_eq]; omega, hI.step neD nHD hv2⟩
        · intro H2 hI
          refine ⟨hI.1, ?_⟩
          obtain ⟨s12, eD0⟩ := hI.done e3' neD
          rw [vL_nd k1] at eD0
          have ep2 := s12 _ _ ep
          generalize upd H2 md (.dK kvs) = H3 at s12 eD0 ep2 ⊢
          simp only [ep2, eD0]
          refine ⟨by rw [List.length_map, List.length_singleton, sizeLine_eq]; omega, fun p3 H4 np3 s3 ep3 => ?_⟩
          have S3 := (s1.trans s12).trans s3
          have hrv : VsAt c H ([pv] ++ kvs.map (·.2)) ([parR q] ++ (ms.map (·.2)).map RV.ob) := by
            have h2 : VsAt c H (kvs.map (·.2)) ((ms.map (·.2)).map RV.ob) := refsV_vs k2
            cases q with
            | none => exact .cons e2 h2
            | some k => exact .cons e2 h2
          refine ⟨_, _, .inl ep3, Paired.mapP hrv fun _ _ z => z.same S3, ?_, fun p4 H5 np4 s4 ep4 => h p4 H5 (S3.free np4) (S3.trans s4) ?_⟩
          · rw [List.length_append, List.length_map, List.length_map]
            cases q <;> simp <;> omega
          · rw [ep4]
            have : refsR ([parR q] ++ (ms.map (·.2)).map RV.ob) = q.toList ++ ms.map (·.2) := by
              have e := refsR_ob (ms.map (·.2))
              unfold refsR at e ⊢
              rw [List.filterMap_append, e]
              cases q <;> rfl
            rw [this]; rfl
      | clo z1 z2 sc =>
        obtain ⟨dx, tt, xs, rfl, e1, e2, e3⟩ := ht
        have hm : sc.length ≤ 1000 := hm
        repeat (first | walk_at "oxs" | simp only [e1])
        refine ⟨xs, _, .inr e2, refsV_vs e3, by rw [List.length_map]; omega, fun q H2 nq s2 eq => h q H2 nq s2 ?_⟩
        rw [eq, refsR_ob]; rfl
      | bound o f =>
        obtain ⟨dx, v1, v2, rfl, e1, ⟨a1, rfl, dx1, f1⟩, ⟨a2, rfl, dx2, f2⟩⟩ := ht
        repeat (first | walk_at "oxs" | simp only [e1] | simp only [f1] | simp only [f2])
        intro p H1 np s1 ep
        exact h p H1 np s1 ep
    · cases h
def spSort (w : World) (c : Cs) : Sp := fun vs H Q _ => match vs with
  | [.ref y, .int k] => ∃ x S n t, y = x.y ∧ k = ((n : Nat) : Int) ∧ Sto w c H x S ∧ S.things[n]? = some t ∧ Q (.str (sortT t)) H
  | _ => False
theorem ok_sort (A : At K mg "sort_of" "sort_of" s_sort_of ["store", "number"]) (T : Txt K mg c) : Has P w K mg base CX0 "sort_of" 1 ["store", "number"] (spSort w c) := by
  have Sc := sc_sort_of
  refine has_of A Sc (fun vs H Q E h => ?_) (fun cdv f A outer s H vs Q E hr h => ?_)
  · unfold spSort at h; split at h; rfl; cases h
  · unfold spSort at h
    split at h
    · rename_i y k
      obtain ⟨x, S, n, t, rfl, rfl, hS, et, h⟩ := h
      obtain ⟨sdx, es⟩ := hS.st
      obtain ⟨a, b, h1, ht, h3⟩ := hS.num et
      obtain ⟨dx, fs, e1⟩ := ht.ins
      refine ⟨_, (pss_cons (ps_set (i := 2) Sc.nd rfl (.inl rfl) (pe_ix ix_fx (fe_fld (fe_var 0) T.pl_things rfl) (fe_var 1) (fun _ _ => rfl)))
      (pss_cons (ps_if (pt_val (pe_callB (call_fIsiO T.kit) (by rfl) T.no_isinstance (by decide +kernel) (pa_cons (fe_var 2) (pa_cons (pe_glob (v := .ref c.Variable) (by rfl) T.mg_Variable rfl) pa_nil)))) (pss_one (ps_ret pe_str)) pss_nil)
      (pss_cons (ps_if (pt_val (pe_callB (call_fIsiO T.kit) (by rfl) T.no_isinstance (by decide +kernel) (pa_cons (fe_var 2) (pa_cons (pe_glob (v := .ref c.Parts) (by rfl) T.mg_Parts rfl) pa_nil)))) (pss_one (ps_ret pe_str)) pss_nil)
      (pss_cons (ps_if (pt_val (pe_callB (call_fIsiO T.kit) (by rfl) T.no_isinstance (by decide +kernel) (pa_cons (fe_var 2) (pa_cons (pe_glob (v := .ref c.Table) (by rfl) T.mg_Table rfl) pa_nil)))) (pss_one (ps_ret pe_str)) pss_nil)
      (pss_cons (ps_if (pt_val (pe_callB (call_fIsiO T.kit) (by rfl) T.no_isinstance (by decide +kernel) (pa_cons (fe_var 2) (pa_cons (pe_glob (v := .ref c.Instance) (by rfl) T.mg_Instance rfl) pa_nil)))) (pss_one (ps_ret pe_str)) pss_nil)
      (pss_cons (ps_if (pt_val (pe_callB (call_fIsiO T.kit) (by rfl) T.no_isinstance (by decide +kernel) (pa_cons (fe_var 2) (pa_cons (pe_glob (v := .ref c.Kin) (by rfl) T.mg_Kin rfl) pa_nil)))) (pss_one (ps_ret pe_str)) pss_nil)
      (pss_cons (ps_if (pt_val (pe_callB (call_fIsiO T.kit) (by rfl) T.no_isinstance (by decide +kernel) (pa_cons (fe_var 2) (pa_cons (pe_glob (v := .ref c.Closure) (by rfl) T.mg_Closure rfl) pa_nil)))) (pss_one (ps_ret pe_str)) pss_nil)
      (pss_cons (ps_if (pt_val (pe_callB (call_fIsiO T.kit) (by rfl) T.no_isinstance (by decide +kernel) (pa_cons (fe_var 2) (pa_cons (pe_glob (v := .ref c.Bound) (by rfl) T.mg_Bound rfl) pa_nil)))) (pss_one (ps_ret pe_str)) pss_nil)
      (pss_one (ps_ret pe_str)))))))))), ?_⟩
      walk_at "fx0"
      repeat (first | walk_at "oxs" | simp only [es])
      refine ⟨_, rl_l hS.et, _, h3, ?_⟩
      cases t <;> (simp only [clsT] at e1; repeat (first | walk_at "oxs" | simp only [e1])) <;> exact h
    · cases h
def spLetters (c : Cs) : Sp := fun vs H Q _ => match vs with
  | [.ref l] => ∃ xs rs, H l = some (.lst xs) ∧ VsAt c H xs rs ∧ rs.length ≤ 5000 ∧ (∀ z, RV.txt z ∈ rs → z.length ≤ 1000) ∧ ∀ H1, Same H H1 → Q (.int (txtsR rs : Nat)) H1
  | _ => False
def lensR (rs : List RV) : List Int := rs.filterMap fun r => match r with
  | .txt z => some ((z.length : Nat) : Int)
  | _ => none
theorem lensR_sum (rs : List RV) : (lensR rs).sum = ((txtsR rs : Nat) : Int) := by
  induction rs with
  | nil => rfl
  | cons r rs ih =>
    unfold lensR txtsR at ih ⊢
    rw [List.map_cons, List.sum_cons, List.filterMap_cons]
    cases r <;> simp_all [txtR]
theorem ok_letters (A : At K mg "letters" "letters" s_letters ["values"]) (T : Txt K mg c) : Has P w K mg base CX0 "letters" 2 ["values"] (spLetters c) := by
  have Sc := sc_letters
  refine has_of A Sc (fun vs H Q E h => ?_) (fun cdv f A outer s H vs Q E hr h => ?_)
  · unfold spLetters at h; split at h; rfl; cases h
  · unfold spLetters at h
    split at h
    · rename_i l
      obtain ⟨xs, rs, el, hv, hn, hz, h⟩ := h
      have hlx : xs.length = rs.length := Paired.length hv
      refine ⟨_, (pss_one (ps_ret (pe_callB (call_fSum rfl) (by rfl) T.no_sum (by decide +kernel) (pa_cons (pe_lc (own := [("value", 1)]) (by rfl) Sc.nd (pi_list (fe_var 0)) (blkOk_by (own := [("value", 1)]) (N := ["values", "value"]) (sc := defScope s_letters) (by decide +kernel)) (fun _ _ _ _ _ => (pg_name (i := 1) Sc.nd rfl (.inl rfl))) (fun _ _ _ _ _ => (pts_one (pt_val (pe_callB (call_fIsiA T.kit) (by rfl) T.no_isinstance (by decide +kernel) (pa_cons (fe_var 1) (pa_cons (fe_ty (n := "str") (by rfl) T.no_str (by decide +kernel)) pa_nil)))))) (fun _ _ _ _ _ => (pe_callB (call_fLenK (K := K) rfl) (by rfl) T.no_len (by decide +kernel) (pa_cons (fe_var 1) pa_nil)))) pa_nil)))), ?_⟩
      walk_at "fx0"
      walk_at "ox"
      refine lc_ ?_
      walk_at "ox"
      refine ⟨⟨_, .inl (.inl el)⟩, fun D0 nD => ?_⟩
      refine lcx_list (xs := xs) (fun i H' => Same H H' ∧ H' D0 = some (.lst ((lensR (rs.take i)).map V.int))) ⟨same_new nD, upd_same⟩ (fun i H' _ ⟨s1, _⟩ => .inl (.inl (s1 _ _ el))) ?_ ?_
      · rintro i x H' hx ⟨s1, eD⟩
        obtain ⟨r, er, hr1⟩ := paired_get hv hx
        have hlt : (lensR (rs.take i)).length < 100000 := by
          have : (lensR (rs.take i)).length ≤ (rs.take i).length := List.length_filterMap_le _ _
          rw [List.length_take] at this
          omega
        have es : lensR (rs.take (i + 1)) = lensR (rs.take i) ++ lensR [r] := by
          unfold lensR
          rw [take_get er, List.filterMap_append]
        rw [es]
        cases r with
        | txt z =>
          cases hr1
          have hz1 := hz z (List.mem_of_getElem? er)
          repeat (walk_at "oxs")
          exact ⟨Nat.le_of_lt (len_line' (by omega)), _, eD, len_line' (by rw [List.length_map]; exact hlt), mk_same s1 nD, by rw [List.map_append]; rfl⟩
        | ob n =>
          obtain ⟨a, rfl, dx, e1⟩ := hr1
          have e2 := s1 _ _ e1
          repeat (first | walk_at "oxs" | simp only [e2])
          exact ⟨s1, by rw [eD]; simp [lensR]⟩
        | bt z =>
          obtain ⟨a, rfl, dx, e1⟩ := hr1
          have e2 := s1 _ _ e1
          repeat (first | walk_at "oxs" | simp only [e2])
          exact ⟨s1, by rw [eD]; simp [lensR]⟩

        | _ =>
          cases hr1
          repeat (walk_at "oxs")
          exact ⟨s1, by rw [eD]; simp [lensR]⟩
      · rintro H1 ⟨s1, eD⟩
        rw [hlx, List.take_length] at eD
        refine ⟨_, eD, ?_⟩
        rw [lensR_sum]
        exact h H1 s1
    · cases h
/-- texts of no more than a thousand characters -/
def Tx (rs : List RV) : Prop := ∀ z, RV.txt z ∈ rs → z.length ≤ 1000
def TxT : Th → Prop
  | .var v => Tx [v]
  | .parts rs => Tx rs
  | .cur rs => Tx rs
  | .table rows => Tx (rows.map fun z => z.1) ∧ Tx (rows.map fun z => z.2)
  | .inst _ fs => (∀ f ∈ fs, f.1.length ≤ 1000) ∧ Tx (fs.map fun z => z.2)
  | .kin n _ _ => n.length ≤ 1000
  | _ => True
def spSize (w : World) (c : Cs) : Sp := fun vs H Q _ => match vs with
  | [.ref y, .int k] => ∃ x S n t, y = x.y ∧ k = ((n : Nat) : Int) ∧ Sto w c H x S ∧ S.things[n]? = some t ∧ SmT t ∧ TxT t ∧ ∀ H1, Same H H1 → Q (.int (sizeT t : Nat)) H1
  | _ => False
theorem names_vs {ρ : Type} {R : V → ρ → Prop} {H : Hp} {kvs : List (Key × V)} {fs : List (Str × ρ)} (h : Paired (fun (kv : Key × V) (f : Str × ρ) => kv.1 = .inr f.1 ∧ R kv.2 f.2) kvs fs) : VsAt c H (kvs.map fun kv => kV kv.1) (fs.map fun f => RV.txt f.1) := by
  induction h with
  | nil => exact .nil
  | cons a b ih =>
    refine .cons ?_ ih
    show IsVal c H (kV _) _
    rw [a.1]; rfl
theorem txtsR_names {ρ : Type} (fs : List (Str × ρ)) : txtsR (fs.map fun f => RV.txt f.1) = (fs.map fun z => z.1.length).sum := by
  unfold txtsR
  rw [List.map_map]; rfl
set_option maxHeartbeats 8000000 in
theorem ok_size (A : At K mg "size_of" "size_of" s_size_of ["store", "number"]) (T : Txt K mg c) (H_letters : Has P w K mg base CX0 "letters" 2 ["values"] (spLetters c)) (H_values_of : Has P w K mg base CX0 "values_of" 2 ["thing"] (spValsOf w c)) (M_Table_pairs : HasM P w K mg base CX0 c.Table "pairs" 1 ["self"] (spPairs w c)) (P_Table_many : HasP P w K mg base CX0 c.Table "many" 1 ["self"] (spMany w c)) : Has P w K mg base CX0 "size_of" 3 ["store", "number"] (spSize w c) := by
  have Sc := sc_size_of
  refine has_of A Sc (fun vs H Q E h => ?_) (fun cdv f A outer s H vs Q E hr h => ?_)
  · unfold spSize at h; split at h; rfl; cases h
  · unfold spSize at h
    split at h
    · rename_i y k
      obtain ⟨x, S, n, t, rfl, rfl, hS, et, hm, hx, h⟩ := h
      obtain ⟨sdx, es⟩ := hS.st
      obtain ⟨a, b, h1, ht, h3⟩ := hS.num et
      have ht0 := ht
      refine ⟨_, (pss_cons (ps_set (i := 2) Sc.nd rfl (.inl rfl) (pe_ix ix_fx (fe_fld (fe_var 0) T.pl_things rfl) (fe_var 1) (fun _ _ => rfl)))
      (pss_cons (ps_if (pt_val (pe_callB (call_fIsiO T.kit) (by rfl) T.no_isinstance (by decide +kernel) (pa_cons (fe_var 2) (pa_cons (pe_glob (v := .ref c.Variable) (by rfl) T.mg_Variable rfl) pa_nil)))) (pss_one (ps_ret (pe_op op_fAdd pe_int (fe_call H_letters (hr.mono (by walk_at "rm")) (by rfl) pass0 (pa_cons (fe_lst (pa_cons (fe_fld (fe_var 2) T.pl_value rfl) pa_nil)) pa_nil))))) pss_nil)
      (pss_cons (ps_if (pt_val (pe_callB (call_fIsiO T.kit) (by rfl) T.no_isinstance (by decide +kernel) (pa_cons (fe_var 2) (pa_cons (pe_glob (v := .ref c.Parts) (by rfl) T.mg_Parts rfl) pa_nil)))) (pss_one (ps_ret (pe_op op_fAdd (pe_op op_fAdd pe_int (pe_callB call_fLen (by rfl) T.no_len (by decide +kernel) (pa_cons (fe_fld (fe_var 2) T.pl_held rfl) pa_nil))) (fe_call H_letters (hr.mono (by walk_at "rm")) (by rfl) pass0 (pa_cons (fe_fld (fe_var 2) T.pl_held rfl) pa_nil))))) pss_nil)
      (pss_cons (ps_if (pt_val (pe_callB (call_fIsiO T.kit) (by rfl) T.no_isinstance (by decide +kernel) (pa_cons (fe_var 2) (pa_cons (pe_glob (v := .ref c.Cursor) (by rfl) T.mg_Cursor rfl) pa_nil)))) (pss_one (ps_ret (pe_op op_fAdd (pe_op op_fAdd pe_int (pe_callB call_fLen (by rfl) T.no_len (by decide +kernel) (pa_cons (fe_fld (fe_var 2) T.pl_rest rfl) pa_nil))) (fe_call H_letters (hr.mono (by walk_at "rm")) (by rfl) pass0 (pa_cons (fe_fld (fe_var 2) T.pl_rest rfl) pa_nil))))) pss_nil)
      (pss_cons (ps_if (pt_val (pe_callB (call_fIsiO T.kit) (by rfl) T.no_isinstance (by decide +kernel) (pa_cons (fe_var 2) (pa_cons (pe_glob (v := .ref c.Table) (by rfl) T.mg_Table rfl) pa_nil)))) (pss_cons (ps_setLc (i := 3) (own := [("pair", 4)]) (by rfl) Sc.nd rfl rfl (sw_true rfl rfl rfl (by decide +kernel)) (pi_list (fe_meth0 M_Table_pairs T.cl_Table (hr.mono (by walk_at "rm")) pass0 (fe_var 2))) (blkOk_by (own := [("pair", 4)]) (N := ["store", "number", "thing", "keys", "pair"]) (sc := defScope s_size_of) (by decide +kernel)) (fun _ _ _ _ _ => (pg_name (i := 4) Sc.nd rfl (.inl rfl))) (fun _ _ _ _ _ => pts_nil) (fun _ _ _ _ _ => (pe_ix (ix_fxK (K := K) rfl) (fe_var 4) pe_int (fun _ _ => rfl))))
      (pss_one (ps_ret (pe_op op_fAdd (pe_op op_fAdd (pe_op op_fAdd pe_int (pe_op op_fMul pe_int (fe_prop P_Table_many T.cl_Table (hr.mono (by walk_at "rm")) pass0 (fe_var 2) rfl))) (fe_call H_letters (hr.mono (by walk_at "rm")) (by rfl) pass0 (pa_cons (fe_var 3) pa_nil))) (fe_call H_letters (hr.mono (by walk_at "rm")) (by rfl) pass0 (pa_cons (fe_call H_values_of (hr.mono (by walk_at "rm")) (by rfl) pass0 (pa_cons (fe_var 2) pa_nil)) pa_nil)))))) pss_nil)
      (pss_cons (ps_if (pt_val (pe_callB (call_fIsiO T.kit) (by rfl) T.no_isinstance (by decide +kernel) (pa_cons (fe_var 2) (pa_cons (pe_glob (v := .ref c.Instance) (by rfl) T.mg_Instance rfl) pa_nil)))) (pss_one (ps_ret (pe_op op_fAdd (pe_op op_fAdd (pe_op op_fAdd pe_int (pe_callB call_fLenD (by rfl) T.no_len (by decide +kernel) (pa_cons (fe_fld (fe_var 2) T.pl_named rfl) pa_nil))) (fe_call H_letters (hr.mono (by walk_at "rm")) (by rfl) pass0 (pa_cons (pe_callTy (call_fListD rfl) (by rfl) T.no_list (by decide +kernel) (pa_cons (fe_fld (fe_var 2) T.pl_named rfl) pa_nil)) pa_nil))) (fe_call H_letters (hr.mono (by walk_at "rm")) (by rfl) pass0 (pa_cons (fe_call H_values_of (hr.mono (by walk_at "rm")) (by rfl) pass0 (pa_cons (fe_var 2) pa_nil)) pa_nil))))) pss_nil)
      (pss_cons (ps_if (pt_val (pe_callB (call_fIsiO T.kit) (by rfl) T.no_isinstance (by decide +kernel) (pa_cons (fe_var 2) (pa_cons (pe_glob (v := .ref c.Kin) (by rfl) T.mg_Kin rfl) pa_nil)))) (pss_one (ps_ret (pe_op op_fAdd (pe_op op_fAdd pe_int (pe_callB call_fLenD (by rfl) T.no_len (by decide +kernel) (pa_cons (fe_fld (fe_var 2) T.pl_methods rfl) pa_nil))) (pe_callB call_fLen (by rfl) T.no_len (by decide +kernel) (pa_cons (fe_fld (fe_var 2) T.pl_name rfl) pa_nil))))) pss_nil)
      (pss_one (ps_ret pe_int))))))))), ?_⟩
      walk_at "fx0"
      repeat (first | walk_at "oxs" | simp only [es])
      refine ⟨_, rl_l hS.et, _, h3, ?_⟩
      cases t with
      | var v =>
        obtain ⟨dx, x0, rfl, e1, e2⟩ := ht
        repeat (first | walk_at "oxs" | simp only [e1])
        intro p H1 np s1 ep
        refine ⟨[x0], [v], ep, .cons (e2.same s1) .nil, by simp, hx, fun H2 s2 => ?_⟩
        have e9 : (1 : Int) + ((txtsR [v] : Nat) : Int) = ((sizeT (.var v) : Nat) : Int) := by simp [txtsR, sizeT]
        repeat (walk_at "oxs")
        rw [e9]
        exact h H2 (s1.trans s2)
      | parts rs =>
        obtain ⟨dx, l, xs, rfl, e1, e2, e3⟩ := ht
        have hm : rs.length ≤ 1000 := hm
        have hlx : xs.length = rs.length := Paired.length e3
        repeat (first | walk_at "oxs" | simp only [e1])
        refine ⟨_, rl_l e2, ?_⟩
        repeat (first | walk_at "oxs" | simp only [e1])
        refine ⟨xs, rs, e2, e3, by omega, hx, fun H2 s2 => ?_⟩
        have e9 : (1 : Int) + (xs.length : Nat) + ((txtsR rs : Nat) : Int) = ((sizeT (.parts rs) : Nat) : Int) := by simp only [sizeT]; omega
        repeat (walk_at "oxs")
        rw [e9]
        exact h H2 s2
      | cur rs =>
        obtain ⟨dx, l, xs, rfl, e1, e2, e3⟩ := ht
        have hm : rs.length ≤ 1000 := hm
        have hlx : xs.length = rs.length := Paired.length e3
        repeat (first | walk_at "oxs" | simp only [e1])
        refine ⟨_, rl_l e2, ?_⟩
        repeat (first | walk_at "oxs" | simp only [e1])
        refine ⟨xs, rs, e2, e3, by omega, hx, fun H2 s2 => ?_⟩
        have e9 : (1 : Int) + (xs.length : Nat) + ((txtsR rs : Nat) : Int) = ((sizeT (.cur rs) : Nat) : Int) := by simp only [sizeT]; omega
        repeat (walk_at "oxs")
        rw [e9]
        exact h H2 s2
      | table rows =>
        obtain ⟨d, rws, rfl, ⟨dx3, g1⟩, g2, g3⟩ := ht
        have hlr : rws.length = rows.length := Paired.length g3
        have hsz : rows.length ≤ 1000 := hm
        repeat (first | walk_at "oxs" | simp only [g1])
        refine lc_ ?_
        repeat (first | walk_at "oxs" | simp only [g1])
        refine ⟨d, rws, ⟨dx3, g1⟩, g2, by omega, fun p ts H1 np s1 ep hts => ?_⟩
        have hlt : ts.length = rws.length := Paired.length hts
        refine ⟨p, rfl, ⟨_, .inl (.inl ep)⟩, fun D0 nD => ?_⟩
        refine lcx_list (xs := ts.map V.ref) (fun i H' => Same H1 H' ∧ H' D0 = some (.lst ((rws.map fun z => z.1).take i))) ⟨same_new nD, upd_same⟩ (fun i H' _ ⟨s2, _⟩ => .inl (.inl (s2 _ _ ep))) ?_ ?_
        · rintro i v H' hi ⟨s2, eD⟩
          rw [List.getElem?_map] at hi
          obtain ⟨t, et, rfl⟩ := Option.map_eq_some_iff.mp hi
          obtain ⟨r, hr1, hr2⟩ := paired_get hts et
          have hi := (List.getElem?_eq_some_iff.mp hr1).1
          walk_at "ox"
          refine ⟨_, rl_t (s2 _ _ hr2), r.1, rfl, _, eD, len_line' (by rw [List.length_take, List.length_map]; omega), mk_same s2 nD, ?_⟩
          rw [take_get (x := r.1) (by rw [List.getElem?_map, hr1]; rfl)]
        · rintro H2 ⟨s2, eD⟩
          rw [List.take_of_length_le (by rw [List.length_map, List.length_map]; omega)] at eD
          have S2 := s1.trans s2
          have g1' := S2 _ _ g1
          walk_at "ox"
          simp only [g1']
          walk_at "ox"
          refine ⟨d, rws, ⟨dx3, g1'⟩, g2.same S2, ?_⟩
          walk_at "ox"
          refine ⟨by walk_at "mul", _, _, eD, Paired.mapP (keys_vs g3) fun _ _ z => z.same S2, by rw [List.length_map]; omega, hx.1, fun H3 s3 => ?_⟩
          walk_at "ox"
          refine ⟨_, _, _, ht0.same (S2.trans s3), hm, rfl, fun p2 xs H4 np2 s4 ep2 hv => ?_⟩
          refine ⟨xs, _, ep2, hv, by rw [List.length_map]; omega, hx.2, fun H5 s5 => ?_⟩
          walk_at "ox"
          have e9 : (1 : Int) + 2 * (rws.length : Nat) + ((txtsR (rows.map fun z => z.1) : Nat) : Int) + ((txtsR (rows.map fun z => z.2) : Nat) : Int) = ((sizeT (.table rows) : Nat) : Int) := by simp only [sizeT]; omega
          rw [e9]
          exact h H5 (((S2.trans s3).trans s4).trans s5)
      | inst o fs =>
        obtain ⟨dx, ra, nd, kvs, rfl, e1, e2, e3, e4⟩ := ht
        have hlk : kvs.length = fs.length := Paired.length e4
        have hl1 := hm.1
        repeat (first | walk_at "oxs" | simp only [e1])
        refine ⟨_, e3, _, .inl e3, fun p H1 np s1 ep => ?_⟩
        refine ⟨_, _, ep, Paired.mapP (names_vs e4) fun _ _ z => z.same s1, by rw [List.length_map]; omega, ?_, fun H2 s2 => ?_⟩
        · intro z m
          obtain ⟨f, hf, e⟩ := List.mem_map.mp m
          cases e
          exact hx.1 f hf
        · walk_at "ox"
          refine ⟨_, _, _, ht0.same (s1.trans s2), hm, rfl, fun p2 xs H3 np2 s3 ep2 hv => ?_⟩
          refine ⟨xs, _, ep2, hv, by rw [List.length_map]; omega, hx.2, fun H4 s4 => ?_⟩
          walk_at "ox"
          have e8 := txtsR_names fs
          have e9 : (1 : Int) + (kvs.length : Nat) + ((txtsR (fs.map fun f => RV.txt f.1) : Nat) : Int) + ((txtsR (fs.map fun z => z.2) : Nat) : Int) = ((sizeT (.inst o fs) : Nat) : Int) := by simp only [sizeT]; rw [e8]; omega
          rw [e9]
          exact h H4 (((s1.trans s2).trans s3).trans s4)
      | kin z q ms =>
        obtain ⟨dx, pv, md, kvs, rfl, e1, e2, e3, e4⟩ := ht
        have hlk : kvs.length = ms.length := Paired.length e4
        have hz : z.length ≤ 1000 := hx
        repeat (first | walk_at "oxs" | simp only [e1])
        refine ⟨_, e3, Nat.le_of_lt (len_line' (by omega)), ?_⟩
        have e9 : (1 : Int) + (kvs.length : Nat) + (z.length : Nat) = ((sizeT (.kin z q ms) : Nat) : Int) := by simp only [sizeT]; omega
        rw [e9]
        exact h H (Same.refl _)
      | clo z1 z2 sc =>
        obtain ⟨dx, tt, xs, rfl, e1, e2, e3⟩ := ht
        repeat (first | walk_at "oxs" | simp only [e1])
        exact h H (Same.refl _)
      | bound o f =>
        obtain ⟨dx, v1, v2, rfl, e1, _⟩ := ht
        repeat (first | walk_at "oxs" | simp only [e1])
        exact h H (Same.refl _)
    · cases h
end

section
variable {P : Program} {w : World} {K : PySem.W.Frag} {mg : Str → Option Value} {base : Heap} {c : Cs}
/-! ### the counts -/
def tallyN (ts : List Th) (z : Str) : Nat := (ts.filter fun t => decide (sortT t = z)).length
def tallyS (ts : List Th) (z : Str) : Nat := ((ts.filter fun t => decide (sortT t = z)).map sizeT).sum
theorem tallyN_snoc {ts : List Th} {t : Th} {z : Str} : tallyN (ts ++ [t]) z = tallyN ts z + if sortT t = z then 1 else 0 := by
  unfold tallyN
  rw [List.filter_append, List.length_append]
  by_cases h : sortT t = z <;> simp [h]
theorem tallyS_snoc {ts : List Th} {t : Th} {z : Str} : tallyS (ts ++ [t]) z = tallyS ts z + if sortT t = z then sizeT t else 0 := by
  unfold tallyS
  rw [List.filter_append, List.map_append, List.sum_append]
  by_cases h : sortT t = z <;> simp [h]
def sorts8 : List Str := ["variable", "list", "map", "instance", "class", "function", "method", "iterator"]
theorem sort_mem (t : Th) : sortT t ∈ sorts8 := by cases t <;> simp [sortT, sorts8]
def kvsZ (zs : List Str) (as : List Addr) : List (Key × V) := (zs.zip as).map fun p => (.inr p.1, V.ref p.2)
theorem kvsZ_keys : ∀ {zs : List Str} {as : List Addr}, as.length = zs.length → (kvsZ zs as).map (·.1) = zs.map Sum.inr
  | [], [], _ => rfl
  | z :: zs, a :: as, h => by
    have ih := kvsZ_keys (zs := zs) (as := as) (by simpa using h)
    unfold kvsZ at ih ⊢
    rw [List.zip_cons_cons, List.map_cons, List.map_cons, ih, List.map_cons]
  | [], _ :: _, h => by cases h
  | _ :: _, [], h => by cases h
theorem inr_nd {zs : List Str} (h : zs.Nodup) : (zs.map (Sum.inr : Str → Key)).Nodup := by
  rw [List.nodup_iff_pairwise_ne, List.pairwise_map]
  exact h.imp fun q e => q (Sum.inr.inj e)
theorem kvsZ_at {zs : List Str} {as : List Addr} (h : as.length = zs.length) (nd : zs.Nodup) {j : Nat} {z : Str} {a : Addr} (e1 : zs[j]? = some z) (e2 : as[j]? = some a) : valV (kvsZ zs as) (.inr z) = some (.ref a) := by
  have hm : ((.inr z, .ref a) : Key × V) ∈ kvsZ zs as := by
    refine List.mem_map.mpr ⟨(z, a), List.mem_of_getElem? (i := j) ?_, rfl⟩
    rw [List.getElem?_zip_eq_some]
    exact ⟨e1, e2⟩
  exact valV_nd (by rw [kvsZ_keys h]; exact inr_nd nd) hm
theorem kvsZ_snoc {zs : List Str} {as : List Addr} {z : Str} {a : Addr} (h : as.length = zs.length) (hn : z ∉ zs) : putK (kvsZ zs as) (.inr z) (.ref a) = kvsZ (zs ++ [z]) (as ++ [a]) := by
  unfold putK
  rw [if_neg]
  · unfold kvsZ
    rw [List.zip_append (by rw [h]), List.map_append]; rfl
  · intro q
    obtain ⟨p, hp, e⟩ := List.any_eq_true.mp q
    have e := of_decide_eq_true e
    have : p.1 ∈ (kvsZ zs as).map (·.1) := List.mem_map_of_mem hp
    rw [kvsZ_keys h, e] at this
    obtain ⟨u, hu, e2⟩ := List.mem_map.mp this
    cases e2
    exact hn hu
theorem sorts_nd : sorts8.Nodup := by unfold sorts8; decide +kernel
/-- the counting dict: each sort's own row -/
structure CntAt (H H' : Hp) (D : Addr) (as : List Addr) (ts : List Th) (zs : List Str) : Prop where
  sm : Same H H'
  ed : H' D = some (.dK (kvsZ zs as))
  le : as.length = zs.length
  nd : (D :: as).Nodup
  fr : ∀ q ∈ D :: as, H q = none
  ro : ∀ (i : Nat) (z : Str) (a : Addr), zs[i]? = some z → as[i]? = some a → H' a = some (.lst [.int (tallyN ts z : Nat), .int (tallyS ts z : Nat)])
theorem CntAt.step {H H1 H2 : Hp} {D p : Addr} {as : List Addr} {i : Nat} {z : Str} (h : CntAt H H1 D as [] (sorts8.take i)) (np : H1 p = none) (s2 : Same H1 H2) (ep : H2 p = some (.lst [.int 0, .int 0])) (ez : sorts8[i]? = some z) : CntAt H (upd H2 D (.dK (putK (kvsZ (sorts8.take i) as) (.inr z) (.ref p)))) D (as ++ [p]) [] (sorts8.take (i + 1)) := by
  have hn : z ∉ sorts8.take i := by
    have := (List.take_sublist (i + 1) sorts8).nodup sorts_nd
    rw [take_get ez, List.nodup_append] at this
    exact fun m => this.2.2 z m z (by simp) rfl
  have hD : H D = none := h.fr D (List.mem_cons_self ..)
  have npD : p ≠ D := fun q => by rw [q, h.ed] at np; cases np
  obtain ⟨d1, d2⟩ := List.nodup_cons.mp h.nd
  have live : ∀ a ∈ as, ∃ o, H1 a = some o := fun a m => by
    obtain ⟨j, hj, rfl⟩ := List.getElem_of_mem m
    have : j < (sorts8.take i).length := by rw [← h.le]; exact hj
    exact ⟨_, h.ro j _ _ (List.getElem?_eq_getElem this) (List.getElem?_eq_getElem hj)⟩
  have npa : p ∉ as := fun m => by obtain ⟨o, e⟩ := live p m; rw [np] at e; cases e
  rw [take_get ez]
  refine ⟨mk_same (h.sm.trans s2) hD, by rw [upd_same, kvsZ_snoc h.le hn], by rw [List.length_append, List.length_append, h.le]; rfl, ?_, ?_, ?_⟩
  · rw [List.nodup_cons, List.nodup_append]
    exact ⟨fun m => by rcases List.mem_append.mp m with m | m; exact d1 m; exact npD (List.mem_singleton.mp m).symm, d2, by simp, fun a ha b hb e => npa (by rw [← List.mem_singleton.mp hb, ← e]; exact ha)⟩
  · intro q m
    rcases List.mem_cons.mp m with rfl | m
    · exact hD
    · rcases List.mem_append.mp m with m | m
      · exact h.fr q (List.mem_cons_of_mem _ m)
      · rw [List.mem_singleton.mp m]; exact h.sm.free np
  · intro j z' a e1 e2
    rw [List.getElem?_append] at e1 e2
    rw [h.le] at e2
    split at e1
    · rename_i hj
      rw [if_pos hj] at e2
      have na : a ≠ D := fun q => d1 (by rw [← q]; exact List.mem_of_getElem? e2)
      exact (upd_ne na).trans (s2 _ _ (h.ro j z' a e1 e2))
    · rename_i hj
      rw [if_neg hj] at e2
      obtain ⟨h0, _⟩ := List.getElem?_eq_some_iff.mp e2
      rw [List.length_singleton] at h0
      have : j - (sorts8.take i).length = 0 := by omega
      rw [this] at e2
      cases e2
      exact (upd_ne npD).trans ep
theorem CntAt.count {H H1 H2 : Hp} {D a : Addr} {as : List Addr} {ts : List Th} {t : Th} {j : Nat} (h : CntAt H H1 D as ts sorts8) (ez : sorts8[j]? = some (sortT t)) (ea : as[j]? = some a) (k : Keep [a] H1 H2) (e : H2 a = some (.lst [.int (tallyN ts (sortT t) + 1 : Nat), .int (tallyS ts (sortT t) + sizeT t : Nat)])) : CntAt H H2 D as (ts ++ [t]) sorts8 := by
  obtain ⟨d1, d2⟩ := List.nodup_cons.mp h.nd
  have ma := List.mem_of_getElem? ea
  have nD : D ≠ a := fun q => d1 (by rw [q]; exact ma)
  refine ⟨same_keep h.sm k (fun q m => by rw [List.mem_singleton.mp m]; exact h.fr a (List.mem_cons_of_mem _ ma)), k _ _ (by simpa using nD) h.ed, h.le, h.nd, h.fr, fun i z b e1 e2 => ?_⟩
  rw [tallyN_snoc, tallyS_snoc]
  by_cases q : b = a
  · subst q
    have hij : i = j := (List.getElem?_inj (List.getElem?_eq_some_iff.mp e2).1 d2).mp (e2.trans ea.symm)
    subst hij
    rw [ez] at e1
    cases e1
    rw [if_pos rfl, if_pos rfl]
    exact e
  · have hz : ¬ sortT t = z := fun w => by
      have hij : i = j := (List.getElem?_inj (List.getElem?_eq_some_iff.mp e1).1 sorts_nd).mp (e1.trans (by rw [ez, w]))
      subst hij
      rw [ea] at e2
      cases e2
      exact q rfl
    rw [if_neg hz, if_neg hz]
    exact k _ _ (by simpa using q) (h.ro i z b e1 e2)
def rowD (ts : List Th) (z : Str) : List (Key × V) := [(.inr "sort", .str z), (.inr "count", .int (tallyN ts z : Nat)), (.inr "size", .int (tallyS ts z : Nat))]
def OutI (H1 : Hp) (D0 : Addr) (ts : List Th) (i : Nat) (H' : Hp) : Prop := ∃ ds : List Addr, Same H1 H' ∧ H' D0 = some (.lst (ds.map V.ref)) ∧ Paired (fun d z => H' d = some (.dK (rowD ts z))) ds (sorts8.take i)
def CntD (H : Hp) (D : Addr) (i : Nat) (H' : Hp) : Prop := ∃ as, CntAt H H' D as [] (sorts8.take i)
def CntL (H : Hp) (D : Addr) (as : List Addr) (things : List Th) (y : Addr) (i : Nat) (σ : L2.St) (H' : Hp) : Prop := CntAt H H' D as (things.take i) sorts8 ∧ ∃ v2 v3 v4, σ = [some (.ref y), some (.ref D), v2, v3, v4]
def spCounts (w : World) (c : Cs) : Sp := fun vs H Q _ => match vs with
  | [.ref y] => ∃ x S, y = x.y ∧ Sto w c H x S ∧ S.things.length ≤ 5000 ∧ (∀ t ∈ S.things, SmT t ∧ TxT t) ∧ ∀ p ds H1, H p = none → Same H H1 → H1 p = some (.lst (ds.map V.ref)) → Paired (fun d z => H1 d = some (.dK (rowD S.things z))) ds sorts8 → Q (.ref p) H1
  | _ => False
set_option maxHeartbeats 8000000 in
theorem ok_counts (A : At K mg "counts_of" "counts_of" s_counts_of ["store"]) (T : Txt K mg c) (H_sort_of : Has P w K mg base CX0 "sort_of" 1 ["store", "number"] (spSort w c)) (H_size_of : Has P w K mg base CX0 "size_of" 3 ["store", "number"] (spSize w c)) : Has P w K mg base CX0 "counts_of" 4 ["store"] (spCounts w c) := by
  have Sc := sc_counts_of
  refine has_of A Sc (fun vs H Q E h => ?_) (fun cdv f A outer s H vs Q E hr h => ?_)
  · unfold spCounts at h; split at h; rfl; cases h
  · unfold spCounts at h
    split at h
    · rename_i y
      obtain ⟨x, S, rfl, hS, hl, hsm, h⟩ := h
      have hlen : x.L.length = S.things.length := Paired.length hS.th
      obtain ⟨sdx, es⟩ := hS.st
      refine ⟨_, (pss_cons (ps_set (i := 1) Sc.nd rfl (.inr rfl) (pe_dc (own := [("sort", 4)]) (by rfl) Sc.nd (pi_tup (fe_gtup (by rfl) T.g_SORTS)) (blkOk_by (own := [("sort", 4)]) (N := ["store", "counts", "number", "row", "sort"]) (sc := defScope s_counts_of) (by decide +kernel)) (fun _ _ _ _ _ => (pg_name (i := 4) Sc.nd rfl (.inl rfl))) (fun _ _ _ _ _ => pts_nil) (fun _ _ _ _ _ => (fe_var 4)) (fun _ _ _ _ _ => (fe_lst (pa_cons pe_int (pa_cons pe_int pa_nil))))))
      (pss_cons (ps_for PassesOwn.never rfl (pi_range1 (by rfl) T.no_range (pa_cons (pe_callB call_fLen (by rfl) T.no_len (by decide +kernel) (pa_cons (fe_fld (fe_var 0) T.pl_things rfl) pa_nil)) pa_nil)) (pg_name (i := 2) Sc.nd rfl (.inl rfl)) (pss_cons (ps_set (i := 3) Sc.nd rfl (.inl rfl) (pe_getK (hu_of hr) (fe_var 1) (fe_call H_sort_of (hr.mono (by walk_at "rm")) (by rfl) pass0 (pa_cons (fe_var 0) (pa_cons (fe_var 2) pa_nil))) (fun _ _ => rfl)))
      (pss_cons (ps_asg (pe_op op_fAdd (pe_ix ix_fx (fe_var 3) pe_int (fun _ _ => rfl)) pe_int) (pg_sub (fe_var 3) pe_int set_fx))
      (pss_one (ps_asg (pe_op op_fAdd (pe_ix ix_fx (fe_var 3) pe_int (fun _ _ => rfl)) (fe_call H_size_of (hr.mono (by walk_at "rm")) (by rfl) pass0 (pa_cons (fe_var 0) (pa_cons (fe_var 2) pa_nil)))) (pg_sub (fe_var 3) pe_int set_fx))))))
      (pss_one (ps_ret (pe_lc (own := [("sort", 4)]) (by rfl) Sc.nd (pi_tup (fe_gtup (by rfl) T.g_SORTS)) (blkOk_by (own := [("sort", 4)]) (N := ["store", "counts", "number", "row", "sort"]) (sc := defScope s_counts_of) (by decide +kernel)) (fun _ _ _ _ _ => (pg_name (i := 4) Sc.nd rfl (.inl rfl))) (fun _ _ _ _ _ => pts_nil) (fun _ _ _ _ _ => (fe_disp (fps_cons (fe_var 4) (fps_cons (pe_ix (ix_fxK (K := K) rfl) (pe_getK (hu_of hr) (fe_var 1) (fe_var 4) (fun _ _ => rfl)) pe_int (fun _ _ => rfl)) (fps_cons (pe_ix (ix_fxK (K := K) rfl) (pe_getK (hu_of hr) (fe_var 1) (fe_var 4) (fun _ _ => rfl)) pe_int (fun _ _ => rfl)) fps_nil))) (by simp only [List.map_cons, List.map_nil]; decide) rfl rfl (fun h => by cases h) (by decide) (by simp only [List.length_cons, List.length_nil]; omega)))))))), ?_⟩
      walk_at "fx0"
      walk_at "ox"
      refine dc_ ?_
      walk_at "ox"
      intro a0 hs0
      refine ⟨⟨_, hs0 _⟩, fun D nD => ?_⟩
      refine dcx_tup (xs := sorts8.map V.str) (CntD H D) ⟨[], same_new nD, upd_same, rfl, by simp, (fun q m => by rw [List.mem_singleton.mp m]; exact nD), (fun i z a e => by cases i <;> cases e)⟩ (fun i H' _ ⟨as, hC⟩ => hs0 _) ?_ ?_
      · rintro i v H1 hv ⟨as, hC⟩
        rw [List.getElem?_map] at hv
        obtain ⟨z, ez, rfl⟩ := Option.map_eq_some_iff.mp hv
        walk_at "ox"
        intro p H2 np s2 ep
        refine ⟨_, .inr z, rfl, s2 _ _ hC.ed, ?_, as ++ [p], hC.step np s2 ep ez⟩
        rw [show (kvsZ (sorts8.take i) as).length = ((kvsZ (sorts8.take i) as).map (·.1)).length from (List.length_map ..).symm, kvsZ_keys hC.le, List.length_map, List.length_take, sizeLine_eq]
        have : sorts8.length = 8 := rfl
        omega
      · rintro H1 ⟨as, hC⟩
        have hC : CntAt H H1 D as [] sorts8 := hC
        have es1 := hC.sm _ _ es
        refine for_ ?_
        repeat (first | walk_at "oxs" | simp only [es1])
        have S1 := hS.same hC.sm
        refine ⟨_, rl_l S1.et, ?_⟩
        rw [List.length_map, hlen]
        refine ⟨by omega, by omega, ?_⟩
        refine loop_range (CntL H D as S.things x.y) ⟨hC, _, _, _, rfl⟩ ?_ ?_
        · rintro i σ H2 hi ⟨hC, v2, v3, v4, rfl⟩
          obtain ⟨t, et⟩ : ∃ t, S.things[i]? = some t := ⟨S.things[i], List.getElem?_eq_getElem hi⟩
          obtain ⟨j, hj, ej⟩ := List.getElem_of_mem (sort_mem t)
          have ez : sorts8[j]? = some (sortT t) := by rw [← ej]; exact List.getElem?_eq_getElem hj
          have hja : j < as.length := by rw [hC.le]; exact hj
          have ea : as[j]? = some as[j] := List.getElem?_eq_getElem hja
          generalize as[j] = a at ea
          have er := hC.ro j _ a ez ea
          walk_at "ox"
          refine ⟨x, S, i, t, rfl, rfl, hS.same hC.sm, et, ?_⟩
          walk_at "ox"
          refine ⟨_, .inl hC.ed, _, kvsZ_at hC.le sorts_nd ez ea, ?_⟩
          walk_at "ox"
          refine ⟨_, rl_l er, _, rfl, ?_⟩
          repeat (first | walk_at "oxs" | simp only [er])
          have hfa := hC.fr a (List.mem_cons_of_mem _ (List.mem_of_getElem? ea))
          refine ⟨0, rfl, ?_⟩
          refine ⟨_, rl_l upd_same, _, rfl, ?_⟩
          refine ⟨x, S, i, t, rfl, rfl, hS.same (mk_same hC.sm hfa), et, (hsm t (List.mem_of_getElem? et)).1, (hsm t (List.mem_of_getElem? et)).2, fun H3 s3 => ?_⟩
          have e3 := s3 _ _ upd_same
          walk_at "ox"
          simp only [e3]
          refine ⟨1, rfl, ?_⟩
          refine ⟨?_, _, _, _, rfl⟩
          rw [take_get et]
          exact hC.count ez ea (((Keep.refl.upd (by simp)).trans (Keep.of s3)).upd (by simp)) upd_same
        · rintro σ H2 ⟨hC, v2, v3, v4, rfl⟩
          rw [List.take_length] at hC
          walk_at "ox"
          refine lc_ ?_
          walk_at "ox"
          intro a1 hs1
          refine ⟨⟨_, hs1 _⟩, fun D0 nD0 => ?_⟩
          refine lcx_tup (xs := sorts8.map V.str) (OutI H2 D0 S.things) ⟨[], same_new nD0, upd_same, .nil⟩ (fun i H' _ _ => hs1 _) ?_ ?_
          · rintro i v H3 hv ⟨ds, s3, e0, hds⟩
            rw [List.getElem?_map] at hv
            obtain ⟨z, ez, rfl⟩ := Option.map_eq_some_iff.mp hv
            obtain ⟨hj, _⟩ := List.getElem?_eq_some_iff.mp ez
            have hja : i < as.length := by rw [hC.le]; exact hj
            have ea : as[i]? = some as[i] := List.getElem?_eq_getElem hja
            generalize as[i] = a at ea
            have er := s3 _ _ (hC.ro i _ a ez ea)
            walk_at "ox"
            intro p H4 np s4 ep
            have er4 := s4 _ _ er
            have eD4 := s4 _ _ (s3 _ _ hC.ed)
            refine ⟨_, .inl eD4, _, kvsZ_at hC.le sorts_nd ez ea, ?_⟩
            refine ⟨_, rl_l er4, _, rfl, ?_⟩
            refine ⟨_, .inl eD4, _, kvsZ_at hC.le sorts_nd ez ea, ?_⟩
            refine ⟨_, rl_l er4, _, rfl, ?_⟩
            refine ⟨ep, fun H5 e5 => ?_⟩
            have hld : ds.length ≤ 8 := by
              have := Paired.length hds
              rw [List.length_take] at this
              have : sorts8.length = 8 := rfl
              omega
            have nDp : D0 ≠ p := fun q => by rw [← q, s4 _ _ e0] at ep; cases ep
            have s5 : Same H3 H5 := by rw [e5]; exact mk_same s4 np
            have e0' : H5 D0 = some (.lst (ds.map V.ref)) := s5 _ _ e0
            have ep5 : H5 p = some (.dK (rowD S.things z)) := by rw [e5, upd_same]; rfl
            refine ⟨_, e0', len_line' (by rw [List.length_map]; omega), ds ++ [p], mk_same (s3.trans s5) nD0, by rw [upd_same, List.map_append]; rfl, ?_⟩
            rw [take_get ez]
            refine Paired.snoc (Paired.mapP hds fun d z' q => ?_) ((upd_ne (Ne.symm nDp)).trans ep5)
            have nd : d ≠ D0 := fun w => by rw [w, e0] at q; cases q
            exact (upd_ne nd).trans (s5 _ _ q)
          · rintro H3 ⟨ds, s3, e0, hds⟩
            exact h D0 ds H3 (hC.sm.free nD0) (hC.sm.trans s3) e0 hds
    · cases h
end

section
variable {P : Program} {w : World} {K : PySem.W.Frag} {mg : Str → Option Value} {base : Heap} {c : Cs}
/-! ### the law's own objects -/
def spIsInt : Sp := fun vs H Q _ => match vs with
  | [.int n] => Q (.bl true) H
  | _ => False
theorem ok_isint (A : At K mg "_law_is_integer" "_law_is_integer" s_law_is_integer ["told"]) (T : Txt K mg c) : Has P w K mg base CX0 "_law_is_integer" 1 ["told"] spIsInt := by
  have Sc := sc_law_is_integer
  refine has_of A Sc (fun vs H Q E h => ?_) (fun cdv f A outer s H vs Q E hr h => ?_)
  · unfold spIsInt at h; split at h; rfl; cases h
  · unfold spIsInt at h
    split at h
    · refine ⟨_, (pss_one (ps_ret (pe_and (pe_callB (call_fIsiA T.kit) (by rfl) T.no_isinstance (by decide +kernel) (pa_cons (fe_var 0) (pa_cons (fe_ty (n := "int") (by rfl) T.no_int (by decide +kernel)) pa_nil))) (pe_one (pe_not (pe_callB (call_fIsiA T.kit) (by rfl) T.no_isinstance (by decide +kernel) (pa_cons (fe_var 0) (pa_cons (fe_ty (n := "bool") (by rfl) T.no_bool (by decide +kernel)) pa_nil)))))))), ?_⟩
      walk_at "fx0"
      repeat (walk_at "oxs")
      exact h
    · cases h
def TxV : RV → Prop
  | .txt z => z.length ≤ 1000
  | _ => True
theorem Tx.snoc {rs : List RV} {r : RV} (h : Tx rs) (hr : TxV r) : Tx (rs ++ [r]) := fun z m => by
  rcases List.mem_append.mp m with m | m
  · exact h z m
  · rw [← List.mem_singleton.mp m] at hr; exact hr
theorem Keep.updN {ps : List Addr} {H H1 : Hp} {D : Addr} {o : HO} (k : Keep ps H H1) (n : H D = none) : Keep ps H (upd H1 D o) := fun a u na e => (upd_ne (ne_of_none e n)).trans (k a u na e)
theorem Keep.freeK {ps : List Addr} {H H1 : Hp} {q : Addr} (k : Keep ps H H1) (n : H1 q = none) (hp : q ∉ ps) : H q = none := by
  cases e : H q with
  | none => rfl
  | some o => rw [k _ _ hp e] at n; cases n
theorem Dr.live {H0 H : Hp} {s sc : Addr} {ns : List Int} (D : Dr K H0 s sc ns H) : ∃ xs, H s = some (.lst xs) := by
  obtain ⟨a, k, e, _⟩ := D.st; exact ⟨_, e⟩
theorem Dr.soft {H0 H : Hp} {s sc : Addr} {ns : List Int} (D : Dr K H0 s sc ns H) : ∀ p ∈ [s], Soft c H p := fun p m => by
  obtain ⟨xs, e⟩ := D.live
  rw [List.mem_singleton.mp m]; exact soft_lst e
theorem Dr.put {H0 H : Hp} {s sc D0 : Addr} {ns : List Int} {o : HO} (D : Dr K H0 s sc ns H) (h0 : H0 D0 = none) (n : D0 ≠ s) : Dr K H0 s sc ns (upd H D0 o) :=
  D.keep (ps := [D0]) (Keep.refl.upd (by simp)) (fun m => n (List.mem_singleton.mp m).symm) fun q m => by rw [List.mem_singleton.mp m]; exact h0
theorem Dr.new {H0 H H1 : Hp} {s sc q : Addr} {ns : List Int} (D : Dr K H0 s sc ns H) (k : Keep [s] H H1) (n : H1 q = none) (D1 : Dr K H0 s sc ns H1) : H q = none := Keep.freeK k n fun m => by
  obtain ⟨xs, e⟩ := D1.live
  rw [List.mem_singleton.mp m, e] at n; cases n
theorem x30 : ∀ d : Fin 30, MulOk (Str.ofString "x") ((d : Nat) : Int) ∧ (Txt.mul (Str.ofString "x") ((d : Nat) : Int)).length ≤ 1000 := by
  unfold MulOk; decide
def spValue (K : PySem.W.Frag) (c : Cs) : Sp := fun vs H Q _ => match vs with
  | [.ref s, .int m] => ∃ H0 sc ns, Dr K H0 s sc ns H ∧ 0 < m ∧ m ≤ 100 ∧ ∀ H1 v rv, Keep [s] H H1 → Dr K H0 s sc ns H1 → IsVal c H1 v rv → TxV rv → Q v H1
  | _ => False
theorem ok_value (A : At K mg "_law_value" "_law_value" s_law_value ["state", "many"]) (T : Txt K mg c) (H_law_draw : Has P w K mg base CX0 "_law_draw" 2 ["state", "many"] (spDraw K)) (H_law_pick : Has P w K mg base CX0 "_law_pick" 3 ["state", "row"] (spPick2 K)) (M_Ref : HasC P w K mg base CX0 c.Ref "Ref" 1 ["self", "number"] (spMk_Ref K c)) (M_Builtin : HasC P w K mg base CX0 c.Builtin "Builtin" 1 ["self", "name"] (spMk_Builtin K c)) : Has P w K mg base CX0 "_law_value" 4 ["state", "many"] (spValue K c) := by
  have Sc := sc_law_value
  refine has_of A Sc (fun vs H Q E h => ?_) (fun cdv f A outer s H vs Q E hr h => ?_)
  · unfold spValue at h; split at h; rfl; cases h
  · unfold spValue at h
    split at h
    · rename_i s m
      obtain ⟨H0, sc, ns, D, hm0, hm1, h⟩ := h
      refine ⟨_, (pss_cons (ps_if (pt_cmpR (op_fEq hr.units) (fe_call H_law_draw (hr.mono (by walk_at "rm")) (by rfl) pass0 (pa_cons (fe_var 0) (pa_cons pe_int pa_nil))) pe_int (nomark _)) (pss_one (ps_ret (fe_make (k := _) M_Ref (hr.mono (by walk_at "rm")) (by rfl) pass0 (pa_cons (fe_call H_law_draw (hr.mono (by walk_at "rm")) (by rfl) pass0 (pa_cons (fe_var 0) (pa_cons (fe_var 1) pa_nil))) pa_nil)))) pss_nil)
      (pss_one (ps_ret (fe_call H_law_pick (hr.mono (by walk_at "rm")) (by rfl) pass0 (pa_cons (fe_var 0) (pa_cons (fe_tup (pa_cons pe_non (pa_cons pe_bl (pa_cons pe_int (pa_cons pe_int (pa_cons pe_str (pa_cons pe_str (pa_cons (fe_make (k := _) M_Builtin (hr.mono (by walk_at "rm")) (by rfl) pass0 (pa_cons pe_str pa_nil)) (pa_cons (pe_op op_fMul pe_str (fe_call H_law_draw (hr.mono (by walk_at "rm")) (by rfl) pass0 (pa_cons (fe_var 0) (pa_cons pe_int pa_nil)))) pa_nil))))))))) pa_nil)))))), ?_⟩
      walk_at "fx0"
      walk_at "ox"
      refine cut_ fun N hN => ifs_ ?_
      walk_at "ox"
      refine ⟨H0, sc, ns, D, by omega, by omega, fun H1 d k1 D1 d0 d1 => ?_⟩
      walk_at "ox"
      split
      · refine ⟨H0, sc, ns, D1, by omega, by omega, fun H2 n k2 D2 n0 n1 => ?_⟩
        walk_at "ox"
        intro r rdx H3 nr s3 er
        obtain ⟨n, rfl⟩ := Int.eq_ofNat_of_zero_le n0
        exact h H3 _ (.ob n) ((k1.trans k2).trans (Keep.of s3)) (D2.same s3) ⟨r, rfl, rdx, er⟩ trivial
      · refine hN _ _ ?_
        walk_at "ox"
        intro b bdx H2 nb s2 eb
        walk_at "ox"
        refine ⟨H0, sc, ns, D1.same s2, by omega, by omega, fun H3 d2 k3 D3 d3 d4 => ?_⟩
        walk_at "ox"
        obtain ⟨d2, rfl⟩ := Int.eq_ofNat_of_zero_le d3
        obtain ⟨x1, x2⟩ := x30 ⟨d2, by omega⟩
        refine ⟨x1, fun tp H4 ntp s4 etp => ?_⟩
        have nts : tp ≠ s := fun z => by obtain ⟨xs, e⟩ := D3.live; rw [← z, ntp] at e; cases e
        refine ⟨H0, sc, ns, _, D3.same s4, fun H5 k5 => rl_t (k5 _ _ (by simpa using nts) etp), by simp, by simp, fun H5 v k5 D5 hv => ?_⟩
        have K5 : Keep [s] H H5 := (((k1.trans (Keep.of s2)).trans k3).trans (Keep.of s4)).trans k5
        have hs5 : HardStay c H2 H5 := HardStay.trans (.keep k3 (D1.same s2).soft) (HardStay.trans (.same s4) (.keep k5 (D3.same s4).soft))
        simp only [List.mem_cons, List.not_mem_nil, or_false] at hv
        rcases hv with rfl | rfl | rfl | rfl | rfl | rfl | rfl | rfl
        · exact h H5 _ .nul K5 D5 rfl trivial
        · exact h H5 _ (.boo true) K5 D5 rfl trivial
        · exact h H5 _ (.num 0) K5 D5 rfl trivial
        · exact h H5 _ (.num 12) K5 D5 rfl trivial
        · exact h H5 _ (.txt "") K5 D5 rfl (by show Str.length _ ≤ 1000; decide)
        · exact h H5 _ (.txt "abc") K5 D5 rfl (by show Str.length _ ≤ 1000; decide)
        · exact h H5 _ (.bt "len") K5 D5 ⟨b, rfl, bdx, hs5 _ _ eb Hard.b⟩ trivial
        · exact h H5 _ (.txt _) K5 D5 rfl x2
    · cases h
def spTexts (c : Cs) : Sp := fun vs H Q _ => match vs with
  | [.ref l] => ∃ xs rs, H l = some (.lst xs) ∧ VsAt c H xs rs ∧ rs.length ≤ 5000 ∧ Tx rs ∧ Q (.int (txtsR rs : Nat)) H
  | _ => False
theorem txtsR_snoc {rs : List RV} {r : RV} : txtsR (rs ++ [r]) = txtsR rs + txtR r := by simp [txtsR]
theorem ok_texts (A : At K mg "_law_texts" "_law_texts" s_law_texts ["values"]) (T : Txt K mg c) : Has P w K mg base CX0 "_law_texts" 2 ["values"] (spTexts c) := by
  have Sc := sc_law_texts
  refine has_of A Sc (fun vs H Q E h => ?_) (fun cdv f A outer s H vs Q E hr h => ?_)
  · unfold spTexts at h; split at h; rfl; cases h
  · unfold spTexts at h
    split at h
    · rename_i l
      obtain ⟨xs, rs, el, hv, hn, hz, h⟩ := h
      have hlx : xs.length = rs.length := Paired.length hv
      refine ⟨_, (pss_cons (ps_set (i := 1) Sc.nd rfl (.inl rfl) pe_int)
      (pss_cons (ps_for PassesOwn.never rfl (pi_list (fe_var 0)) (pg_name (i := 2) Sc.nd rfl (.inl rfl)) (pss_one (ps_if (pt_val (pe_callB (call_fIsiA T.kit) (by rfl) T.no_isinstance (by decide +kernel) (pa_cons (fe_var 2) (pa_cons (fe_ty (n := "str") (by rfl) T.no_str (by decide +kernel)) pa_nil)))) (pss_one (ps_set (i := 1) Sc.nd rfl (.inl rfl) (pe_op op_fAdd (fe_var 1) (pe_callB call_fLen (by rfl) T.no_len (by decide +kernel) (pa_cons (fe_var 2) pa_nil))))) pss_nil)))
      (pss_one (ps_ret (fe_var 1))))), ?_⟩
      walk_at "fx0"
      walk_at "ox"
      refine cut_ fun N hN => for_ ?_
      walk_at "ox"
      refine ⟨⟨_, .inl (.inl el)⟩, ?_⟩
      refine loop_list xs (fun i σ H' => H' = H ∧ ∃ v2, σ = [some (.ref l), some (.int (txtsR (rs.take i) : Nat)), v2]) ⟨rfl, _, rfl⟩ (fun i σ H' _ ⟨e, _⟩ => by rw [e]; exact .inl (.inl el)) ?_ ?_
      · rintro i x σ H' hx ⟨rfl, v2, rfl⟩
        obtain ⟨r, er, hr1⟩ := paired_get hv hx
        rw [take_get er, txtsR_snoc]
        cases r with
        | txt z =>
          cases hr1
          have hz1 := hz z (List.mem_of_getElem? er)
          repeat (walk_at "oxs")
          exact ⟨Nat.le_of_lt (len_line' (by omega)), by simp [txtR], _, rfl⟩
        | ob n =>
          obtain ⟨a, rfl, dx, e1⟩ := hr1
          repeat (first | walk_at "oxs" | simp only [e1])
          exact ⟨by simp [txtR], _, rfl⟩
        | bt z =>
          obtain ⟨a, rfl, dx, e1⟩ := hr1
          repeat (first | walk_at "oxs" | simp only [e1])
          exact ⟨by simp [txtR], _, rfl⟩
        | _ =>
          cases hr1
          repeat (walk_at "oxs")
          exact ⟨by simp [txtR], _, rfl⟩
      · rintro σ H' ⟨rfl, v2, rfl⟩
        refine hN _ _ ?_
        walk_at "ox"
        rw [hlx, List.take_length]
        exact h
    · cases h
def spRefs (c : Cs) : Sp := fun vs H Q _ => match vs with
  | [.ref l] => ∃ xs rs, H l = some (.lst xs) ∧ VsAt c H xs rs ∧ rs.length ≤ 5000 ∧ ∀ p H1, H p = none → Same H H1 → H1 p = some (.lst (intsN (refsR rs))) → Q (.ref p) H1
  | _ => False
theorem ok_refs (A : At K mg "_law_refs" "_law_refs" s_law_refs ["values"]) (T : Txt K mg c) : Has P w K mg base CX0 "_law_refs" 2 ["values"] (spRefs c) := by
  have Sc := sc_law_refs
  refine has_of A Sc (fun vs H Q E h => ?_) (fun cdv f A outer s H vs Q E hr h => ?_)
  · unfold spRefs at h; split at h; rfl; cases h
  · unfold spRefs at h
    split at h
    · rename_i l
      obtain ⟨xs, rs, el, hv, hn, h⟩ := h
      have hlx : xs.length = rs.length := Paired.length hv
      refine ⟨_, (pss_one (ps_ret (pe_lc (own := [("value", 1)]) (by rfl) Sc.nd (pi_list (fe_var 0)) (blkOk_by (own := [("value", 1)]) (N := ["values", "value"]) (sc := defScope s_law_refs) (by decide +kernel)) (fun _ _ _ _ _ => (pg_name (i := 1) Sc.nd rfl (.inl rfl))) (fun _ _ _ _ _ => (pts_one (pt_val (pe_callB (call_fIsiO T.kit) (by rfl) T.no_isinstance (by decide +kernel) (pa_cons (fe_var 1) (pa_cons (pe_glob (v := .ref c.Ref) (by rfl) T.mg_Ref rfl) pa_nil)))))) (fun _ _ _ _ _ => (fe_fld (fe_var 1) T.pl_number rfl))))), ?_⟩
      walk_at "fx0"
      refine lc_ ?_
      walk_at "ox"
      refine ⟨⟨_, .inl (.inl el)⟩, fun D0 nD => ?_⟩
      refine lcx_list (xs := xs) (NumI H D0 rs) ⟨same_new nD, upd_same⟩ (fun i H' _ ⟨s1, _⟩ => .inl (.inl (s1 _ _ el))) ?_ ?_
      · rintro i x H' hx ⟨s1, eD⟩
        obtain ⟨r, er, hr1⟩ := paired_get hv hx
        have hlt : (refsR (rs.take i)).length < 100000 := by
          have := refsR_len (rs.take i)
          rw [List.length_take] at this
          omega
        have fin : ∀ H2, NumI H D0 rs (i + 1) H2 ↔ Same H H2 ∧ H2 D0 = some (.lst (intsN (refsR (rs.take i) ++ (refR r).toList))) := fun H2 => by
          unfold NumI
          rw [take_get er, refsR_snoc]
        simp only [fin]
        cases r with
        | ob n =>
          obtain ⟨a, rfl, dx, e1⟩ := hr1
          have e2 := s1 _ _ e1
          repeat (first | walk_at "oxs" | simp only [e2])
          exact ⟨_, eD, len_line' (by unfold intsN; rw [List.length_map]; exact hlt), mk_same s1 nD, by unfold intsN; rw [List.map_append]; rfl⟩
        | bt z =>
          obtain ⟨a, rfl, dx, e1⟩ := hr1
          have e2 := s1 _ _ e1
          repeat (first | walk_at "oxs" | simp only [e2])
          exact ⟨s1, by rw [eD]; simp [refR]⟩
        | _ =>
          cases hr1
          repeat (walk_at "oxs")
          exact ⟨s1, by rw [eD]; simp [refR]⟩
      · rintro H1 ⟨s1, eD⟩
        rw [hlx, List.take_length] at eD
        exact h D0 H1 nD s1 eD
    · cases h
end

section
variable {P : Program} {w : World} {K : PySem.W.Frag} {mg : Str → Option Value} {base : Heap} {c : Cs}
structure RowRes (w : World) (c : Cs) (s : Addr) (H H1 : Hp) (tp a : Addr) (b : Option Addr) (t : Th) (cl : Addr) : Prop where
  k : Keep [s] H H1
  tup : H1 tp = some (.tup [.ref a, .str (sortT t), .int (sizeT t : Nat), .ref cl])
  th : ThAt w c H1 a b t
  nd : (footT a b).Nodup
  fr : ∀ q ∈ footT a b, H q = none
  ecl : H1 cl = some (.lst (intsN (childT t)))
  ncl : H cl = none
  dcl : cl ∉ footT a b
  sm : SmT t
  tx : TxT t
def spRow (K : PySem.W.Frag) (w : World) (c : Cs) : Sp := fun vs H Q _ => match vs with
  | [.ref s, .int m] => ∃ H0 sc ns, Dr K H0 s sc ns H ∧ 0 < m ∧ m ≤ 100 ∧ ∀ tp a b t cl H1, Dr K H0 s sc ns H1 → RowRes w c s H H1 tp a b t cl → Q (.ref tp) H1
  | _ => False
/-- a list of drawn values -/
def ValI (K : PySem.W.Frag) (c : Cs) (H0 : Hp) (s sc : Addr) (ns : List Int) (H : Hp) (D0 : Addr) (i : Nat) (H' : Hp) : Prop := ∃ xs rs, Dr K H0 s sc ns H' ∧ Keep [s] H H' ∧ H' D0 = some (.lst xs) ∧ VsAt c H' xs rs ∧ rs.length = i ∧ Tx rs
theorem ValI.step {H0 H H1 H2 : Hp} {s sc D0 : Addr} {ns : List Int} {i : Nat} {v : V} {rv : RV} (h : ValI K c H0 s sc ns H D0 i H1) (nD : H D0 = none) (h0 : H0 D0 = none) (ne : D0 ≠ s) (k : Keep [s] H1 H2) (D2 : Dr K H0 s sc ns H2) (hv : IsVal c H2 v rv) (ht : TxV rv) :
    ∃ acc, H2 D0 = some (.lst acc) ∧ acc.length = i ∧ ValI K c H0 s sc ns H D0 (i + 1) (upd H2 D0 (.lst (acc ++ [v]))) := by
  obtain ⟨xs, rs, D1, k1, eD, hxs, hl, htx⟩ := h
  have eD2 := k _ _ (by simpa using ne) eD
  have hs : HardStay c H2 (upd H2 D0 (.lst (xs ++ [v]))) := .keep (ps := [D0]) (Keep.refl.upd (by simp)) fun p m => by rw [List.mem_singleton.mp m]; exact soft_lst eD2
  refine ⟨xs, eD2, by have := Paired.length hxs; omega, xs ++ [v], rs ++ [rv], D2.put h0 ne, Keep.updN (k1.trans k) nD, upd_same, Paired.snoc (Paired.mapP hxs fun _ _ z => (z.hs (.keep k D1.soft)).hs hs) (hv.hs hs), by rw [List.length_append, hl]; rfl, htx.snoc ht⟩
set_option maxHeartbeats 4000000 in
theorem ok_row (A : At K mg "_law_row" "_law_row" s_law_row ["state", "many"]) (T : Txt K mg c) (H_law_draw : Has P w K mg base CX0 "_law_draw" 2 ["state", "many"] (spDraw K)) (H_law_value : Has P w K mg base CX0 "_law_value" 4 ["state", "many"] (spValue K c)) (H_law_texts : Has P w K mg base CX0 "_law_texts" 2 ["values"] (spTexts c)) (H_law_refs : Has P w K mg base CX0 "_law_refs" 2 ["values"] (spRefs c)) (M_Parts : HasC P w K mg base CX0 c.Parts "Parts" 1 ["self", "held"] (spMk_Parts K c)) (M_Cursor : HasC P w K mg base CX0 c.Cursor "Cursor" 1 ["self", "rest"] (spMk_Cursor K c)) (M_Variable : HasC P w K mg base CX0 c.Variable "Variable" 1 ["self", "value"] (spMk_Variable K c)) : Has P w K mg base CX0 "_law_row" 5 ["state", "many"] (spRow K w c) := by
  have Sc := sc_law_row
  refine has_of A Sc (fun vs H Q E h => ?_) (fun cdv f A outer s H vs Q E hr h => ?_)
  · unfold spRow at h; split at h; rfl; cases h
  · unfold spRow at h
    split at h
    · rename_i s m
      obtain ⟨H0, sc, ns, D, hm0, hm1, h⟩ := h
      refine ⟨_, (pss_cons (ps_setLc (i := 2) (own := [("k", 5)]) (by rfl) Sc.nd rfl rfl (sw_true rfl rfl rfl (by decide +kernel)) (pi_range1 (by rfl) T.no_range (pa_cons (fe_call H_law_draw (hr.mono (by walk_at "rm")) (by rfl) pass0 (pa_cons (fe_var 0) (pa_cons pe_int pa_nil))) pa_nil)) (blkOk_by (own := [("k", 5)]) (N := ["state", "many", "values", "kind", "value", "k"]) (sc := defScope s_law_row) (by decide +kernel)) (fun _ _ _ _ _ => (pg_name (i := 5) Sc.nd rfl (.inl rfl))) (fun _ _ _ _ _ => pts_nil) (fun _ _ _ _ _ => (fe_call H_law_value (hr.mono (by walk_at "rm")) (by rfl) pass0 (pa_cons (fe_var 0) (pa_cons (fe_var 1) pa_nil)))))
      (pss_cons (ps_set (i := 3) Sc.nd rfl (.inl rfl) (fe_call H_law_draw (hr.mono (by walk_at "rm")) (by rfl) pass0 (pa_cons (fe_var 0) (pa_cons pe_int pa_nil))))
      (pss_cons (ps_if (pt_cmpR (op_fEq hr.units) (fe_var 3) pe_int (nomark _)) (pss_one (ps_ret (fe_tup (pa_cons (fe_make (k := _) M_Parts (hr.mono (by walk_at "rm")) (by rfl) pass0 (pa_cons (fe_var 2) pa_nil)) (pa_cons pe_str (pa_cons (pe_op op_fAdd (pe_op op_fAdd pe_int (pe_callB call_fLen (by rfl) T.no_len (by decide +kernel) (pa_cons (fe_var 2) pa_nil))) (fe_call H_law_texts (hr.mono (by walk_at "rm")) (by rfl) pass0 (pa_cons (fe_var 2) pa_nil))) (pa_cons (fe_call H_law_refs (hr.mono (by walk_at "rm")) (by rfl) pass0 (pa_cons (fe_var 2) pa_nil)) pa_nil))))))) pss_nil)
      (pss_cons (ps_if (pt_cmpR (op_fEq hr.units) (fe_var 3) pe_int (nomark _)) (pss_one (ps_ret (fe_tup (pa_cons (fe_make (k := _) M_Cursor (hr.mono (by walk_at "rm")) (by rfl) pass0 (pa_cons (fe_var 2) pa_nil)) (pa_cons pe_str (pa_cons (pe_op op_fAdd (pe_op op_fAdd pe_int (pe_callB call_fLen (by rfl) T.no_len (by decide +kernel) (pa_cons (fe_var 2) pa_nil))) (fe_call H_law_texts (hr.mono (by walk_at "rm")) (by rfl) pass0 (pa_cons (fe_var 2) pa_nil))) (pa_cons (fe_call H_law_refs (hr.mono (by walk_at "rm")) (by rfl) pass0 (pa_cons (fe_var 2) pa_nil)) pa_nil))))))) pss_nil)
      (pss_cons (ps_set (i := 4) Sc.nd rfl (.inl rfl) (fe_call H_law_value (hr.mono (by walk_at "rm")) (by rfl) pass0 (pa_cons (fe_var 0) (pa_cons (fe_var 1) pa_nil))))
      (pss_one (ps_ret (fe_tup (pa_cons (fe_make (k := _) M_Variable (hr.mono (by walk_at "rm")) (by rfl) pass0 (pa_cons (fe_var 4) pa_nil)) (pa_cons pe_str (pa_cons (pe_op op_fAdd pe_int (fe_call H_law_texts (hr.mono (by walk_at "rm")) (by rfl) pass0 (pa_cons (fe_lst (pa_cons (fe_var 4) pa_nil)) pa_nil))) (pa_cons (fe_call H_law_refs (hr.mono (by walk_at "rm")) (by rfl) pass0 (pa_cons (fe_lst (pa_cons (fe_var 4) pa_nil)) pa_nil)) pa_nil)))))))))))), ?_⟩
      walk_at "fx0"
      walk_at "ox"
      refine lc_ ?_
      walk_at "ox"
      refine ⟨H0, sc, ns, D, by omega, by omega, fun H1 d k1 D1 d0 d1 => ?_⟩
      walk_at "ox"
      refine ⟨by omega, by omega, fun D0 nD => ?_⟩
      have nHD : H D0 = none := D.new k1 nD D1
      have nH0 : H0 D0 = none := D.sm.free nHD
      have neD : D0 ≠ s := fun z => by obtain ⟨xs, e⟩ := D1.live; rw [← z, nD] at e; cases e
      refine lcx_range (ValI K c H0 s sc ns H D0) ⟨[], [], D1.put nH0 neD, Keep.updN k1 nHD, upd_same, .nil, rfl, fun z m => by cases m⟩ ?_ ?_
      · rintro i H2 hi hV
        obtain ⟨xs, rs, D2, _⟩ := id hV
        walk_at "ox"
        refine ⟨H0, sc, ns, D2, by omega, by omega, fun H3 v rv k3 D3 hv hx => ?_⟩
        obtain ⟨acc, q1, q2, q3⟩ := hV.step nHD nH0 neD k3 D3 hv hx
        exact ⟨acc, q1, len_line' (by omega), q3⟩
      · rintro H2 ⟨xs, rs, D2, k2, eD, hv, hl, htx⟩
        have hlx : xs.length = rs.length := Paired.length hv
        have hd5 : d.toNat ≤ 4 := by omega
        walk_at "ox"
        refine ⟨H0, sc, ns, D2, by omega, by omega, fun H3 kd k3 D3 c0 c1 => ?_⟩
        have eD3 := k3 _ _ (by simpa using neD) eD
        have hv3 := VsAt.hs hv (.keep k3 D2.soft)
        have K3 := k2.trans k3
        refine cut_ fun N hN => ifs_ ?_
        walk_at "ox"
        split
        · refine ⟨_, rl_l eD3, ?_⟩
          intro a dx p H4 na s4 ea np ep hne
          walk_at "ox"
          refine ⟨_, rl_l (s4 _ _ eD3), ?_⟩
          refine ⟨xs, rs, s4 _ _ eD3, Paired.mapP hv3 fun _ _ z => z.same s4, by omega, htx, ?_⟩
          walk_at "ox"
          refine ⟨xs, rs, s4 _ _ eD3, Paired.mapP hv3 fun _ _ z => z.same s4, by omega, fun cl H5 ncl s5 ecl => ?_⟩
          walk_at "ox"
          intro tp H6 ntp s6 etp
          have e9 : (1 : Int) + (xs.length : Nat) + ((txtsR rs : Nat) : Int) = ((sizeT (.parts rs) : Nat) : Int) := by simp only [sizeT]; omega
          rw [e9] at etp
          have S6 := (s4.trans s5).trans s6
          have nsf : ∀ {q : Addr}, H3 q = none → H q = none := fun n => D.new K3 n D3
          have nclf : cl ∉ footT a (some p) := fun m => by
            simp only [footT, Option.toList_some, List.mem_cons, List.not_mem_nil, or_false] at m
            rcases m with rfl | rfl
            · rw [ea] at ncl; cases ncl
            · rw [ep] at ncl; cases ncl
          exact h tp a (some p) (.parts rs) cl H6 (D3.same S6) ⟨K3.trans (Keep.of S6), etp, ⟨dx, p, xs, rfl, s6 _ _ (s5 _ _ ea), s6 _ _ (s5 _ _ ep), Paired.mapP hv3 fun _ _ z => z.same S6⟩, foot_two hne, fun q m => nsf (free_two na np q m), s6 _ _ ecl, nsf (s4.free ncl), nclf, by show rs.length ≤ 1000; omega, htx⟩
        · refine hN _ _ ?_
          walk_at "ox"
          refine cut_ fun N2 hN2 => ifs_ ?_
          walk_at "ox"
          split
          · refine ⟨_, rl_l eD3, ?_⟩
            intro a dx p H4 na s4 ea np ep hne
            walk_at "ox"
            refine ⟨_, rl_l (s4 _ _ eD3), ?_⟩
            refine ⟨xs, rs, s4 _ _ eD3, Paired.mapP hv3 fun _ _ z => z.same s4, by omega, htx, ?_⟩
            walk_at "ox"
            refine ⟨xs, rs, s4 _ _ eD3, Paired.mapP hv3 fun _ _ z => z.same s4, by omega, fun cl H5 ncl s5 ecl => ?_⟩
            walk_at "ox"
            intro tp H6 ntp s6 etp
            have e9 : (1 : Int) + (xs.length : Nat) + ((txtsR rs : Nat) : Int) = ((sizeT (.cur rs) : Nat) : Int) := by simp only [sizeT]; omega
            rw [e9] at etp
            have S6 := (s4.trans s5).trans s6
            have nsf : ∀ {q : Addr}, H3 q = none → H q = none := fun n => D.new K3 n D3
            have nclf : cl ∉ footT a (some p) := fun m => by
              simp only [footT, Option.toList_some, List.mem_cons, List.not_mem_nil, or_false] at m
              rcases m with rfl | rfl
              · rw [ea] at ncl; cases ncl
              · rw [ep] at ncl; cases ncl
            exact h tp a (some p) (.cur rs) cl H6 (D3.same S6) ⟨K3.trans (Keep.of S6), etp, ⟨dx, p, xs, rfl, s6 _ _ (s5 _ _ ea), s6 _ _ (s5 _ _ ep), Paired.mapP hv3 fun _ _ z => z.same S6⟩, foot_two hne, fun q m => nsf (free_two na np q m), s6 _ _ ecl, nsf (s4.free ncl), nclf, by show rs.length ≤ 1000; omega, htx⟩
          · refine hN2 _ _ ?_
            walk_at "ox"
            refine ⟨H0, sc, ns, D3, by omega, by omega, fun H4 v rv k4 D4 hv4 hx4 => ?_⟩
            walk_at "ox"
            intro a dx H5 na s5 ea
            walk_at "ox"
            intro p1 H6 np1 s6 ep1
            refine ⟨[v], [rv], ep1, .cons ((hv4.same s5).same s6) .nil, by simp, (by intro z m; rw [← List.mem_singleton.mp m] at hx4; exact hx4), ?_⟩
            walk_at "ox"
            intro p2 H7 np2 s7 ep2
            refine ⟨[v], [rv], ep2, .cons (((hv4.same s5).same s6).same s7) .nil, by simp, fun cl H8 ncl s8 ecl => ?_⟩
            walk_at "ox"
            intro tp H9 ntp s9 etp
            have e9 : (1 : Int) + ((txtsR [rv] : Nat) : Int) = ((sizeT (.var rv) : Nat) : Int) := by simp [sizeT, txtsR]
            rw [e9] at etp
            have S9 := (((s5.trans s6).trans s7).trans s8).trans s9
            have K4 := K3.trans k4
            have nsf : ∀ {q : Addr}, H4 q = none → H q = none := fun n => D.new K4 n D4
            have ea9 := s9 _ _ (s8 _ _ (s7 _ _ (s6 _ _ ea)))
            have nclf : cl ∉ footT a none := fun m => by
              simp only [footT, Option.toList_none, List.mem_cons, List.not_mem_nil, or_false] at m
              rw [m, s7 _ _ (s6 _ _ ea)] at ncl; cases ncl
            exact h tp a none (.var rv) cl H9 (D4.same S9) ⟨K4.trans (Keep.of S9), etp, ⟨dx, v, rfl, ea9, hv4.same S9⟩, foot_one, fun q m => nsf (free_one na q m), s9 _ _ ecl, nsf (((s5.trans s6).trans s7).free ncl), nclf, trivial, (by intro z m; rw [← List.mem_singleton.mp m] at hx4; exact hx4)⟩
    · cases h
def keys6 : List V := [.str "", .str "ab", .int 1, .bl true, .non, .str (Txt.mul (Str.ofString "c") 9)]
/-- a map being filled with drawn values -/
structure TabI (K : PySem.W.Frag) (w : World) (c : Cs) (H0 : Hp) (s sc : Addr) (ns : List Int) (H : Hp) (a d kl vl tp : Addr) (i : Nat) (H' : Hp) (ks vs : List V) (rs : List RV) : Prop where
  dr : Dr K H0 s sc ns H'
  k : Keep [s] H H'
  ea : IsTab c H' a d
  tr : TabR w H' d (ks.zip vs)
  ek : H' kl = some (.lst ks)
  ev : H' vl = some (.lst vs)
  et : H' tp = some (.tup keys6)
  sub : ks.Sublist (keys6.take i)
  hv : VsAt c H' vs rs
  le : ks.length = vs.length
  tx : Tx rs
theorem TabI.draw {H0 H H1 H2 : Hp} {s sc a d kl vl tp : Addr} {ns : List Int} {i : Nat} {ks vs : List V} {rs : List RV} (h : TabI K w c H0 s sc ns H a d kl vl tp i H1 ks vs rs) (nd : [s, a, d, kl, vl, tp].Nodup) (k : Keep [s] H1 H2) (D2 : Dr K H0 s sc ns H2) : TabI K w c H0 s sc ns H a d kl vl tp i H2 ks vs rs := by
  simp only [List.nodup_cons, List.mem_cons, not_or, List.not_mem_nil, not_false_eq_true, and_true] at nd
  obtain ⟨⟨n1, n2, n3, n4, n5⟩, _⟩ := nd
  obtain ⟨dx, e⟩ := h.ea
  have kk : ∀ {q : Addr} {o : HO}, s ≠ q → H1 q = some o → H2 q = some o := fun n e => k _ _ (by simpa using Ne.symm n) e
  exact ⟨D2, h.k.trans k, ⟨dx, kk n1 e⟩, h.tr.keep k (by simpa using Ne.symm n2) (fun p m xs e => by obtain ⟨ys, e2⟩ := h.dr.live; rw [List.mem_singleton.mp m, e2] at e; cases e), kk n3 h.ek, kk n4 h.ev, kk n5 h.et, h.sub, VsAt.hs h.hv (.keep k h.dr.soft), h.le, h.tx⟩
theorem keys6_sc : ∀ v ∈ keys6, scV v = true := by
  intro v m
  simp only [keys6, List.mem_cons, List.not_mem_nil, or_false] at m
  rcases m with rfl | rfl | rfl | rfl | rfl | rfl <;> rfl
theorem keys6_nd : keys6.Nodup := by
  unfold keys6
  have c9 : Txt.mul (Str.ofString "c") 9 = Str.ofString "ccccccccc" := by decide
  rw [c9]
  simp only [List.nodup_cons, List.mem_cons, not_or, List.not_mem_nil, not_false_eq_true, and_true, V.str.injEq, reduceCtorEq, List.nodup_nil, true_and, or_false]
  decide
theorem zip_fst {α β : Type} : ∀ {xs : List α} {ys : List β}, xs.length = ys.length → (xs.zip ys).map (·.1) = xs
  | [], [], _ => rfl
  | x :: xs, y :: ys, h => by rw [List.zip_cons_cons, List.map_cons, zip_fst (by simpa using h)]
  | [], _ :: _, h => by cases h
  | _ :: _, [], h => by cases h
theorem zip_snd {α β : Type} : ∀ {xs : List α} {ys : List β}, xs.length = ys.length → (xs.zip ys).map (·.2) = ys
  | [], [], _ => rfl
  | x :: xs, y :: ys, h => by rw [List.zip_cons_cons, List.map_cons, zip_snd (by simpa using h)]
  | [], _ :: _, h => by cases h
  | _ :: _, [], h => by cases h
theorem paired_zip {α β α' β' : Type} {F : α → α' → Prop} {G : β → β' → Prop} {xs : List α} {xs' : List α'} (h : Paired F xs xs') : ∀ {ys : List β} {ys' : List β'}, Paired G ys ys' → Paired (fun p q => F p.1 q.1 ∧ G p.2 q.2) (xs.zip ys) (xs'.zip ys') := by
  induction h with
  | nil => intro ys ys' _; simp only [List.zip_nil_left]; exact .nil
  | cons a t ih =>
    intro ys ys' g
    cases g with
    | nil => simp only [List.zip_nil_right]; exact .nil
    | cons b u => exact .cons ⟨a, b⟩ (ih u)
/-- an entry more -/
theorem TabI.step {H0 H H1 H2 : Hp} {s sc a d kl vl tp : Addr} {ns : List Int} {i : Nat} {ks vs : List V} {rs : List RV} {key v : V} {rv : RV} (h : TabI K w c H0 s sc ns H a d kl vl tp i H1 ks vs rs) (nd : [s, a, d, kl, vl, tp].Nodup) (fr : ∀ q ∈ [d, kl, vl], H q = none) (f0 : ∀ q ∈ [d, kl, vl], H0 q = none) (ek : keys6[i]? = some key) (k : Keep [d] H1 H2) (tr : TabR w H2 d (putR (ks.zip vs) key v)) (hv : IsVal c H1 v rv) (ht : TxV rv) :
    H2 kl = some (.lst ks) ∧ upd H2 kl (.lst (ks ++ [key])) vl = some (.lst vs) ∧ TabI K w c H0 s sc ns H a d kl vl tp (i + 1) (upd (upd H2 kl (.lst (ks ++ [key]))) vl (.lst (vs ++ [v]))) (ks ++ [key]) (vs ++ [v]) (rs ++ [rv]) := by
  have hn : key ∉ keys6.take i := by
    have := (List.take_sublist (i + 1) keys6).nodup keys6_nd
    rw [take_get ek, List.nodup_append] at this
    exact fun m => this.2.2 key m key (by simp) rfl
  have e1 : putR (ks.zip vs) key v = (ks ++ [key]).zip (vs ++ [v]) := by
    rw [putR_new (by rw [zip_fst h.le]; exact fun m => hn (h.sub.subset m)), List.zip_append h.le]; rfl
  rw [e1] at tr
  simp only [List.nodup_cons, List.mem_cons, not_or, List.not_mem_nil, not_false_eq_true, and_true] at nd
  obtain ⟨⟨n1, n2, n3, n4, n5⟩, ⟨n6, n7, n8, n9⟩, ⟨n10, n11, n12⟩, ⟨n13, n14⟩, n15, _⟩ := nd
  obtain ⟨dx, e⟩ := h.ea
  have kd : ∀ {q : Addr} {o : HO}, q ≠ d → H1 q = some o → H2 q = some o := fun n e => k _ _ (by simpa using n) e
  have ekl := kd (Ne.symm n10) h.ek
  have evl := kd (Ne.symm n11) h.ev
  have kk : Keep [kl, vl] H2 (upd (upd H2 kl (.lst (ks ++ [key]))) vl (.lst (vs ++ [v]))) := (Keep.refl.upd (by simp)).upd (by simp)
  have so : ∀ p ∈ [kl, vl], Soft c H2 p := fun p m => by
    simp only [List.mem_cons, List.not_mem_nil, or_false] at m
    rcases m with rfl | rfl
    · exact soft_lst ekl
    · exact soft_lst evl
  have sod : ∀ p ∈ [d], Soft c H1 p := fun p m => by rw [List.mem_singleton.mp m]; exact h.tr.soft
  have hs : HardStay c H1 (upd (upd H2 kl (.lst (ks ++ [key]))) vl (.lst (vs ++ [v]))) := HardStay.trans (.keep k sod) (.keep kk so)
  have kA : Keep [d, kl, vl] H1 (upd (upd H2 kl (.lst (ks ++ [key]))) vl (.lst (vs ++ [v]))) := fun q o m e => kk q o (fun z => m (List.mem_cons_of_mem _ z)) (k q o (fun z => m (by rw [List.mem_singleton.mp z]; exact List.mem_cons_self ..)) e)
  refine ⟨ekl, (upd_ne (Ne.symm n13)).trans evl, ?_, ?_, ⟨dx, ?_⟩, tr.keep kk (by simp [n10, n11]) (fun p m xs e => ?_), ?_, upd_same, ?_, ?_, ?_, ?_, h.tx.snoc ht⟩
  · exact h.dr.keep kA (by simp [n2, n3, n4]) f0
  · exact fun q o m e => kA q o (fun z => by have := fr q z; rw [this] at e; cases e) (h.k q o m e)
  · exact kk _ _ (by simp [n7, n8]) (kd n6 e)
  · simp only [List.mem_cons, List.not_mem_nil, or_false] at m
    rcases m with rfl | rfl
    · rw [ekl] at e; cases e
    · rw [evl] at e; cases e
  · rw [upd_ne n13]; exact upd_same
  · exact kk _ _ (by simp [Ne.symm n14, Ne.symm n15]) (kd (Ne.symm n12) h.et)
  · rw [take_get ek]; exact h.sub.append (List.Sublist.refl _)
  · exact Paired.snoc (Paired.mapP h.hv fun _ _ z => z.hs hs) (hv.hs hs)
  · rw [List.length_append, List.length_append, h.le]; rfl
def TabL (K : PySem.W.Frag) (w : World) (c : Cs) (H0 : Hp) (s sc : Addr) (ns : List Int) (H : Hp) (m : Int) (a d kl vl tp : Addr) (i : Nat) (σ : L2.St) (H' : Hp) : Prop := ∃ ks vs rs v5 v6, TabI K w c H0 s sc ns H a d kl vl tp i H' ks vs rs ∧ σ = [some (.ref s), some (.int m), some (.ref a), some (.ref kl), some (.ref vl), v5, v6]
set_option maxHeartbeats 4000000 in
theorem ok_table (A : At K mg "_law_table" "_law_table" s_law_table ["state", "many"]) (T : Txt K mg c) (H_law_draw : Has P w K mg base CX0 "_law_draw" 2 ["state", "many"] (spDraw K)) (H_law_value : Has P w K mg base CX0 "_law_value" 4 ["state", "many"] (spValue K c)) (H_law_texts : Has P w K mg base CX0 "_law_texts" 2 ["values"] (spTexts c)) (H_law_refs : Has P w K mg base CX0 "_law_refs" 2 ["values"] (spRefs c)) (M_Table : HasC P w K mg base CX0 c.Table "Table" 1 ["self"] (spMkTab w c)) (M_Table_put : HasM P w K mg base CX0 c.Table "put" 2 ["self", "key", "value"] (spPut w c)) : Has P w K mg base CX0 "_law_table" 5 ["state", "many"] (spRow K w c) := by
  have Sc := sc_law_table
  refine has_of A Sc (fun vs H Q E h => ?_) (fun cdv f A outer s H vs Q E hr h => ?_)
  · unfold spRow at h; split at h; rfl; cases h
  · unfold spRow at h
    split at h
    · rename_i s m
      obtain ⟨H0, sc, ns, D, hm0, hm1, h⟩ := h
      refine ⟨_, (pss_cons (ps_set (i := 2) Sc.nd rfl (.inl rfl) (fe_make0 M_Table (hr.mono (by walk_at "rm")) (by rfl) pass0))
      (pss_cons (ps_set (i := 3) Sc.nd rfl (.inl rfl) (fe_lst pa_nil))
      (pss_cons (ps_set (i := 4) Sc.nd rfl (.inl rfl) (fe_lst pa_nil))
      (pss_cons (ps_for PassesOwn.never rfl (pi_tup (fe_tup (pa_cons pe_str (pa_cons pe_str (pa_cons pe_int (pa_cons pe_bl (pa_cons pe_non (pa_cons (pe_op op_fMul pe_str pe_int) pa_nil)))))))) (pg_name (i := 5) Sc.nd rfl (.inl rfl)) (pss_one (ps_if (pt_cmpR (op_fEq hr.units) (fe_call H_law_draw (hr.mono (by walk_at "rm")) (by rfl) pass0 (pa_cons (fe_var 0) (pa_cons pe_int pa_nil))) pe_int (nomark _)) (pss_cons (ps_set (i := 6) Sc.nd rfl (.inl rfl) (fe_call H_law_value (hr.mono (by walk_at "rm")) (by rfl) pass0 (pa_cons (fe_var 0) (pa_cons (fe_var 1) pa_nil))))
      (pss_cons (ps_expr (fe_meth M_Table_put T.cl_Table (hr.mono (by walk_at "rm")) pass0 (fe_var 2) (pa_cons (fe_var 5) (pa_cons (fe_var 6) pa_nil))))
      (pss_cons (ps_expr (fe_bm PySem.F.plainAttrs_list PySem.F.slot_list_append PySem.F.type_list_append isLst_ty mt_fAppend (fe_var 3) (pa_cons (fe_var 5) pa_nil)))
      (pss_one (ps_expr (fe_bm PySem.F.plainAttrs_list PySem.F.slot_list_append PySem.F.type_list_append isLst_ty mt_fAppend (fe_var 4) (pa_cons (fe_var 6) pa_nil))))))) pss_nil)))
      (pss_one (ps_ret (fe_tup (pa_cons (fe_var 2) (pa_cons pe_str (pa_cons (pe_op op_fAdd (pe_op op_fAdd (pe_op op_fAdd pe_int (pe_op op_fMul pe_int (pe_callB call_fLen (by rfl) T.no_len (by decide +kernel) (pa_cons (fe_var 3) pa_nil)))) (fe_call H_law_texts (hr.mono (by walk_at "rm")) (by rfl) pass0 (pa_cons (fe_var 3) pa_nil))) (fe_call H_law_texts (hr.mono (by walk_at "rm")) (by rfl) pass0 (pa_cons (fe_var 4) pa_nil))) (pa_cons (fe_call H_law_refs (hr.mono (by walk_at "rm")) (by rfl) pass0 (pa_cons (fe_var 4) pa_nil)) pa_nil))))))))))), ?_⟩
      walk_at "fx0"
      walk_at "ox"
      intro a d H1 na nd s1 ⟨dx1, ea⟩ TR0 kl H2 nkl s2 ekl vl H3 nvl s3 evl
      refine cut_ fun N hN => for_ ?_
      walk_at "ox"
      refine ⟨by unfold MulOk; decide, fun tp H4 ntp s4 etp => ?_⟩
      have S4 := ((s1.trans s2).trans s3).trans s4
      have D4 := D.same S4
      obtain ⟨sxs, esl⟩ := D.live
      have nda : d ≠ a := fun z => by obtain ⟨⟨es, _, e0, _⟩, _⟩ := TR0; rw [z, ea] at e0; cases e0
      have nka : [s, a, d, kl, vl, tp].Nodup := by
        obtain ⟨⟨es, _, ed0, _⟩, _⟩ := TR0
        have es1 := s1 _ _ esl
        simp only [List.nodup_cons, List.mem_cons, not_or, List.not_mem_nil, not_false_eq_true, and_true, List.nodup_nil, or_false]
        exact ⟨⟨ne_of_none esl na, ne_of_none esl nd, ne_of_none es1 nkl, ne_of_none (s2 _ _ es1) nvl, ne_of_none (s3 _ _ (s2 _ _ es1)) ntp⟩, ⟨Ne.symm nda, ne_of_none ea nkl, ne_of_none (s2 _ _ ea) nvl, ne_of_none (s3 _ _ (s2 _ _ ea)) ntp⟩, ⟨ne_of_none ed0 nkl, ne_of_none (s2 _ _ ed0) nvl, ne_of_none (s3 _ _ (s2 _ _ ed0)) ntp⟩, ⟨ne_of_none ekl nvl, ne_of_none (s3 _ _ ekl) ntp⟩, ne_of_none evl ntp⟩
      have nHd := nd
      have fr3 : ∀ q ∈ [d, kl, vl], H q = none := fun q mq => by
        simp only [List.mem_cons, List.not_mem_nil, or_false] at mq
        rcases mq with rfl | rfl | rfl
        · exact nd
        · exact s1.free nkl
        · exact (s1.trans s2).free nvl
      have f03 : ∀ q ∈ [d, kl, vl], H0 q = none := fun q mq => D.sm.free (fr3 q mq)
      refine ⟨⟨_, .inl (.inl etp)⟩, ?_⟩
      refine loop_tup keys6 (TabL K w c H0 s sc ns H m a d kl vl tp) ⟨[], [], [], none, none, ⟨D4, Keep.of S4, ⟨dx1, s4 _ _ (s3 _ _ (s2 _ _ ea))⟩, TR0.same ((s2.trans s3).trans s4), s4 _ _ (s3 _ _ ekl), s4 _ _ evl, etp, List.nil_sublist _, .nil, rfl, fun z mz => by cases mz⟩, rfl⟩ (fun i σ H' _ ⟨ks, vs, rs, v5, v6, hT, _⟩ => .inl (.inl hT.et)) ?_ ?_
      · rintro i key σ H5 hk ⟨ks, vs, rs, v5, v6, hT, rfl⟩
        have hks : ks.length ≤ 6 := Nat.le_trans hT.sub.length_le (by rw [List.length_take]; exact Nat.le_trans (Nat.min_le_right _ _) (by decide))
        have hle := hT.le
        walk_at "ox"
        refine ⟨H0, sc, ns, hT.dr, by omega, by omega, fun H6 d2 k6 D6 d0 d1 => ?_⟩
        have hT6 := hT.draw nka k6 D6
        repeat (walk_at "oxs")
        split
        · refine ⟨H0, sc, ns, D6, by omega, by omega, fun H7 v rv k7 D7 hv7 hx7 => ?_⟩
          have hT7 := hT6.draw nka k7 D7
          obtain ⟨dx7, ea7⟩ := hT7.ea
          repeat (first | walk_at "oxs" | simp only [ea7])
          refine ⟨d, _, ⟨dx7, ea7⟩, hT7.tr, keys6_sc key (List.mem_of_getElem? hk), by rw [List.length_zip]; omega, fun H8 k8 TR8 => ?_⟩
          obtain ⟨q1, q2, q3⟩ := hT7.step nka fr3 f03 hk k8 TR8 hv7 hx7
          repeat (first | walk_at "oxs" | simp only [q1] | simp only [q2])
          exact ⟨len_line' (by omega), len_line' (by omega), _, _, _, _, _, q3, rfl⟩
        · refine ⟨ks, vs, rs, _, _, ⟨hT6.dr, hT6.k, hT6.ea, hT6.tr, hT6.ek, hT6.ev, hT6.et, ?_, hT6.hv, hT6.le, hT6.tx⟩, rfl⟩
          rw [take_get hk]
          exact hT6.sub.trans (List.sublist_append_left _ _)
      · rintro σ H5 ⟨ks, vs, rs, v5, v6, hT, rfl⟩
        refine hN _ _ ?_
        have hsub : ks.Sublist keys6 := hT.sub.trans (List.take_sublist _ _)
        have hks : ks.length ≤ 6 := hsub.length_le
        have hle := hT.le
        have hlr : vs.length = rs.length := Paired.length hT.hv
        have hsc : ∀ v ∈ ks, scV v = true := fun v m => keys6_sc v (hsub.subset m)
        have hkt : Tx (ks.map rvOf) := fun z m => by
          obtain ⟨v, hv, e⟩ := List.mem_map.mp m
          have := hsub.subset hv
          simp only [keys6, List.mem_cons, List.not_mem_nil, or_false] at this
          rcases this with rfl | rfl | rfl | rfl | rfl | rfl <;> first
            | (cases e; decide)
            | cases e
        walk_at "ox"
        refine ⟨_, rl_l hT.ek, by walk_at "mul", ?_⟩
        refine ⟨ks, _, hT.ek, vs_rvOf hsc, by rw [List.length_map]; omega, hkt, ?_⟩
        walk_at "ox"
        refine ⟨vs, rs, hT.ev, hT.hv, by omega, hT.tx, ?_⟩
        walk_at "ox"
        refine ⟨vs, rs, hT.ev, hT.hv, by omega, fun cl H6 ncl s6 ecl => ?_⟩
        walk_at "ox"
        intro tq H7 ntq s7 etq
        have S7 := s6.trans s7
        have hp := paired_zip (vs_rvOf (c := c) (H := H5) hsc) hT.hv
        have f1 : ((ks.map rvOf).zip rs).map (fun z => z.1) = ks.map rvOf := zip_fst (by rw [List.length_map]; omega)
        have f2 : ((ks.map rvOf).zip rs).map (fun z => z.2) = rs := zip_snd (by rw [List.length_map]; omega)
        have f3 : ((ks.map rvOf).zip rs).length = ks.length := by rw [List.length_zip, List.length_map]; omega
        have e9 : (1 : Int) + 2 * (ks.length : Nat) + ((txtsR (ks.map rvOf) : Nat) : Int) + ((txtsR rs : Nat) : Int) = ((sizeT (.table ((ks.map rvOf).zip rs)) : Nat) : Int) := by
          simp only [sizeT]; rw [f1, f2, f3]; omega
        rw [e9] at etq
        have e8 : childT (.table ((ks.map rvOf).zip rs)) = refsR rs := by simp only [childT]; rw [f2]
        have hH : ∀ {q : Addr}, H5 q = none → H q = none := fun n => D.new hT.k n hT.dr
        have ndl : ∃ o, H5 d = some o := by obtain ⟨⟨es, _, e0, _⟩, _⟩ := hT.tr; exact ⟨_, e0⟩
        obtain ⟨dxa, eaa⟩ := hT.ea
        refine h tq a (some d) (.table ((ks.map rvOf).zip rs)) cl H7 (hT.dr.same S7) ⟨hT.k.trans (Keep.of S7), etq, ⟨d, _, rfl, ⟨dxa, S7 _ _ eaa⟩, hT.tr.same S7, Paired.mapP hp fun _ _ z => ⟨z.1.same S7, z.2.same S7⟩⟩, foot_two nda, free_two na nd, by rw [e8]; exact s7 _ _ ecl, hH ncl, fun m => ?_, by show List.length _ ≤ 1000; omega, ⟨by rw [f1]; exact hkt, by rw [f2]; exact hT.tx⟩⟩
        simp only [footT, Option.toList_some, List.mem_cons, List.not_mem_nil, or_false] at m
        rcases m with rfl | rfl
        · rw [eaa] at ncl; cases ncl
        · obtain ⟨o, e⟩ := ndl
          rw [e] at ncl; cases ncl
    · cases h
theorem putK_new {kvs : List (Key × V)} {k : Key} {v : V} (h : k ∉ kvs.map (·.1)) : putK kvs k v = kvs ++ [(k, v)] := by
  unfold putK
  rw [if_neg]
  intro q
  obtain ⟨p, hp, e⟩ := List.any_eq_true.mp q
  exact h (by rw [← of_decide_eq_true e]; exact List.mem_map_of_mem hp)
theorem kv_keys {ρ : Type} {R : V → ρ → Prop} {kvs : List (Key × V)} {fs : List (Str × ρ)} (h : Paired (fun (kv : Key × V) (f : Str × ρ) => kv.1 = .inr f.1 ∧ R kv.2 f.2) kvs fs) : kvs.map (·.1) = (fs.map (·.1)).map Sum.inr := by
  induction h with
  | nil => rfl
  | cons a b ih => rw [List.map_cons, List.map_cons, List.map_cons, ih, a.1]
theorem inr_mem {z : Str} {zs : List Str} (h : z ∉ zs) : (Sum.inr z : Key) ∉ zs.map Sum.inr := fun m => by
  obtain ⟨u, hu, e⟩ := List.mem_map.mp m
  cases e; exact h hu
def names3 : List Str := ["a", "long", "kind"]
theorem names3_nd : names3.Nodup := by unfold names3; decide +kernel
structure InstI (K : PySem.W.Frag) (w : World) (c : Cs) (H0 : Hp) (s sc : Addr) (ns : List Int) (H : Hp) (o : Nat) (a nd tp cl : Addr) (i : Nat) (H' : Hp) (fs : List (Str × RV)) : Prop where
  dr : Dr K H0 s sc ns H'
  k : Keep [s] H H'
  th : ThAt w c H' a (some nd) (.inst o fs)
  ecl : H' cl = some (.lst (intsN (childT (.inst o fs))))
  ncl : H cl = none
  dcl : cl ∉ footT a (some nd)
  et : H' tp = some (.tup (names3.map V.str))
  sub : (fs.map (·.1)).Sublist (names3.take i)
  tx : Tx (fs.map fun z => z.2)
theorem InstI.draw {H0 H H1 H2 : Hp} {s sc a nd tp cl : Addr} {o : Nat} {ns : List Int} {i : Nat} {fs : List (Str × RV)} (h : InstI K w c H0 s sc ns H o a nd tp cl i H1 fs) (n1 : s ≠ a) (n2 : s ≠ nd) (n3 : s ≠ tp) (esl : ∃ u, H s = some u) (k : Keep [s] H1 H2) (D2 : Dr K H0 s sc ns H2) : InstI K w c H0 s sc ns H o a nd tp cl i H2 fs := by
  have n4 : cl ≠ s := fun z => by obtain ⟨u, e⟩ := esl; rw [← z, h.ncl] at e; cases e
  refine ⟨D2, h.k.trans k, h.th.keep k h.dr.soft (fun q hq m => ?_), k _ _ (by simpa using n4) h.ecl, h.ncl, h.dcl, k _ _ (by simpa using Ne.symm n3) h.et, h.sub, h.tx⟩
  simp only [footT, Option.toList_some, List.mem_cons, List.not_mem_nil, or_false] at hq m
  rcases hq with rfl | rfl
  · exact n1 m.symm
  · exact n2 m.symm
theorem InstI.up {H0 H H1 : Hp} {s sc a nd tp cl : Addr} {o : Nat} {ns : List Int} {i : Nat} {z : Str} {fs : List (Str × RV)} (h : InstI K w c H0 s sc ns H o a nd tp cl i H1 fs) (ez : names3[i]? = some z) : InstI K w c H0 s sc ns H o a nd tp cl (i + 1) H1 fs :=
  ⟨h.dr, h.k, h.th, h.ecl, h.ncl, h.dcl, h.et, by rw [take_get ez]; exact h.sub.trans (List.sublist_append_left _ _), h.tx⟩
def InstL (K : PySem.W.Frag) (w : World) (c : Cs) (H0 : Hp) (s sc : Addr) (ns : List Int) (H : Hp) (m : Int) (o : Nat) (a nd tp : Addr) (i : Nat) (σ : L2.St) (H' : Hp) : Prop := ∃ fs cl v6 v7 v8, InstI K w c H0 s sc ns H o a nd tp cl i H' fs ∧ σ = [some (.ref s), some (.int m), some (.int (o : Nat)), some (.ref a), some (.int (sizeT (.inst o fs) : Nat)), some (.ref cl), v6, v7, v8]
set_option maxHeartbeats 4000000 in
theorem ok_inst (A : At K mg "_law_instance" "_law_instance" s_law_instance ["state", "many"]) (T : Txt K mg c) (H_law_draw : Has P w K mg base CX0 "_law_draw" 2 ["state", "many"] (spDraw K)) (H_law_value : Has P w K mg base CX0 "_law_value" 4 ["state", "many"] (spValue K c)) (H_law_texts : Has P w K mg base CX0 "_law_texts" 2 ["values"] (spTexts c)) (H_law_refs : Has P w K mg base CX0 "_law_refs" 2 ["values"] (spRefs c)) (M_Ref : HasC P w K mg base CX0 c.Ref "Ref" 1 ["self", "number"] (spMk_Ref K c)) (M_Instance : HasC P w K mg base CX0 c.Instance "Instance" 1 ["self", "owner"] (spMk_Instance K c)) : Has P w K mg base CX0 "_law_instance" 5 ["state", "many"] (spRow K w c) := by
  have Sc := sc_law_instance
  refine has_of A Sc (fun vs H Q E h => ?_) (fun cdv f A outer s H vs Q E hr h => ?_)
  · unfold spRow at h; split at h; rfl; cases h
  · unfold spRow at h
    split at h
    · rename_i s m
      obtain ⟨H0, sc, ns, D, hm0, hm1, h⟩ := h
      refine ⟨_, (pss_cons (ps_set (i := 2) Sc.nd rfl (.inl rfl) (fe_call H_law_draw (hr.mono (by walk_at "rm")) (by rfl) pass0 (pa_cons (fe_var 0) (pa_cons (fe_var 1) pa_nil))))
      (pss_cons (ps_set (i := 3) Sc.nd rfl (.inl rfl) (fe_make (k := _) M_Instance (hr.mono (by walk_at "rm")) (by rfl) pass0 (pa_cons (fe_make (k := _) M_Ref (hr.mono (by walk_at "rm")) (by rfl) pass0 (pa_cons (fe_var 2) pa_nil)) pa_nil)))
      (pss_cons (ps_set (i := 4) Sc.nd rfl (.inl rfl) pe_int)
      (pss_cons (ps_set (i := 5) Sc.nd rfl (.inl rfl) (fe_lst (pa_cons (fe_var 2) pa_nil)))
      (pss_cons (ps_for PassesOwn.never rfl (pi_tup (fe_tup (pa_cons pe_str (pa_cons pe_str (pa_cons pe_str pa_nil))))) (pg_name (i := 6) Sc.nd rfl (.inl rfl)) (pss_one (ps_if (pt_cmpR (op_fEq hr.units) (fe_call H_law_draw (hr.mono (by walk_at "rm")) (by rfl) pass0 (pa_cons (fe_var 0) (pa_cons pe_int pa_nil))) pe_int (nomark _)) (pss_cons (ps_set (i := 7) Sc.nd rfl (.inl rfl) (fe_call H_law_value (hr.mono (by walk_at "rm")) (by rfl) pass0 (pa_cons (fe_var 0) (pa_cons (fe_var 1) pa_nil))))
      (pss_cons (ps_set (i := 8) Sc.nd rfl (.inl rfl) (fe_fld (fe_var 3) T.pl_named rfl))
      (pss_cons (ps_putK (hu_of hr) (fe_var 8) (fe_var 6) (fe_var 7) rfl)
      (pss_cons (ps_set (i := 4) Sc.nd rfl (.inl rfl) (pe_op op_fAdd (pe_op op_fAdd (pe_op op_fAdd (fe_var 4) pe_int) (pe_callB call_fLen (by rfl) T.no_len (by decide +kernel) (pa_cons (fe_var 6) pa_nil))) (fe_call H_law_texts (hr.mono (by walk_at "rm")) (by rfl) pass0 (pa_cons (fe_lst (pa_cons (fe_var 7) pa_nil)) pa_nil))))
      (pss_one (ps_set (i := 5) Sc.nd rfl (.inl rfl) (pe_op op_fAdd (fe_var 5) (fe_call H_law_refs (hr.mono (by walk_at "rm")) (by rfl) pass0 (pa_cons (fe_lst (pa_cons (fe_var 7) pa_nil)) pa_nil))))))))) pss_nil)))
      (pss_one (ps_ret (fe_tup (pa_cons (fe_var 3) (pa_cons pe_str (pa_cons (fe_var 4) (pa_cons (fe_var 5) pa_nil)))))))))))), ?_⟩
      walk_at "fx0"
      walk_at "ox"
      refine ⟨H0, sc, ns, D, by omega, by omega, fun H1 o k1 D1 d0 d1 => ?_⟩
      obtain ⟨o, rfl⟩ := Int.eq_ofNat_of_zero_le d0
      walk_at "ox"
      intro r rdx H2 nr s2 er a dx nd H3 na s3 ea nnd end_ hne
      walk_at "ox"
      intro cl H4 ncl s4 ecl
      refine cut_ fun N hN => for_ ?_
      walk_at "ox"
      intro tp H5 ntp s5 etp
      have S5 := ((s2.trans s3).trans s4).trans s5
      have D5 := D1.same S5
      have K5 : Keep [s] H H5 := k1.trans (Keep.of S5)
      obtain ⟨sxs, esl⟩ := D.live
      obtain ⟨sxs1, esl1⟩ := D1.live
      have n1 : s ≠ a := ne_of_none (s2 _ _ esl1) na
      have n2 : s ≠ nd := ne_of_none (s2 _ _ esl1) nnd
      have n3 : s ≠ tp := ne_of_none (s4 _ _ (s3 _ _ (s2 _ _ esl1))) ntp
      have hna : H a = none := D.new (k1.trans (Keep.of s2)) na (D1.same s2)
      have hnd : H nd = none := D.new (k1.trans (Keep.of s2)) nnd (D1.same s2)
      have hncl : H cl = none := D.new (k1.trans (Keep.of (s2.trans s3))) ncl (D1.same (s2.trans s3))
      have hT0 : InstI K w c H0 s sc ns H o a nd tp cl 0 H5 [] := by
        refine ⟨D5, K5, ⟨dx, r, nd, [], rfl, s5 _ _ (s4 _ _ ea), ⟨rdx, s5 _ _ (s4 _ _ (s3 _ _ er))⟩, s5 _ _ (s4 _ _ end_), .nil⟩, s5 _ _ ecl, hncl, fun mm => ?_, etp, List.nil_sublist _, fun z mm => by cases mm⟩
        simp only [footT, Option.toList_some, List.mem_cons, List.not_mem_nil, or_false] at mm
        rcases mm with rfl | rfl
        · rw [ea] at ncl; cases ncl
        · rw [end_] at ncl; cases ncl
      refine ⟨⟨_, .inl (.inl etp)⟩, ?_⟩
      refine loop_tup (names3.map V.str) (InstL K w c H0 s sc ns H m o a nd tp) ⟨[], cl, none, none, none, hT0, rfl⟩ (fun i σ H' _ ⟨fs, cl, v6, v7, v8, hT, _⟩ => .inl (.inl hT.et)) ?_ ?_
      · rintro i v σ H6 hv ⟨fs, cl, v6, v7, v8, hT, rfl⟩
        rw [List.getElem?_map] at hv
        obtain ⟨z, ez, rfl⟩ := Option.map_eq_some_iff.mp hv
        walk_at "ox"
        refine ⟨H0, sc, ns, hT.dr, by omega, by omega, fun H7 d2 k7 D7 d0 d1 => ?_⟩
        have hT7 := hT.draw n1 n2 n3 ⟨_, esl⟩ k7 D7
        repeat (walk_at "oxs")
        split
        · refine ⟨H0, sc, ns, D7, by omega, by omega, fun H8 v rv k8 D8 hv8 hx8 => ?_⟩
          have hT8 := hT7.draw n1 n2 n3 ⟨_, esl⟩ k8 D8
          obtain ⟨dx8, ra8, nd8, kvs, e8, ea8, er8, en8, hkv⟩ := hT8.th
          cases e8
          have nad : a ≠ nd := fun q => by rw [q, en8] at ea8; cases ea8
          repeat (first | walk_at "oxs" | simp only [ea8])
          have hzn : z ∉ fs.map (·.1) := fun mm => by
            have := (List.take_sublist (i + 1) names3).nodup names3_nd
            rw [take_get ez, List.nodup_append] at this
            exact this.2.2 z (hT8.sub.subset mm) z (by simp) rfl
          have hput : putK kvs (.inr z) v = kvs ++ [(.inr z, v)] := putK_new (by rw [kv_keys hkv]; exact inr_mem hzn)
          have hlk : kvs.length = fs.length := Paired.length hkv
          have hlf : fs.length ≤ 3 := by
            have := (hT8.sub.trans (List.take_sublist _ _)).length_le
            rw [List.length_map] at this; exact this
          have hlz : z.length ≤ 4 := (by decide : ∀ z ∈ names3, Str.length z ≤ 4) z (List.mem_of_getElem? ez)
          have ncn : cl ≠ nd := fun q => hT8.dcl (by rw [q]; simp [footT])
          have k9 : Keep [nd] H8 (upd H8 nd (.dK (putK kvs (.inr z) v))) := Keep.refl.upd (by simp)
          have hs9 : HardStay c H8 (upd H8 nd (.dK (putK kvs (.inr z) v))) := .keep k9 fun p mm => by rw [List.mem_singleton.mp mm]; exact soft_dk en8
          have hth9 : ThAt w c (upd H8 nd (.dK (putK kvs (.inr z) v))) a (some nd) (.inst o (fs ++ [(z, rv)])) :=
            ⟨dx8, ra8, nd, _, rfl, (upd_ne nad).trans ea8, er8.hs hs9, by rw [upd_same, hput], Paired.snoc (Paired.mapP hkv fun _ _ q => ⟨q.1, q.2.hs hs9⟩) ⟨rfl, hv8.hs hs9⟩⟩
          have K9 : Keep [s] H (upd H8 nd (.dK (putK kvs (.inr z) v))) := Keep.updN hT8.k hnd
          have D9 : Dr K H0 s sc ns (upd H8 nd (.dK (putK kvs (.inr z) v))) := hT8.dr.put (D.sm.free hnd) (Ne.symm n2)
          have ecl9 : upd H8 nd (.dK (putK kvs (.inr z) v)) cl = some (.lst (intsN (childT (.inst o fs)))) := (upd_ne ncn).trans hT8.ecl
          have etp9 : upd H8 nd (.dK (putK kvs (.inr z) v)) tp = some (.tup (names3.map V.str)) := (upd_ne (fun q => by rw [← q, hT8.et] at en8; cases en8)).trans hT8.et
          have hv9 := hv8.hs hs9
          refine ⟨_, en8, len_line' (by omega), Nat.le_of_lt (len_line' (by omega)), ?_⟩
          generalize upd H8 nd (.dK (putK kvs (.inr z) v)) = H9 at hth9 K9 D9 ecl9 etp9 hv9 ⊢
          intro p1 H10 np1 s10 ep1
          have htx1 : Tx [rv] := by intro z' mm; rw [← List.mem_singleton.mp mm] at hx8; exact hx8
          refine ⟨[v], [rv], ep1, .cons (hv9.same s10) .nil, by simp, htx1, ?_⟩
          walk_at "ox"
          intro p2 H11 np2 s11 ep2
          refine ⟨[v], [rv], ep2, .cons ((hv9.same s10).same s11) .nil, by simp, fun p3 H12 np3 s12 ep3 => ?_⟩
          have S12 := (s10.trans s11).trans s12
          simp only [S12 _ _ ecl9, ep3]
          have hl1 := refsR_len (fs.map fun z => z.2)
          have hl2 := refsR_len [rv]
          rw [List.length_map] at hl1
          have hlc : (childT (.inst o fs)).length ≤ 10 := by simp only [childT, List.length_cons]; omega
          refine ⟨by unfold intsN; rw [List.length_map, List.length_map, sizeLine_eq]; simp only [List.length_singleton] at hl2; omega, fun cl2 H13 nc2 s13 ec2 => ?_⟩
          have S13 := S12.trans s13
          have e8 : childT (.inst o (fs ++ [(z, rv)])) = childT (.inst o fs) ++ refsR [rv] := by
            simp only [childT]
            rw [List.map_append, List.map_cons, List.map_nil]
            unfold refsR
            rw [List.filterMap_append]; rfl
          have e9 : ((sizeT (.inst o fs) : Nat) : Int) + 1 + (z.length : Nat) + ((txtsR [rv] : Nat) : Int) = ((sizeT (.inst o (fs ++ [(z, rv)])) : Nat) : Int) := by
            simp only [sizeT, txtsR, List.map_append, List.map_cons, List.map_nil, List.length_append, List.length_singleton, List.sum_append, List.sum_cons, List.sum_nil]
            omega
          refine ⟨fs ++ [(z, rv)], cl2, _, _, _, ⟨D9.same S13, K9.trans (Keep.of S13), hth9.same S13, ?_, D.new K9 (S12.free nc2) D9, fun mm => ?_, S13 _ _ etp9, ?_, ?_⟩, by rw [e9]⟩
          · rw [ec2, e8]; unfold intsN; rw [List.map_append]
          · obtain ⟨u, eu⟩ := hth9.live cl2 mm
            rw [S12 _ _ eu] at nc2; cases nc2
          · rw [List.map_append, take_get ez]
            exact hT8.sub.append (List.Sublist.refl _)
          · rw [List.map_append]
            exact hT8.tx.snoc hx8
        · exact ⟨fs, cl, _, _, _, hT7.up ez, rfl⟩
      · rintro σ H6 ⟨fs, cl, v6, v7, v8, hT, rfl⟩
        refine hN _ _ ?_
        walk_at "ox"
        intro tq H7 ntq s7 etq
        have hsub := hT.sub.trans (List.take_sublist _ _)
        have hl : fs.length ≤ 3 := by have := hsub.length_le; rw [List.length_map] at this; exact this
        refine h tq a (some nd) (.inst o fs) cl H7 (hT.dr.same s7) ⟨hT.k.trans (Keep.of s7), etq, hT.th.same s7, foot_two hne, fun q mm => ?_, s7 _ _ hT.ecl, hT.ncl, hT.dcl, ⟨by omega, hsub.nodup names3_nd⟩, ?_, hT.tx⟩
        · simp only [footT, Option.toList_some, List.mem_cons, List.not_mem_nil, or_false] at mm
          rcases mm with rfl | rfl
          · exact hna
          · exact hnd
        · intro f hf
          have := hsub.subset (List.mem_map_of_mem hf)
          simp only [names3, List.mem_cons, List.not_mem_nil, or_false] at this
          rcases this with e | e | e <;> rw [e] <;> decide
    · cases h
def names2 : List Str := ["init", "m"]
theorem names2_nd : names2.Nodup := by unfold names2; decide +kernel
structure KinI (K : PySem.W.Frag) (w : World) (c : Cs) (H0 : Hp) (s sc : Addr) (ns : List Int) (H : Hp) (nm : Str) (q : Option Nat) (a md tp cl : Addr) (i : Nat) (H' : Hp) (ms : List (Str × Nat)) : Prop where
  dr : Dr K H0 s sc ns H'
  k : Keep [s] H H'
  th : ThAt w c H' a (some md) (.kin nm q ms)
  ecl : H' cl = some (.lst (intsN (childT (.kin nm q ms))))
  et : H' tp = some (.tup (names2.map V.str))
  sub : (ms.map (·.1)).Sublist (names2.take i)
theorem KinI.draw {H0 H H1 H2 : Hp} {s sc a md tp cl : Addr} {nm : Str} {q : Option Nat} {ns : List Int} {i : Nat} {ms : List (Str × Nat)} (h : KinI K w c H0 s sc ns H nm q a md tp cl i H1 ms) (nd : [s, a, md, tp, cl].Nodup) (k : Keep [s] H1 H2) (D2 : Dr K H0 s sc ns H2) : KinI K w c H0 s sc ns H nm q a md tp cl i H2 ms := by
  simp only [List.nodup_cons, List.mem_cons, not_or, List.not_mem_nil, not_false_eq_true, and_true] at nd
  obtain ⟨⟨n1, n2, n3, n4⟩, _⟩ := nd
  refine ⟨D2, h.k.trans k, h.th.keep k h.dr.soft (fun q hq m => ?_), k _ _ (by simpa using Ne.symm n4) h.ecl, k _ _ (by simpa using Ne.symm n3) h.et, h.sub⟩
  simp only [footT, Option.toList_some, List.mem_cons, List.not_mem_nil, or_false] at hq m
  rcases hq with rfl | rfl
  · exact n1 m.symm
  · exact n2 m.symm
theorem KinI.up {H0 H H1 : Hp} {s sc a md tp cl : Addr} {nm : Str} {q : Option Nat} {ns : List Int} {i : Nat} {z : Str} {ms : List (Str × Nat)} (h : KinI K w c H0 s sc ns H nm q a md tp cl i H1 ms) (ez : names2[i]? = some z) : KinI K w c H0 s sc ns H nm q a md tp cl (i + 1) H1 ms :=
  ⟨h.dr, h.k, h.th, h.ecl, h.et, by rw [take_get ez]; exact h.sub.trans (List.sublist_append_left _ _)⟩
theorem KinI.step {H0 H H1 H2 : Hp} {s sc a md tp cl : Addr} {nm : Str} {q : Option Nat} {ns : List Int} {i n : Nat} {z : Str} {v : V} {kvs : List (Key × V)} {ms : List (Str × Nat)} (h : KinI K w c H0 s sc ns H nm q a md tp cl i H1 ms) (nd : [s, a, md, tp, cl].Nodup) (fr : ∀ q ∈ [md, cl], H q = none) (sm : Same H0 H) (ez : names2[i]? = some z) (s2 : Same H1 H2) (hv : IsRefV c H2 v n) (en : H2 md = some (.dK kvs)) (hkv : Paired (fun (kv : Key × V) (f : Str × Nat) => kv.1 = .inr f.1 ∧ IsRefV c H1 kv.2 f.2) kvs ms) :
    kvs.length < sizeLine ∧ upd H2 md (.dK (putK kvs (.inr z) v)) cl = some (.lst (intsN (childT (.kin nm q ms)))) ∧ KinI K w c H0 s sc ns H nm q a md tp cl (i + 1) (upd (upd H2 md (.dK (putK kvs (.inr z) v))) cl (.lst (intsN (childT (.kin nm q ms)) ++ [.int (n : Nat)]))) (ms ++ [(z, n)]) := by
  have hzn : z ∉ ms.map (·.1) := fun mm => by
    have := (List.take_sublist (i + 1) names2).nodup names2_nd
    rw [take_get ez, List.nodup_append] at this
    exact this.2.2 z (h.sub.subset mm) z (by simp) rfl
  have hput : putK kvs (.inr z) v = kvs ++ [(.inr z, v)] := putK_new (by rw [kv_keys hkv]; exact inr_mem hzn)
  have hlk : kvs.length = ms.length := Paired.length hkv
  have hlf : ms.length ≤ 2 := by
    have := (h.sub.trans (List.take_sublist _ _)).length_le
    rw [List.length_map] at this; exact this
  simp only [List.nodup_cons, List.mem_cons, not_or, List.not_mem_nil, not_false_eq_true, and_true] at nd
  obtain ⟨⟨n1, n2, n3, n4⟩, ⟨n5, n6, n7⟩, ⟨n8, n9⟩, n10, _⟩ := nd
  obtain ⟨dx, pv, md', kvs', e, ea, er, en', hkv'⟩ := h.th
  cases e
  have ecl := s2 _ _ h.ecl
  have kk : Keep [md, cl] H2 (upd (upd H2 md (.dK (putK kvs (.inr z) v))) cl (.lst (intsN (childT (.kin nm q ms)) ++ [.int (n : Nat)]))) := (Keep.refl.upd (by simp)).upd (by simp)
  have so : ∀ p ∈ [md, cl], Soft c H2 p := fun p m => by
    simp only [List.mem_cons, List.not_mem_nil, or_false] at m
    rcases m with rfl | rfl
    · exact soft_dk en
    · exact soft_lst ecl
  have hs : HardStay c H1 (upd (upd H2 md (.dK (putK kvs (.inr z) v))) cl (.lst (intsN (childT (.kin nm q ms)) ++ [.int (n : Nat)]))) := HardStay.trans (.same s2) (.keep kk so)
  refine ⟨len_line' (by omega), (upd_ne (Ne.symm n9)).trans ecl, ?_, ?_, ⟨dx, pv, md, kvs ++ [(.inr z, v)], rfl, kk _ _ (by simp [n5, n7]) (s2 _ _ ea), ?_, ?_, ?_⟩, ?_, kk _ _ (by simp [Ne.symm n8, n10]) (s2 _ _ h.et), ?_⟩
  · exact (h.dr.same s2).keep kk (by simp [n2, n4]) fun q m => sm.free (fr q m)
  · exact fun q o m e => kk q o (fun z => by have := fr q z; rw [this] at e; cases e) ((h.k.trans (Keep.of s2)) q o m e)
  · cases q with
    | none => exact er
    | some k => exact IsRefV.hs er hs
  · rw [upd_ne n9, upd_same, hput]
  · exact Paired.snoc (Paired.mapP hkv fun _ _ q => ⟨q.1, q.2.hs hs⟩) ⟨rfl, hv.hs (.keep kk so)⟩
  · rw [upd_same]
    have e8 : childT (.kin nm q (ms ++ [(z, n)])) = childT (.kin nm q ms) ++ [n] := by
      simp only [childT]
      rw [List.map_append, List.map_cons, List.map_nil, List.append_assoc]
    rw [e8]; unfold intsN; rw [List.map_append]; rfl
  · rw [List.map_append, take_get ez]
    exact h.sub.append (List.Sublist.refl _)
def KinL (K : PySem.W.Frag) (w : World) (c : Cs) (H0 : Hp) (s sc : Addr) (ns : List Int) (H : Hp) (m : Int) (pv : V) (nm : Str) (q : Option Nat) (a md tp cl : Addr) (i : Nat) (σ : L2.St) (H' : Hp) : Prop := ∃ ms v7 v8 v9, KinI K w c H0 s sc ns H nm q a md tp cl i H' ms ∧ σ = [some (.ref s), some (.int m), some pv, some (.str nm), some (.ref a), some (.ref cl), some (.int (sizeT (.kin nm q ms) : Nat)), v7, v8, v9]
theorem k5 : ∀ d : Fin 5, MulOk (Str.ofString "K") (1 + ((d : Nat) : Int)) ∧ (Txt.mul (Str.ofString "K") (1 + ((d : Nat) : Int))).length ≤ 100 := by
  unfold MulOk; decide
set_option maxHeartbeats 4000000 in
theorem ok_class (A : At K mg "_law_class" "_law_class" s_law_class ["state", "many"]) (T : Txt K mg c) (H_law_draw : Has P w K mg base CX0 "_law_draw" 2 ["state", "many"] (spDraw K)) (H_law_pick : Has P w K mg base CX0 "_law_pick" 3 ["state", "row"] (spPick2 K)) (H_law_refs : Has P w K mg base CX0 "_law_refs" 2 ["values"] (spRefs c)) (M_Ref : HasC P w K mg base CX0 c.Ref "Ref" 1 ["self", "number"] (spMk_Ref K c)) (M_Kin : HasC P w K mg base CX0 c.Kin "Kin" 1 ["self", "name", "parent"] (spMk_Kin K c)) : Has P w K mg base CX0 "_law_class" 5 ["state", "many"] (spRow K w c) := by
  have Sc := sc_law_class
  refine has_of A Sc (fun vs H Q E h => ?_) (fun cdv f A outer s H vs Q E hr h => ?_)
  · unfold spRow at h; split at h; rfl; cases h
  · unfold spRow at h
    split at h
    · rename_i s m
      obtain ⟨H0, sc, ns, D, hm0, hm1, h⟩ := h
      refine ⟨_, (pss_cons (ps_set (i := 2) Sc.nd rfl (.inl rfl) (fe_call H_law_pick (hr.mono (by walk_at "rm")) (by rfl) pass0 (pa_cons (fe_var 0) (pa_cons (fe_tup (pa_cons pe_non (pa_cons (fe_make (k := _) M_Ref (hr.mono (by walk_at "rm")) (by rfl) pass0 (pa_cons (fe_call H_law_draw (hr.mono (by walk_at "rm")) (by rfl) pass0 (pa_cons (fe_var 0) (pa_cons (fe_var 1) pa_nil))) pa_nil)) pa_nil))) pa_nil))))
      (pss_cons (ps_set (i := 3) Sc.nd rfl (.inl rfl) (pe_op op_fMul pe_str (pe_op op_fAdd pe_int (fe_call H_law_draw (hr.mono (by walk_at "rm")) (by rfl) pass0 (pa_cons (fe_var 0) (pa_cons pe_int pa_nil))))))
      (pss_cons (ps_set (i := 4) Sc.nd rfl (.inl rfl) (fe_make (k := _) M_Kin (hr.mono (by walk_at "rm")) (by rfl) pass0 (pa_cons (fe_var 3) (pa_cons (fe_var 2) pa_nil))))
      (pss_cons (ps_set (i := 5) Sc.nd rfl (.inl rfl) (fe_call H_law_refs (hr.mono (by walk_at "rm")) (by rfl) pass0 (pa_cons (fe_lst (pa_cons (fe_var 2) pa_nil)) pa_nil)))
      (pss_cons (ps_set (i := 6) Sc.nd rfl (.inl rfl) (pe_op op_fAdd pe_int (pe_callB call_fLen (by rfl) T.no_len (by decide +kernel) (pa_cons (fe_var 3) pa_nil))))
      (pss_cons (ps_for PassesOwn.never rfl (pi_tup (fe_tup (pa_cons pe_str (pa_cons pe_str pa_nil)))) (pg_name (i := 7) Sc.nd rfl (.inl rfl)) (pss_one (ps_if (pt_cmpR (op_fEq hr.units) (fe_call H_law_draw (hr.mono (by walk_at "rm")) (by rfl) pass0 (pa_cons (fe_var 0) (pa_cons pe_int pa_nil))) pe_int (nomark _)) (pss_cons (ps_set (i := 8) Sc.nd rfl (.inl rfl) (fe_call H_law_draw (hr.mono (by walk_at "rm")) (by rfl) pass0 (pa_cons (fe_var 0) (pa_cons (fe_var 1) pa_nil))))
      (pss_cons (ps_set (i := 9) Sc.nd rfl (.inl rfl) (fe_fld (fe_var 4) T.pl_methods rfl))
      (pss_cons (ps_putK (hu_of hr) (fe_var 9) (fe_var 7) (fe_make (k := _) M_Ref (hr.mono (by walk_at "rm")) (by rfl) pass0 (pa_cons (fe_var 8) pa_nil)) rfl)
      (pss_cons (ps_set (i := 6) Sc.nd rfl (.inl rfl) (pe_op op_fAdd (fe_var 6) pe_int))
      (pss_one (ps_expr (fe_bm PySem.F.plainAttrs_list PySem.F.slot_list_append PySem.F.type_list_append isLst_ty mt_fAppend (fe_var 5) (pa_cons (fe_var 8) pa_nil)))))))) pss_nil)))
      (pss_one (ps_ret (fe_tup (pa_cons (fe_var 4) (pa_cons pe_str (pa_cons (fe_var 6) (pa_cons (fe_var 5) pa_nil))))))))))))), ?_⟩
      walk_at "fx0"
      walk_at "ox"
      refine ⟨H0, sc, ns, D, by omega, by omega, fun H1 o k1 D1 d0 d1 => ?_⟩
      obtain ⟨o, rfl⟩ := Int.eq_ofNat_of_zero_le d0
      walk_at "ox"
      intro r rdx H2 nr s2 er tp1 H3 ntp1 s3 etp1
      have D3 := (D1.same s2).same s3
      have nt1 : tp1 ≠ s := fun z => by obtain ⟨u, e⟩ := D3.live; rw [← z, etp1] at e; cases e
      refine ⟨H0, sc, ns, _, D3, fun H4 k4 => rl_t (k4 _ _ (by simpa using nt1) etp1), by simp, by simp, fun H4 pv k4 D4 hpv => ?_⟩
      have K4 : Keep [s] H H4 := ((k1.trans (Keep.of s2)).trans (Keep.of s3)).trans k4
      have hs4 : HardStay c H2 H4 := HardStay.trans (.same s3) (.keep k4 D3.soft)
      obtain ⟨q, hq⟩ : ∃ q : Option Nat, IsVal c H4 pv (parR q) ∧ (match q with | none => pv = .non | some k => IsRefV c H4 pv k) := by
        simp only [List.mem_cons, List.not_mem_nil, or_false] at hpv
        rcases hpv with rfl | rfl
        · exact ⟨none, rfl, rfl⟩
        · have : IsRefV c H4 (.ref r) o := ⟨r, rfl, rdx, hs4 _ _ er Hard.r⟩
          exact ⟨some o, this, this⟩
      walk_at "ox"
      refine ⟨H0, sc, ns, D4, by omega, by omega, fun H5 d k5' D5 d2 d3 => ?_⟩
      obtain ⟨d, rfl⟩ := Int.eq_ofNat_of_zero_le d2
      obtain ⟨x1, x2⟩ := k5 ⟨d, by omega⟩
      have K5 := K4.trans k5'
      have hs5 : HardStay c H4 H5 := .keep k5' D4.soft
      walk_at "ox"
      refine ⟨x1, ?_⟩
      generalize Txt.mul (Str.ofString "K") (1 + ((d : Nat) : Int)) = nm at x2 ⊢
      have x2 : nm.length ≤ 100 := x2
      intro a dx md H6 na s6 ea nmd emd hne
      walk_at "ox"
      intro p1 H7 np1 s7 ep1
      have hq7 : IsVal c H7 pv (parR q) := ((hq.1.hs hs5).same s6).same s7
      refine ⟨[pv], [parR q], ep1, .cons hq7 .nil, by simp, fun cl H8 ncl s8 ecl => ?_⟩
      walk_at "ox"
      refine ⟨Nat.le_of_lt (len_line' (by omega)), ?_⟩
      refine for_ ?_
      walk_at "ox"
      intro tp H9 ntp s9 etp
      have S9 := ((s6.trans s7).trans s8).trans s9
      have D9 := D5.same S9
      obtain ⟨sxs, esl⟩ := D.live
      obtain ⟨sxs5, esl5⟩ := D5.live
      have esl8 := s8 _ _ (s7 _ _ (s6 _ _ esl5))
      have hna : H a = none := D.new K5 na D5
      have hnmd : H md = none := D.new K5 nmd D5
      have hncl : H cl = none := D.new (K5.trans (Keep.of (s6.trans s7))) ncl (D5.same (s6.trans s7))
      have ea7 := s7 _ _ ea
      have emd7 := s7 _ _ emd
      have nac : a ≠ cl := ne_of_none ea7 ncl
      have nmc : md ≠ cl := ne_of_none emd7 ncl
      have nkd : [s, a, md, tp, cl].Nodup := by
        simp only [List.nodup_cons, List.mem_cons, not_or, List.not_mem_nil, not_false_eq_true, and_true, List.nodup_nil, or_false]
        exact ⟨⟨ne_of_none esl5 na, ne_of_none esl5 nmd, ne_of_none esl8 ntp, ne_of_none (s7 _ _ (s6 _ _ esl5)) ncl⟩, ⟨Ne.symm hne, ne_of_none (s8 _ _ ea7) ntp, nac⟩, ⟨ne_of_none (s8 _ _ emd7) ntp, nmc⟩, Ne.symm (ne_of_none ecl ntp)⟩
      have e0 : refsR [parR q] = childT (.kin nm q []) := by cases q <;> rfl
      have hT0 : KinI K w c H0 s sc ns H nm q a md tp cl 0 H9 [] := by
        refine ⟨D9, K5.trans (Keep.of S9), ⟨dx, pv, md, [], rfl, s9 _ _ (s8 _ _ ea7), ?_, s9 _ _ (s8 _ _ emd7), .nil⟩, by rw [← e0]; exact s9 _ _ ecl, etp, List.nil_sublist _⟩
        cases q with
        | none => exact hq.2
        | some k => exact (IsRefV.hs hq.2 hs5).hs (.same S9)
      refine ⟨⟨_, .inl (.inl etp)⟩, ?_⟩
      have ez0 : (1 : Int) + (nm.length : Nat) = ((sizeT (.kin nm q []) : Nat) : Int) := by simp [sizeT]
      rw [ez0]
      refine loop_tup (names2.map V.str) (KinL K w c H0 s sc ns H m pv nm q a md tp cl) ⟨[], none, none, none, hT0, rfl⟩ (fun i σ H' _ ⟨ms, v7, v8, v9, hT, _⟩ => .inl (.inl hT.et)) ?_ ?_
      · rintro i v σ H6 hv ⟨ms, v7, v8, v9, hT, rfl⟩
        rw [List.getElem?_map] at hv
        obtain ⟨z, ez, rfl⟩ := Option.map_eq_some_iff.mp hv
        walk_at "ox"
        refine ⟨H0, sc, ns, hT.dr, by omega, by omega, fun H7 d2 k7 D7 d0 d1 => ?_⟩
        have hT7 := hT.draw nkd k7 D7
        repeat (walk_at "oxs")
        split
        · refine ⟨H0, sc, ns, D7, by omega, by omega, fun H8 n k8 D8 n0 n1 => ?_⟩
          obtain ⟨n, rfl⟩ := Int.eq_ofNat_of_zero_le n0
          have hT8 := hT7.draw nkd k8 D8
          obtain ⟨dx8, pv8, md8, kvs, e8, ea8, er8, en8, hkv⟩ := id hT8.th
          cases e8
          repeat (first | walk_at "oxs" | simp only [ea8])
          intro r2 r2dx H9' nr2 s9' er2
          obtain ⟨q1, q2, q3⟩ := hT8.step nkd (fun q mq => by
            simp only [List.mem_cons, List.not_mem_nil, or_false] at mq
            rcases mq with rfl | rfl
            · exact hnmd
            · exact hncl) D.sm ez s9' ⟨r2, rfl, r2dx, er2⟩ (s9' _ _ en8) hkv
          refine ⟨_, s9' _ _ en8, q1, ?_⟩
          simp only [q2]
          have hlm : ms.length ≤ 2 := by
            have := (hT8.sub.trans (List.take_sublist _ _)).length_le
            rw [List.length_map] at this; exact this
          have hlc : (intsN (childT (.kin nm q ms))).length ≤ 3 := by
            unfold intsN
            rw [List.length_map]
            simp only [childT, List.length_append, List.length_map]
            cases q <;> simp <;> omega
          have e9 : ((sizeT (.kin nm q ms) : Nat) : Int) + 1 = ((sizeT (.kin nm q (ms ++ [(z, n)])) : Nat) : Int) := by
            simp only [sizeT, List.length_append, List.length_singleton]; omega
          rw [e9]
          exact ⟨trivial, len_line' (by omega), ms ++ [(z, n)], _, _, _, q3, rfl⟩
        · exact ⟨ms, _, _, _, hT7.up ez, rfl⟩
      · rintro σ H6 ⟨ms, v7, v8, v9, hT, rfl⟩
        walk_at "ox"
        intro tq H7 ntq s7 etq
        have hsub := hT.sub.trans (List.take_sublist _ _)
        have hl : ms.length ≤ 2 := by have := hsub.length_le; rw [List.length_map] at this; exact this
        refine h tq a (some md) (.kin nm q ms) cl H7 (hT.dr.same s7) ⟨hT.k.trans (Keep.of s7), etq, hT.th.same s7, foot_two hne, fun q mm => ?_, s7 _ _ hT.ecl, hncl, fun mm => ?_, ⟨by omega, hsub.nodup names2_nd⟩, by show nm.length ≤ 1000; omega⟩
        · simp only [footT, Option.toList_some, List.mem_cons, List.not_mem_nil, or_false] at mm
          rcases mm with rfl | rfl
          · exact hna
          · exact hnmd
        · simp only [footT, Option.toList_some, List.mem_cons, List.not_mem_nil, or_false] at mm
          rcases mm with e | e
          · exact nac e.symm
          · exact nmc e.symm
    · cases h
/-- numbers drawn, and Refs of them -/
def DrwI (K : PySem.W.Frag) (H0 : Hp) (s sc : Addr) (ns : List Int) (H : Hp) (D0 : Addr) (i : Nat) (H' : Hp) : Prop := ∃ zs : List Nat, Dr K H0 s sc ns H' ∧ Keep [s] H H' ∧ H' D0 = some (.lst (intsN zs)) ∧ zs.length = i
def RefI (c : Cs) (H : Hp) (D0 : Addr) (zs : List Nat) (i : Nat) (H' : Hp) : Prop := ∃ xs, Same H H' ∧ H' D0 = some (.lst xs) ∧ RefsAt c H' xs (zs.take i)
set_option maxHeartbeats 4000000 in
theorem ok_made (A : At K mg "_law_made" "_law_made" s_law_made ["state", "many"]) (T : Txt K mg c) (H_law_draw : Has P w K mg base CX0 "_law_draw" 2 ["state", "many"] (spDraw K)) (H_law_row : Has P w K mg base CX0 "_law_row" 5 ["state", "many"] (spRow K w c)) (H_law_table : Has P w K mg base CX0 "_law_table" 5 ["state", "many"] (spRow K w c)) (H_law_instance : Has P w K mg base CX0 "_law_instance" 5 ["state", "many"] (spRow K w c)) (H_law_class : Has P w K mg base CX0 "_law_class" 5 ["state", "many"] (spRow K w c)) (M_Ref : HasC P w K mg base CX0 c.Ref "Ref" 1 ["self", "number"] (spMk_Ref K c)) (M_Bound : HasC P w K mg base CX0 c.Bound "Bound" 1 ["self", "owner", "function"] (spMk_Bound K c)) (M_Closure : HasC P w K mg base CX0 c.Closure "Closure" 1 ["self", "number", "wanted", "scope"] (spMk_Closure K c)) : Has P w K mg base CX0 "_law_made" 6 ["state", "many"] (spRow K w c) := by
  have Sc := sc_law_made
  refine has_of A Sc (fun vs H Q E h => ?_) (fun cdv f A outer s H vs Q E hr h => ?_)
  · unfold spRow at h; split at h; rfl; cases h
  · unfold spRow at h
    split at h
    · rename_i s m
      obtain ⟨H0, sc, ns, D, hm0, hm1, h⟩ := h
      refine ⟨_, (pss_cons (ps_set (i := 2) Sc.nd rfl (.inl rfl) (fe_call H_law_draw (hr.mono (by walk_at "rm")) (by rfl) pass0 (pa_cons (fe_var 0) (pa_cons pe_int pa_nil))))
      (pss_cons (ps_if (pt_cmpR op_fLt (fe_var 2) pe_int (nomark _)) (pss_one (ps_ret (fe_call H_law_row (hr.mono (by walk_at "rm")) (by rfl) pass0 (pa_cons (fe_var 0) (pa_cons (fe_var 1) pa_nil))))) pss_nil)
      (pss_cons (ps_if (pt_cmpR (op_fEq hr.units) (fe_var 2) pe_int (nomark _)) (pss_one (ps_ret (fe_call H_law_table (hr.mono (by walk_at "rm")) (by rfl) pass0 (pa_cons (fe_var 0) (pa_cons (fe_var 1) pa_nil))))) pss_nil)
      (pss_cons (ps_if (pt_cmpR (op_fEq hr.units) (fe_var 2) pe_int (nomark _)) (pss_one (ps_ret (fe_call H_law_instance (hr.mono (by walk_at "rm")) (by rfl) pass0 (pa_cons (fe_var 0) (pa_cons (fe_var 1) pa_nil))))) pss_nil)
      (pss_cons (ps_if (pt_cmpR (op_fEq hr.units) (fe_var 2) pe_int (nomark _)) (pss_one (ps_ret (fe_call H_law_class (hr.mono (by walk_at "rm")) (by rfl) pass0 (pa_cons (fe_var 0) (pa_cons (fe_var 1) pa_nil))))) pss_nil)
      (pss_cons (ps_set (i := 3) Sc.nd rfl (.inl rfl) (fe_call H_law_draw (hr.mono (by walk_at "rm")) (by rfl) pass0 (pa_cons (fe_var 0) (pa_cons (fe_var 1) pa_nil))))
      (pss_cons (ps_set (i := 4) Sc.nd rfl (.inl rfl) (fe_call H_law_draw (hr.mono (by walk_at "rm")) (by rfl) pass0 (pa_cons (fe_var 0) (pa_cons (fe_var 1) pa_nil))))
      (pss_cons (ps_if (pt_cmpR (op_fEq hr.units) (fe_call H_law_draw (hr.mono (by walk_at "rm")) (by rfl) pass0 (pa_cons (fe_var 0) (pa_cons pe_int pa_nil))) pe_int (nomark _)) (pss_one (ps_ret (fe_tup (pa_cons (fe_make (k := _) M_Bound (hr.mono (by walk_at "rm")) (by rfl) pass0 (pa_cons (fe_make (k := _) M_Ref (hr.mono (by walk_at "rm")) (by rfl) pass0 (pa_cons (fe_var 3) pa_nil)) (pa_cons (fe_make (k := _) M_Ref (hr.mono (by walk_at "rm")) (by rfl) pass0 (pa_cons (fe_var 4) pa_nil)) pa_nil))) (pa_cons pe_str (pa_cons pe_int (pa_cons (fe_lst (pa_cons (fe_var 3) (pa_cons (fe_var 4) pa_nil))) pa_nil))))))) pss_nil)
      (pss_cons (ps_setLc (i := 5) (own := [("k", 6)]) (by rfl) Sc.nd rfl rfl (sw_true rfl rfl rfl (by decide +kernel)) (pi_range1 (by rfl) T.no_range (pa_cons (fe_call H_law_draw (hr.mono (by walk_at "rm")) (by rfl) pass0 (pa_cons (fe_var 0) (pa_cons pe_int pa_nil))) pa_nil)) (blkOk_by (own := [("k", 6)]) (N := ["state", "many", "kind", "first", "second", "scope", "k", "number"]) (sc := defScope s_law_made) (by decide +kernel)) (fun _ _ _ _ _ => (pg_name (i := 6) Sc.nd rfl (.inl rfl))) (fun _ _ _ _ _ => pts_nil) (fun _ _ _ _ _ => (fe_call H_law_draw (hr.mono (by walk_at "rm")) (by rfl) pass0 (pa_cons (fe_var 0) (pa_cons (fe_var 1) pa_nil)))))
      (pss_one (ps_ret (fe_tup (pa_cons (fe_make (k := _) M_Closure (hr.mono (by walk_at "rm")) (by rfl) pass0 (pa_cons pe_int (pa_cons pe_int (pa_cons (pe_callTy call_fTupOf (by rfl) T.no_tuple (by decide +kernel) (pa_cons (pe_lc (own := [("number", 7)]) (by rfl) Sc.nd (pi_list (fe_var 5)) (blkOk_by (own := [("number", 7)]) (N := ["state", "many", "kind", "first", "second", "scope", "k", "number"]) (sc := defScope s_law_made) (by decide +kernel)) (fun _ _ _ _ _ => (pg_name (i := 7) Sc.nd rfl (.inl rfl))) (fun _ _ _ _ _ => pts_nil) (fun _ _ _ _ _ => (fe_make (k := _) M_Ref (hr.mono (by walk_at "rm")) (by rfl) pass0 (pa_cons (fe_var 7) pa_nil)))) pa_nil)) pa_nil)))) (pa_cons pe_str (pa_cons pe_int (pa_cons (fe_var 5) pa_nil)))))))))))))))), ?_⟩
      walk_at "fx0"
      walk_at "ox"
      refine ⟨H0, sc, ns, D, by omega, by omega, fun H1 kd k1 D1 d0 d1 => ?_⟩
      have up : ∀ {tp a b t cl H2}, RowRes w c s H1 H2 tp a b t cl → RowRes w c s H H2 tp a b t cl := fun r => ⟨k1.trans r.k, r.tup, r.th, r.nd, fun q m => D.new k1 (r.fr q m) D1, r.ecl, D.new k1 r.ncl D1, r.dcl, r.sm, r.tx⟩
      refine cut_ fun N hN => ifs_ ?_
      walk_at "ox"
      split
      · exact ⟨H0, sc, ns, D1, hm0, hm1, fun tp a b t cl H2 D2 r => h tp a b t cl H2 D2 (up r)⟩
      refine hN _ _ ?_
      walk_at "ox"
      refine cut_ fun N hN => ifs_ ?_
      walk_at "ox"
      split
      · exact ⟨H0, sc, ns, D1, hm0, hm1, fun tp a b t cl H2 D2 r => h tp a b t cl H2 D2 (up r)⟩
      refine hN _ _ ?_
      walk_at "ox"
      refine cut_ fun N hN => ifs_ ?_
      walk_at "ox"
      split
      · exact ⟨H0, sc, ns, D1, hm0, hm1, fun tp a b t cl H2 D2 r => h tp a b t cl H2 D2 (up r)⟩
      refine hN _ _ ?_
      walk_at "ox"
      refine cut_ fun N hN => ifs_ ?_
      walk_at "ox"
      split
      · exact ⟨H0, sc, ns, D1, hm0, hm1, fun tp a b t cl H2 D2 r => h tp a b t cl H2 D2 (up r)⟩
      refine hN _ _ ?_
      walk_at "ox"
      refine ⟨H0, sc, ns, D1, hm0, by omega, fun H2 o k2 D2 o0 o1 => ?_⟩
      obtain ⟨o, rfl⟩ := Int.eq_ofNat_of_zero_le o0
      refine ⟨H0, sc, ns, D2, hm0, by omega, fun H3 f k3 D3 f0 f1 => ?_⟩
      obtain ⟨f, rfl⟩ := Int.eq_ofNat_of_zero_le f0
      refine cut_ fun N hN => ifs_ ?_
      walk_at "ox"
      refine ⟨H0, sc, ns, D3, by omega, by omega, fun H4 e k4 D4 e0 e1 => ?_⟩
      have K4 := ((k1.trans k2).trans k3).trans k4
      repeat (walk_at "oxs")
      split
      · intro r1 dx1 H5 nr1 s5 er1 r2 dx2 H6 nr2 s6 er2
        repeat (walk_at "oxs")
        intro a dx H7 na s7 ea cl H8 ncl s8 ecl tp H9 ntp s9 etp
        have S7 := (s5.trans s6).trans s7
        have S9 := (S7.trans s8).trans s9
        have hH : ∀ {q : Addr}, H4 q = none → H q = none := fun n => D.new K4 n D4
        have ea9 := s9 _ _ (s8 _ _ ea)
        have nclf : cl ∉ footT a none := fun m => by
          simp only [footT, Option.toList_none, List.mem_cons, List.not_mem_nil, or_false] at m
          rw [m, ea] at ncl; cases ncl
        exact h tp a none (.bound o f) cl H9 (D4.same S9) ⟨K4.trans (Keep.of S9), etp, ⟨dx, .ref r1, .ref r2, rfl, ea9, ⟨r1, rfl, dx1, s9 _ _ (s8 _ _ (s7 _ _ (s6 _ _ er1)))⟩, ⟨r2, rfl, dx2, s9 _ _ (s8 _ _ (s7 _ _ er2))⟩⟩, foot_one, fun q m => hH (free_one ((s5.trans s6).free na) q m), s9 _ _ ecl, hH (S7.free ncl), nclf, trivial, trivial⟩
      · refine hN _ _ ?_
        walk_at "ox"
        refine lc_ ?_
        walk_at "ox"
        refine ⟨H0, sc, ns, D4, by omega, by omega, fun H5 d k5 D5 c0 c1 => ?_⟩
        walk_at "ox"
        refine ⟨by omega, by omega, fun D0 nD => ?_⟩
        have K5 := K4.trans k5
        have nHD : H D0 = none := D.new K5 nD D5
        have nH0 : H0 D0 = none := D.sm.free nHD
        have neD : D0 ≠ s := fun z => by obtain ⟨xs, e⟩ := D5.live; rw [← z, nD] at e; cases e
        refine lcx_range (DrwI K H0 s sc ns H D0) ⟨[], D5.put nH0 neD, Keep.updN K5 nHD, upd_same, rfl⟩ ?_ ?_
        · rintro i H6 hi ⟨zs, D6, K6, eD, hl⟩
          walk_at "ox"
          refine ⟨H0, sc, ns, D6, hm0, by omega, fun H7 n k7 D7 n0 n1 => ?_⟩
          obtain ⟨n, rfl⟩ := Int.eq_ofNat_of_zero_le n0
          have eD7 := k7 _ _ (by simpa using neD) eD
          exact ⟨_, eD7, len_line' (by unfold intsN; rw [List.length_map]; omega), zs ++ [n], D7.put nH0 neD, Keep.updN (K6.trans k7) nHD, by rw [upd_same]; unfold intsN; rw [List.map_append]; rfl, by rw [List.length_append, hl]; rfl⟩
        · rintro H6 ⟨zs, D6, K6, eD, hl⟩
          walk_at "ox"
          refine lc_ ?_
          walk_at "ox"
          refine ⟨⟨_, .inl (.inl eD)⟩, fun D1' nD1 => ?_⟩
          refine lcx_list (xs := intsN zs) (RefI c H6 D1' zs) ⟨[], same_new nD1, upd_same, .nil⟩ (fun i H' _ ⟨xs, s7, _⟩ => .inl (.inl (s7 _ _ eD))) ?_ ?_
          · rintro i v H7 hv ⟨xs, s7, e7, hxs⟩
            unfold intsN at hv
            rw [List.getElem?_map] at hv
            obtain ⟨n, en, rfl⟩ := Option.map_eq_some_iff.mp hv
            walk_at "ox"
            intro r rdx H8 nr s8 er
            have e8 := s8 _ _ e7
            have hlx : xs.length ≤ 10 := by
              have := Paired.length hxs
              rw [List.length_take] at this
              omega
            have hs : HardStay c H8 (upd H8 D1' (.lst (xs ++ [.ref r]))) := .keep (ps := [D1']) (Keep.refl.upd (by simp)) fun p m => by rw [List.mem_singleton.mp m]; exact soft_lst e8
            refine ⟨xs, e8, len_line' (by omega), xs ++ [.ref r], mk_same (s7.trans s8) nD1, upd_same, ?_⟩
            rw [take_get en]
            exact Paired.snoc (Paired.mapP hxs fun _ _ z => (z.hs (.same s8)).hs hs) ⟨r, rfl, rdx, hs _ _ er Hard.r⟩
          · rintro H7 ⟨xs, s7, e7, hxs⟩
            have hlz : (intsN zs).length = zs.length := List.length_map ..
            rw [hlz, List.take_length] at hxs
            walk_at "ox"
            refine ⟨_, e7, fun tt H8 ntt s8 ett => ?_⟩
            intro a dx H9 na s9 ea
            repeat (walk_at "oxs")
            intro tp H10 ntp s10 etp
            have S10 := ((s7.trans s8).trans s9).trans s10
            have hH : ∀ {q : Addr}, H6 q = none → H q = none := fun n => D.new K6 n D6
            have nDa : D0 ∉ footT a none := fun m => by
              simp only [footT, Option.toList_none, List.mem_cons, List.not_mem_nil, or_false] at m
              rw [← m, s8 _ _ (s7 _ _ eD)] at na; cases na
            exact h tp a none (.clo 1 0 zs) D0 H10 (D6.same S10) ⟨K6.trans (Keep.of S10), etp, ⟨dx, tt, xs, rfl, s10 _ _ ea, s10 _ _ (s9 _ _ ett), Paired.mapP hxs fun _ _ z => z.hs (.same ((s8.trans s9).trans s10))⟩, foot_one, fun q m => hH (free_one ((s7.trans s8).free na) q m), S10 _ _ eD, nHD, nDa, by show zs.length ≤ 1000; omega, trivial⟩
    · cases h
end

section
variable {P : Program} {w : World} {K : PySem.W.Frag} {mg : Str → Option Value} {base : Heap} {c : Cs}
def RowT (H : Hp) (p : Addr × Addr) (t : Th) : Prop := ∃ v, H p.1 = some (.tup [v, .str (sortT t), .int (sizeT t : Nat), .ref p.2]) ∧ H p.2 = some (.lst (intsN (childT t)))
def GT (c : Cs) (rl : Addr) (L : List (Addr × Addr)) (ts : List Th) (H : Hp) : Prop := H rl = some (.lst (L.map fun p => V.ref p.1)) ∧ Paired (RowT H) L ts
theorem RowT.mono {H H' : Hp} {p : Addr × Addr} {t : Th} (h : RowT H p t) (s : HardStay c H H') (k : ∀ o, H p.2 = some o → H' p.2 = some o) : RowT H' p t := by
  obtain ⟨v, e1, e2⟩ := h
  exact ⟨v, s _ _ e1 (Hard.t _), k _ e2⟩
theorem GT.gm {rl : Addr} {L : List (Addr × Addr)} {ts : List Th} : ∀ H H', GT c rl L ts H → HardStay c H H' → (∀ q ∈ rl :: L.map (·.2), ∀ o, H q = some o → H' q = some o) → GT c rl L ts H' :=
  fun H H' h s k => ⟨k _ (List.mem_cons_self ..) _ h.1, Paired.mapP (paired_mem h.2) fun p r z => z.2.mono s fun o => k _ (List.mem_cons_of_mem _ (List.mem_map_of_mem z.1)) o⟩
def LWT (K : PySem.W.Frag) (w : World) (c : Cs) (H0 : Hp) (s sc : Addr) (ns : List Int) (x : SA) (S : SV) (rl : Addr) (L : List (Addr × Addr)) (ts : List Th) (H : Hp) : Prop := Wd K w c H0 s sc ns x S (GT c rl L ts) (rl :: L.map (·.2)) H
theorem LWT.made {H0 H H1 : Hp} {s sc rl tp a cl : Addr} {b : Option Addr} {t : Th} {ns : List Int} {x : SA} {S : SV} {L : List (Addr × Addr)} {ts : List Th} (W : LWT K w c H0 s sc ns x S rl L ts H) (D1 : Dr K H0 s sc ns H1) (r : RowRes w c s H H1 tp a b t cl) :
    H1 rl = some (.lst (L.map fun p => V.ref p.1)) ∧ LWT K w c H0 s sc ns x S rl (L ++ [(tp, cl)]) (ts ++ [t]) (upd H1 rl (.lst ((L.map fun p => V.ref p.1) ++ [.ref tp]))) ∧ ThAt w c (upd H1 rl (.lst ((L.map fun p => V.ref p.1) ++ [.ref tp]))) a b t ∧ (∀ q ∈ footT a b, q ∉ s :: (x.foot ++ (rl :: (L ++ [(tp, cl)]).map (·.2)))) ∧ ∀ q ∈ footT a b, H0 q = none := by
  have W1 := Wd.draw W r.k D1
  have g1 := W1.g
  have n0 : ∀ {q : Addr}, H q = none → q ∉ s :: (x.foot ++ (rl :: L.map (·.2))) := fun e m => by obtain ⟨o, z⟩ := Wd.live W m; rw [e] at z; cases z
  have h0 : ∀ {q : Addr}, H q = none → H0 q = none := fun e => (Wd.dr W).sm.free e
  have nd := (List.nodup_append.mp (List.nodup_cons.mp W1.nd).2).2.1
  obtain ⟨nd1, nd2⟩ := List.nodup_cons.mp nd
  have ncl := n0 r.ncl
  have nclg : cl ∉ rl :: L.map (·.2) := fun m => ncl (List.mem_cons_of_mem _ (List.mem_append_right _ m))
  have em : (L ++ [(tp, cl)]).map (·.2) = L.map (·.2) ++ [cl] := by rw [List.map_append]; rfl
  have W2 : Wd K w c H0 s sc ns x S (fun H => GT c rl L ts H ∧ RowT H (tp, cl) t) (rl :: (L ++ [(tp, cl)]).map (·.2)) H1 := by
    refine W1.adopt ⟨g1, ⟨_, r.tup, r.ecl⟩⟩ ?_ ?_ ?_
    · intro H H' h hs k
      rw [em] at k
      exact ⟨GT.gm _ _ h.1 hs fun q m => k q (by rcases List.mem_cons.mp m with rfl | m; exact List.mem_cons_self ..; exact List.mem_cons_of_mem _ (List.mem_append_left _ m)), h.2.mono hs fun o => k cl (List.mem_cons_of_mem _ (List.mem_append_right _ (by simp))) o⟩
    · intro q m
      rw [em] at m
      rcases List.mem_cons.mp m with rfl | m
      · exact .inl (List.mem_cons_self ..)
      · rcases List.mem_append.mp m with m | m
        · exact .inl (List.mem_cons_of_mem _ m)
        · rw [List.mem_singleton.mp m]
          exact .inr ⟨ncl, h0 r.ncl, _, r.ecl⟩
    · rw [em, List.nodup_cons, List.nodup_append]
      refine ⟨fun m => ?_, nd2, by simp, fun p hp q hq e => nclg (by rw [← List.mem_singleton.mp hq, ← e]; exact List.mem_cons_of_mem _ hp)⟩
      rcases List.mem_append.mp m with m | m
      · exact nd1 m
      · exact nclg (by rw [← List.mem_singleton.mp m]; exact List.mem_cons_self ..)
  have erl := g1.1
  have so : ∀ q ∈ [rl], Soft c H1 q := fun q m => by rw [List.mem_singleton.mp m]; exact soft_lst erl
  have kk : Keep [rl] H1 (upd H1 rl (.lst ((L.map fun p => V.ref p.1) ++ [.ref tp]))) := Keep.refl.upd (by simp)
  have nd' := (List.nodup_append.mp (List.nodup_cons.mp W2.nd).2).2.1
  have hrl := (List.nodup_cons.mp nd').1
  have hr2 : ∀ p ∈ L ++ [(tp, cl)], p.2 ≠ rl := fun p m e => hrl (by rw [← e]; exact List.mem_map_of_mem m)
  refine ⟨erl, W2.own (q := rl) (List.mem_cons_self ..) kk (soft_lst erl) ⟨_, upd_same⟩ ⟨by rw [upd_same]; simp, Paired.snoc (Paired.mapP (paired_mem g1.2) fun p t z => z.2.mono (.keep kk so) fun o e => (upd_ne (hr2 p (List.mem_append_left _ z.1))).trans e) (W2.g.2.mono (.keep kk so) fun o e => (upd_ne (hr2 (tp, cl) (by simp))).trans e)⟩ GT.gm, r.th.keep kk so (fun q hq m => ?_), fun q hq m => ?_, fun q hq => h0 (r.fr q hq)⟩
  · rw [List.mem_singleton.mp m] at hq
    exact n0 (r.fr _ hq) (List.mem_cons_of_mem _ (List.mem_append_right _ (List.mem_cons_self ..)))
  · rw [em] at m
    have n1 := n0 (r.fr q hq)
    rcases List.mem_cons.mp m with m | m
    · exact n1 (by rw [m]; exact List.mem_cons_self ..)
    · rcases List.mem_append.mp m with m | m
      · exact n1 (List.mem_cons_of_mem _ (List.mem_append_left _ m))
      · rcases List.mem_cons.mp m with m | m
        · exact n1 (by rw [m]; exact List.mem_cons_of_mem _ (List.mem_append_right _ (List.mem_cons_self ..)))
        · rcases List.mem_append.mp m with m | m
          · exact n1 (List.mem_cons_of_mem _ (List.mem_append_right _ (List.mem_cons_of_mem _ m)))
          · rw [List.mem_singleton.mp m] at hq
            exact r.dcl hq
def spLaw (K : PySem.W.Frag) : Sp := fun vs H Q _ => ∃ (a : Addr) (ns : List Int), vs = [.ref a] ∧ SqL K H a (ns.map V.int) ∧ ns.length ≤ 63 ∧ (∀ z ∈ ns, Builtin.Int.intBits z ≤ 1048576) ∧ ∀ H', Q (.bl true) H'
def J1 (K : PySem.W.Frag) (w : World) (c : Cs) (H0 : Hp) (s sc : Addr) (ns : List Int) (y rl : Addr) (m : Int) (k : Nat) (σ : L2.St) (H : Hp) : Prop := ∃ x S L, ∃ vs : List (Option V), σ = some (.ref sc) :: some (.ref s) :: some (.ref y) :: some (.int m) :: some (.ref rl) :: vs ∧ vs.length = 9 ∧ x.y = y ∧ LWT K w c H0 s sc ns x S rl L S.things H ∧ (∀ t ∈ S.things, SmT t ∧ TxT t) ∧ S.things[0]? = some (.kin "Error" none []) ∧ S.things.length = 1 + k
theorem intsN_sc {ns : List Nat} : (intsN ns).all scV = true := by
  rw [List.all_eq_true]
  intro v hv
  obtain ⟨n, _, rfl⟩ := List.mem_map.mp hv
  rfl
structure PhI (H9 : Hp) (sd : Addr) (ts : List Th) (i : Nat) (H' : Hp) (kvs : List (Key × V)) : Prop where
  k : Keep [sd] H9 H'
  es : H' sd = some (.dK kvs)
  le : kvs.length ≤ i
  su : ∀ z, match valV kvs (.inr z) with
    | some v => ∃ q, v = .ref q ∧ H' q = some (.tup [.int (tallyN ts z : Nat), .int (tallyS ts z : Nat)])
    | none => tallyN ts z = 0 ∧ tallyS ts z = 0
theorem putK_len {kvs : List (Key × V)} {k : Key} {v : V} : (putK kvs k v).length ≤ kvs.length + 1 := by
  unfold putK
  split
  · rw [List.length_map]; omega
  · rw [List.length_append]; exact Nat.le_refl _
theorem childT_len {t : Th} (h : SmT t) : (childT t).length ≤ 2000 := by
  cases t with
  | var v => exact Nat.le_trans (refsR_len [v]) (by rw [List.length_singleton]; decide)
  | parts rs => exact Nat.le_trans (refsR_len _) (Nat.le_trans h (by decide))
  | cur rs => exact Nat.le_trans (refsR_len _) (Nat.le_trans h (by decide))
  | table rows => exact Nat.le_trans (refsR_len _) (by rw [List.length_map]; exact Nat.le_trans h (by decide))
  | inst o fs =>
    have h1 := refsR_len (fs.map fun z => z.2)
    rw [List.length_map] at h1
    have := h.1
    simp only [childT, List.length_cons]; omega
  | kin n p ms =>
    have := h.1
    simp only [childT, List.length_append, List.length_map]
    cases p <;> simp <;> omega
  | clo _ _ sc => exact Nat.le_trans h (by decide)
  | bound _ _ => exact (by decide : (2 : Nat) ≤ 2000)
theorem PhI.step {H9 H1 H2 : Hp} {sd p : Addr} {ts : List Th} {i : Nat} {t : Th} {kvs : List (Key × V)} (h : PhI H9 sd (ts.take i) i H1 kvs) (et : ts[i]? = some t) (s : ∀ {q : Addr} {o : HO}, H1 q = some o → H2 q = some o) (k : Keep [sd] H9 H2) (ep : H2 p = some (.tup [.int ((tallyN (ts.take i) (sortT t) : Nat) + 1), .int ((tallyS (ts.take i) (sortT t) : Nat) + (sizeT t : Nat))])) :
    PhI H9 sd (ts.take (i + 1)) (i + 1) (upd H2 sd (.dK (putK kvs (.inr (sortT t)) (.ref p)))) (putK kvs (.inr (sortT t)) (.ref p)) := by
  have es2 := s h.es
  have up : ∀ {q : Addr} {xs : List V}, H2 q = some (.tup xs) → upd H2 sd (.dK (putK kvs (.inr (sortT t)) (.ref p))) q = some (.tup xs) := fun e => (upd_ne (fun z => by rw [z, es2] at e; cases e)).trans e
  refine ⟨k.upd (by simp), upd_same, Nat.le_trans putK_len (Nat.succ_le_succ h.le), fun z => ?_⟩
  rw [valV_put, take_get et, tallyN_snoc, tallyS_snoc]
  by_cases e : z = sortT t
  · subst e
    rw [if_pos rfl, if_pos rfl, if_pos rfl]
    exact ⟨p, rfl, up ep⟩
  · have ne : ¬ (Sum.inr z : Key) = .inr (sortT t) := fun q => e (Sum.inr.inj q)
    have ne2 : ¬ sortT t = z := fun q => e q.symm
    rw [if_neg ne, if_neg ne2, if_neg ne2]
    have hz := h.su z
    split at hz
    · rename_i v ev
      obtain ⟨q, rfl, eq⟩ := hz
      exact ⟨q, rfl, up (s eq)⟩
    · rename_i ev
      exact hz
def J2 (y rl sc s : Addr) (d : Nat) (S : SV) (H9 : Hp) (sd : Addr) (i : Nat) (σ : L2.St) (H' : Hp) : Prop := ∃ kvs u5 u6 u8 u9 u10 u11 u12 u13, PhI H9 sd (S.things.take i) i H' kvs ∧ σ = [some (.ref sc), some (.ref s), some (.ref y), some (.int (1 + (d : Nat))), some (.ref rl), u5, u6, some (.ref sd), u8, u9, u10, u11, u12, u13]
theorem nine {vs : List (Option V)} (h : vs.length = 9) : ∃ v5 v6 v7 v8 v9 v10 v11 v12 v13, vs = [v5, v6, v7, v8, v9, v10, v11, v12, v13] := by
  match vs, h with
  | [a, b, c, d, e, f, g, i, j], _ => exact ⟨a, b, c, d, e, f, g, i, j, rfl⟩
set_option maxHeartbeats 16000000 in
theorem law_has {fa : Addr} {fd : FuncData} (F : Fun K "law" "law" s_law fa fd) (T : Txt K mg c) (H_law_begin : Has P w K mg base CX0 "_law_begin" 1 ["script", "k"] (spBegin K)) (H_law_draw : Has P w K mg base CX0 "_law_draw" 2 ["state", "many"] (spDraw K)) (M_Store : HasC P w K mg base CX0 c.Store "Store" 3 ["self", "lines"] (spStore w K c)) (M_Store_make : HasM P w K mg base CX0 c.Store "make" 3 ["self", "thing"] (spMake w c)) (H_children_of : Has P w K mg base CX0 "children_of" 3 ["store", "number"] (spChildren w c)) (H_size_of : Has P w K mg base CX0 "size_of" 3 ["store", "number"] (spSize w c)) (H_sort_of : Has P w K mg base CX0 "sort_of" 1 ["store", "number"] (spSort w c)) (H_counts_of : Has P w K mg base CX0 "counts_of" 4 ["store"] (spCounts w c))
    (H_law_is_integer : Has P w K mg base CX0 "_law_is_integer" 1 ["told"] spIsInt) (H_law_made : Has P w K mg base CX0 "_law_made" 6 ["state", "many"] (spRow K w c)) : FnOk P w K mg base CX0 7 fa fd ["script"] (spLaw K) := by
  have Sc := sc_law
  refine F.ok Sc (fun vs H Q E h => ?_) (fun cdv A outer s H vs Q E hr h => ?_)
  · obtain ⟨a, ns, rfl, _⟩ := h; rfl
  · obtain ⟨sc, ns, rfl, hS, hn, hb, hq⟩ := h
    refine ⟨_, (pss_cons (ps_set (i := 1) Sc.nd rfl (.inl rfl) (fe_call H_law_begin (hr.mono (by walk_at "rm")) (by rfl) pass0 (pa_cons (fe_var 0) (pa_cons pe_int pa_nil))))
      (pss_cons (ps_set (i := 2) Sc.nd rfl (.inl rfl) (fe_make (k := _) M_Store (hr.mono (by walk_at "rm")) (by rfl) pass0 (pa_cons (fe_lst pa_nil) pa_nil)))
      (pss_cons (ps_set (i := 3) Sc.nd rfl (.inl rfl) (pe_op op_fAdd pe_int (fe_call H_law_draw (hr.mono (by walk_at "rm")) (by rfl) pass0 (pa_cons (fe_var 1) (pa_cons pe_int pa_nil)))))
      (pss_cons (ps_set (i := 4) Sc.nd rfl (.inl rfl) (fe_lst (pa_cons (fe_tup (pa_cons pe_non (pa_cons pe_str (pa_cons pe_int (pa_cons (fe_lst pa_nil) pa_nil))))) pa_nil)))
      (pss_cons (ps_for PassesOwn.never rfl (pi_range1 (by rfl) T.no_range (pa_cons (pe_op op_fSub (fe_var 3) pe_int) pa_nil)) (pg_name (i := 5) Sc.nd rfl (.inl rfl)) (pss_cons (ps_set (i := 6) Sc.nd rfl (.inl rfl) (fe_call H_law_made (hr.mono (by walk_at "rm")) (by rfl) pass0 (pa_cons (fe_var 1) (pa_cons (fe_var 3) pa_nil))))
      (pss_cons (ps_expr (fe_bm PySem.F.plainAttrs_list PySem.F.slot_list_append PySem.F.type_list_append isLst_ty mt_fAppend (fe_var 4) (pa_cons (fe_var 6) pa_nil)))
      (pss_one (ps_expr (fe_meth M_Store_make T.cl_Store (hr.mono (by walk_at "rm")) pass0 (fe_var 2) (pa_cons (pe_ix ix_fx (fe_var 6) pe_int (fun _ _ => rfl)) pa_nil)))))))
      (pss_cons (ps_set (i := 7) Sc.nd rfl (.inl rfl) fe_dnew)
      (pss_cons (ps_for PassesOwn.never rfl (pi_range1 (by rfl) T.no_range (pa_cons (fe_var 3) pa_nil)) (pg_name (i := 5) Sc.nd rfl (.inl rfl)) (pss_cons (ps_set (i := 8) Sc.nd rfl (.inl rfl) (fe_call H_children_of (hr.mono (by walk_at "rm")) (by rfl) pass0 (pa_cons (fe_var 2) (pa_cons (fe_var 5) pa_nil))))
      (pss_cons (ps_set (i := 9) Sc.nd rfl (.inl rfl) (fe_call H_size_of (hr.mono (by walk_at "rm")) (by rfl) pass0 (pa_cons (fe_var 2) (pa_cons (fe_var 5) pa_nil))))
      (pss_cons (ps_if (PW.pt (pw_or (pt_not (pt_val (pe_callB (call_fIsiA T.kit) (by rfl) T.no_isinstance (by decide +kernel) (pa_cons (fe_var 8) (pa_cons (fe_ty (n := "list") (by rfl) T.no_list (by decide +kernel)) pa_nil))))) (pw_or (pt_cmpR (op_fNe hr.units) (fe_var 8) (pe_ix ix_fx (pe_ix ix_fx (fe_var 4) (fe_var 5) (fun _ _ => rfl)) pe_int (fun _ _ => rfl)) (nomark _)) (pw_or (pt_not (pt_val (fe_call H_law_is_integer (hr.mono (by walk_at "rm")) (by rfl) pass0 (pa_cons (fe_var 9) pa_nil)))) (pw_or1 (pt_cmpR (op_fNe hr.units) (fe_var 9) (pe_ix ix_fx (pe_ix ix_fx (fe_var 4) (fe_var 5) (fun _ _ => rfl)) pe_int (fun _ _ => rfl)) (nomark _))))))) (pss_one (ps_ret pe_bl)) pss_nil)
      (pss_cons (ps_if (pt_cmpR (op_fNe hr.units) (fe_call H_sort_of (hr.mono (by walk_at "rm")) (by rfl) pass0 (pa_cons (fe_var 2) (pa_cons (fe_var 5) pa_nil))) (pe_ix ix_fx (pe_ix ix_fx (fe_var 4) (fe_var 5) (fun _ _ => rfl)) pe_int (fun _ _ => rfl)) (nomark _)) (pss_one (ps_ret pe_bl)) pss_nil)
      (pss_cons (ps_expr (fe_bm PySem.F.plainAttrs_list PySem.F.slot_list_append PySem.F.type_list_append isLst_ty mt_fAppend (fe_var 8) (pa_cons pe_int pa_nil)))
      (pss_cons (ps_set (i := 10) Sc.nd rfl (.inl rfl) (pe_getD (hu_of hr) (fe_var 7) (pe_ix ix_fx (pe_ix ix_fx (fe_var 4) (fe_var 5) (fun _ _ => rfl)) pe_int (fun _ _ => rfl)) (fe_tup (pa_cons pe_int (pa_cons pe_int pa_nil))) ⟨by rfl, by rfl, by rfl, by rfl⟩))
      (pss_one (ps_putK (hu_of hr) (fe_var 7) (pe_ix ix_fx (pe_ix ix_fx (fe_var 4) (fe_var 5) (fun _ _ => rfl)) pe_int (fun _ _ => rfl)) (fe_tup (pa_cons (pe_op op_fAdd (pe_ix ix_fx (fe_var 10) pe_int (fun _ _ => rfl)) pe_int) (pa_cons (pe_op op_fAdd (pe_ix ix_fx (fe_var 10) pe_int (fun _ _ => rfl)) (pe_ix ix_fx (pe_ix ix_fx (fe_var 4) (fe_var 5) (fun _ _ => rfl)) pe_int (fun _ _ => rfl))) pa_nil))) rfl)))))))))
      (pss_cons (ps_set (i := 11) Sc.nd rfl (.inl rfl) (fe_call H_counts_of (hr.mono (by walk_at "rm")) (by rfl) pass0 (pa_cons (fe_var 2) pa_nil)))
      (pss_cons (ps_if (PW.pt (pw_or (pt_not (pt_val (pe_callB (call_fIsiA T.kit) (by rfl) T.no_isinstance (by decide +kernel) (pa_cons (fe_var 11) (pa_cons (fe_ty (n := "list") (by rfl) T.no_list (by decide +kernel)) pa_nil))))) (pw_or (pt_cmpR (op_fNe hr.units) (pe_callB call_fLen (by rfl) T.no_len (by decide +kernel) (pa_cons (fe_var 11) pa_nil)) pe_int (nomark _)) (pw_or1 (pt_cmpR (op_fNe hr.units) (pe_callB call_fLen (by rfl) T.no_len (by decide +kernel) (pa_cons (fe_fld (fe_var 2) T.pl_things rfl) pa_nil)) (fe_var 3) (nomark _)))))) (pss_one (ps_ret pe_bl)) pss_nil)
      (pss_cons (ps_set (i := 12) Sc.nd rfl (.inl rfl) (fe_tup (pa_cons pe_str (pa_cons pe_str (pa_cons pe_str (pa_cons pe_str (pa_cons pe_str (pa_cons pe_str (pa_cons pe_str (pa_cons pe_str pa_nil))))))))))
      (pss_cons (ps_for PassesOwn.never rfl (pi_range1 (by rfl) T.no_range (pa_cons pe_int pa_nil)) (pg_name (i := 5) Sc.nd rfl (.inl rfl)) (pss_cons (ps_set (i := 13) Sc.nd rfl (.inl rfl) (pe_getD (hu_of hr) (fe_var 7) (pe_ix ix_fx (fe_var 12) (fe_var 5) (fun _ _ => rfl)) (fe_tup (pa_cons pe_int (pa_cons pe_int pa_nil))) ⟨by rfl, by rfl, by rfl, by rfl⟩))
      (pss_cons (ps_if (PW.pt (pw_or (pt_cmpR (op_fNe hr.units) (pe_callTy (call_fListD rfl) (by rfl) T.no_list (by decide +kernel) (pa_cons (pe_ix ix_fx (fe_var 11) (fe_var 5) (fun _ _ => rfl)) pa_nil)) (fe_lst (pa_cons pe_str (pa_cons pe_str (pa_cons pe_str pa_nil)))) (nomark _)) (pw_or1 (pt_cmpR (op_fNe hr.units) (pe_getK (hu_of hr) (pe_ix ix_fx (fe_var 11) (fe_var 5) (fun _ _ => rfl)) pe_str (fun _ _ => rfl)) (pe_ix ix_fx (fe_var 12) (fe_var 5) (fun _ _ => rfl)) (nomark _))))) (pss_one (ps_ret pe_bl)) pss_nil)
      (pss_one (ps_if (PW.pt (pw_or (pt_cmpR (op_fNe hr.units) (pe_getK (hu_of hr) (pe_ix ix_fx (fe_var 11) (fe_var 5) (fun _ _ => rfl)) pe_str (fun _ _ => rfl)) (pe_ix ix_fx (fe_var 13) pe_int (fun _ _ => rfl)) (nomark _)) (pw_or1 (pt_cmpR (op_fNe hr.units) (pe_getK (hu_of hr) (pe_ix ix_fx (fe_var 11) (fe_var 5) (fun _ _ => rfl)) pe_str (fun _ _ => rfl)) (pe_ix ix_fx (fe_var 13) pe_int (fun _ _ => rfl)) (nomark _))))) (pss_one (ps_ret pe_bl)) pss_nil)))))
      (pss_one (ps_ret (pe_cmpR (op_fEq hr.units) (fe_call H_children_of (hr.mono (by walk_at "rm")) (by rfl) pass0 (pa_cons (fe_var 2) (pa_cons pe_int pa_nil))) (fe_lst pa_nil) (nomark _))))))))))))))), ?_⟩
    walk_at "fx0"
    walk_at "ox"
    refine ⟨by decide, ?_⟩
    intro s H1 ns1 sm1 es
    have D : Dr K H s sc ns H1 := ⟨⟨0, 0, es, by decide, by decide⟩, hS, sm1, ns1, hn⟩
    walk_at "ox"
    intro l0 H2 nl0 s2 el0
    refine ⟨[], rl_l el0, fun x H3 St s3 hfr => ?_⟩
    have W0 : Wd K w c H s sc ns x (st0 []) (fun _ => True) [] H3 := by
      refine ⟨(D.same s2).same s3, St, trivial, fun _ _ _ _ _ => trivial, (fun q m => by cases m), ?_, ?_⟩
      · rw [List.append_nil, List.nodup_cons]
        exact ⟨(fun m => by have := hfr s m; rw [s2 _ _ es] at this; cases this), St.nd⟩
      · intro q m
        rw [List.append_nil] at m
        rcases List.mem_cons.mp m with rfl | m
        · exact ns1
        · exact (sm1.trans s2).free (hfr q m)
    walk_at "ox"
    refine ⟨H, sc, ns, W0.dr, by omega, by omega, fun H4 d kp D4 d0 d1 => ?_⟩
    have W4 := W0.draw kp D4
    obtain ⟨d, rfl⟩ := Int.eq_ofNat_of_zero_le d0
    walk_at "ox"
    intro cl H5 ncl s5 ecl tp H6 ntp s6 etp rl H7 nrl s7 erl
    have S7 := (s5.trans s6).trans s7
    have W7 : LWT K w c H s sc ns x (st0 []) rl [(tp, cl)] (st0 []).things H7 := by
      have W := W4.grow (G' := GT c rl [(tp, cl)] (st0 []).things) (qs := [rl, cl]) S7 ?_ ?_ ?_ ⟨erl, .cons ⟨_, s7 _ _ etp, s7 _ _ (s6 _ _ ecl)⟩ .nil⟩ (fun H H' h hs k => GT.gm H H' h hs k)
      · exact W
      · intro q m
        simp only [List.mem_cons, List.not_mem_nil, or_false] at m
        rcases m with rfl | rfl
        · exact (s5.trans s6).free nrl
        · exact ncl
      · have : rl ≠ cl := fun z => by rw [z, s6 _ _ ecl] at nrl; cases nrl
        simp [this]
      · intro q m
        simp only [List.mem_cons, List.not_mem_nil, or_false] at m
        rcases m with rfl | rfl
        · exact ⟨_, erl⟩
        · exact ⟨_, s7 _ _ (s6 _ _ ecl)⟩
    refine cut_ fun N hN => for_ ?_
    walk_at "ox"
    refine ⟨by omega, by omega, ?_⟩
    refine loop_range (J1 K w c H s sc ns x.y rl (1 + (d : Nat))) ⟨x, st0 [], [(tp, cl)], _, rfl, rfl, rfl, W7, (fun t m => by rw [List.mem_singleton.mp m]; exact ⟨⟨by simp, List.nodup_nil⟩, by show Str.length _ ≤ 1000; decide⟩), rfl, rfl⟩ ?_ ?_
    · rintro k σ H8 hk ⟨X, S, L, vs, rfl, hvs, ey, W, hsm, hsz, hsl⟩
      obtain ⟨v5, v6, v7, v8, v9, v10, v11, v12, v13, rfl⟩ := nine hvs
      rw [← ey]
      walk_at "ox"
      refine ⟨H, sc, ns, Wd.dr W, by omega, by omega, fun tp2 a b t cl2 H9 D9 r => ?_⟩
      obtain ⟨q1, q2, q3, q4, q5⟩ := LWT.made W D9 r
      have hlL : L.length = S.things.length := Paired.length (Wd.g W).2
      walk_at "ox"
      simp only [q1]
      have st9 := Wd.st q2
      obtain ⟨sdx, es9⟩ := st9.st
      have nhf : ∀ q ∈ footT a b, q ∉ X.foot := fun q m n => q4 q m (List.mem_cons_of_mem _ (List.mem_append_left _ n))
      have so9 : ∀ p ∈ [rl], Soft c H9 p := fun p m => by rw [List.mem_singleton.mp m]; exact soft_lst q1
      have htp := HardStay.keep (c := c) (ps := [rl]) (H := H9) (H' := upd H9 rl (.lst ((L.map fun p => V.ref p.1) ++ [.ref tp2]))) (Keep.refl.upd (by simp)) so9 _ _ r.tup (Hard.t _)
      refine ⟨trivial, len_line' (by rw [List.length_map]; omega), by rw [es9]; exact ⟨rfl, rfl⟩, _, rl_t htp, _, rfl, ?_⟩
      refine ⟨X, S, b, t, rfl, st9, q3, r.nd, nhf, by omega, fun rr H10 nr k10 st10 hrr => ?_⟩
      have W10 := Wd.make2 q2 q4 q5 k10 st10
      refine ⟨X.add a b, S.add t, L ++ [(tp2, cl2)], _, rfl, rfl, rfl, W10, fun t' m => ?_, ?_, ?_⟩
      · rcases List.mem_append.mp (show t' ∈ S.things ++ [t] from m) with m | m
        · exact hsm _ m
        · rw [List.mem_singleton.mp m]; exact ⟨r.sm, r.tx⟩
      · show (S.things ++ [t])[0]? = _
        rw [List.getElem?_append_left (by omega)]; exact hsz
      · show (S.things ++ [t]).length = _
        rw [List.length_append, hsl]; rfl
    · rintro σ H8 ⟨X, S, L, vs, rfl, hvs, ey, W, hsm, hsz, hsl⟩
      obtain ⟨v5, v6, v7, v8, v9, v10, v11, v12, v13, rfl⟩ := nine hvs
      refine hN _ _ ?_
      rw [← ey]
      walk_at "ox"
      intro sd H9 nsd s9 esd
      have X9 := (Wd.st W).same s9
      have G9 : GT c rl L S.things H9 := GT.gm _ _ (Wd.g W) (.same s9) fun q _ o e => s9 _ _ e
      have hz0 : S.things[0]? = some (.kin "Error" none []) := hsz
      have hd17 : S.things.length = 1 + d := by rw [hsl]; omega
      refine cut_ fun N2 hN2 => for_ ?_
      walk_at "ox"
      refine ⟨by omega, by omega, ?_⟩
      refine loop_range (J2 X.y rl sc s d S H9 sd) ⟨[], _, _, _, _, _, _, _, _, ⟨fun a o _ e => e, esd, Nat.le_refl _, fun z => ⟨rfl, rfl⟩⟩, rfl⟩ ?_ ?_
      · rintro k σ H10 hk ⟨kvs, u5, u6, u8, u9, u10, u11, u12, u13, hJ, rfl⟩
        obtain ⟨t, et⟩ : ∃ t, S.things[k]? = some t := ⟨S.things[k]'(by omega), List.getElem?_eq_getElem _⟩
        obtain ⟨hm, hx⟩ := hsm t (List.mem_of_getElem? et)
        have X10 := X9.keep hJ.k (fun p m => by rw [List.mem_singleton.mp m]; exact soft_dk esd) fun q m n => by
          rw [List.mem_singleton.mp n] at m
          obtain ⟨o, e⟩ := (Wd.st W).live _ m
          rw [nsd] at e; cases e
        have hlL : L.length = S.things.length := Paired.length G9.2
        obtain ⟨p, ep⟩ : ∃ p, L[k]? = some p := ⟨L[k]'(by omega), List.getElem?_eq_getElem _⟩
        obtain ⟨t', et', v0, etp0, ecl0⟩ := paired_get G9.2 ep
        rw [et] at et'
        cases et'
        have nsq : ∀ {q : Addr} {o : HO}, H8 q = some o → q ≠ sd := fun e z => by rw [z, nsd] at e; cases e
        have hrl10 : H10 rl = some (.lst (L.map fun p => V.ref p.1)) := hJ.k _ _ (by simpa using nsq (Wd.g W).1) G9.1
        obtain ⟨_, et8, v8', etp8, ecl8⟩ := paired_get (Wd.g W).2 ep
        have hcl10 := hJ.k _ _ (by simpa using nsq ecl8) ecl0
        have htp10 := hJ.k _ _ (by simpa using nsq etp8) etp0
        have hix : atI (L.map fun p => V.ref p.1) (k : Nat) = some (.ref p.1) := atI_nat (by rw [List.getElem?_map, ep]; rfl)
        walk_at "ox"
        refine ⟨X, S, k, t, rfl, rfl, X10, et, hm, fun ch H11 nch s11 ech => ?_⟩
        walk_at "ox"
        refine ⟨X, S, k, t, rfl, rfl, X10.same s11, et, hm, hx, fun H12 s12 => ?_⟩
        have S12 := s11.trans s12
        walk_at "ox"
        refine cut_ fun N3 hN3 => ifs_ ?_
        walk_at "ox"
        refine ⟨.type "list", by rw [s12 _ _ ech], ?_⟩
        repeat (walk_at "oxs")
        have ech12 := s12 _ _ ech
        have erl12 := S12 _ _ hrl10
        have etp12 := S12 _ _ htp10
        have ecl12 := S12 _ _ hcl10
        refine ⟨_, rl_l erl12, _, hix, ?_⟩
        refine ⟨_, rl_t etp12, _, rfl, ?_⟩
        refine ⟨_, .lst (.inl (.inl ech12)) (dpAll_sc intsN_sc), _, .lst (.inl (.inl ecl12)) (dpAll_sc intsN_sc), lst_okd intsN_sc, lst_okd intsN_sc, ?_⟩
        rw [lst_eqv intsN_sc, if_neg (by simp)]
        unfold spIsInt
        repeat (walk_at "oxs")
        refine ⟨_, rl_l erl12, _, hix, ?_⟩
        refine ⟨_, rl_t etp12, _, rfl, ?_⟩
        repeat (walk_at "oxs")
        refine hN3 _ _ ?_
        walk_at "ox"
        refine cut_ fun N4 hN4 => ifs_ ?_
        walk_at "ox"
        refine ⟨X, S, k, t, rfl, rfl, X10.same S12, et, ?_⟩
        walk_at "ox"
        refine ⟨_, rl_l erl12, _, hix, ?_⟩
        refine ⟨_, rl_t etp12, _, rfl, ?_⟩
        repeat (walk_at "oxs")
        refine hN4 _ _ ?_
        have nchs : ch ≠ sd := fun z => by rw [z, hJ.es] at nch; cases nch
        have esd12 := S12 _ _ hJ.es
        simp only [tSeq]
        refine cut_ fun N5 hN5 => ?_
        walk_at "ox"
        simp only [ech12]
        have hlc : (childT t).length < 99999 := by have := childT_len hm; omega
        refine ⟨trivial, len_line' (by unfold intsN; rw [List.length_map]; omega), hN5 _ _ ?_⟩
        have k13 : Keep [ch] H12 (upd H12 ch (.lst (intsN (childT t) ++ [.int 3]))) := Keep.refl.upd (by simp)
        have nch9 : H9 ch = none := Keep.freeK hJ.k nch (by simpa using nchs)
        have K13 : Keep [sd] H9 (upd H12 ch (.lst (intsN (childT t) ++ [.int 3]))) := Keep.updN (hJ.k.trans (Keep.of S12)) nch9
        have u13 : ∀ {q : Addr} {o : HO}, H10 q = some o → upd H12 ch (.lst (intsN (childT t) ++ [.int 3])) q = some o := fun e => (upd_ne (ne_of_none e nch)).trans (S12 _ _ e)
        have S13 : Same H10 (upd H12 ch (.lst (intsN (childT t) ++ [.int 3]))) := fun _ _ e => u13 e
        generalize upd H12 ch (.lst (intsN (childT t) ++ [.int 3])) = H13 at k13 K13 u13 S13 ⊢
        have esd13 := S13 _ _ hJ.es
        have erl13 := S13 _ _ hrl10
        have etp13 := S13 _ _ htp10
        simp only [tSeq]
        refine cut_ fun N6 hN6 => ?_
        walk_at "ox"
        refine ⟨⟨_, .inl esd13⟩, ?_⟩
        refine ⟨_, rl_l erl13, _, hix, ?_⟩
        refine ⟨_, rl_t etp13, _, rfl, ?_⟩
        walk_at "ox"
        intro q0 H14 nq0 s14 eq0
        have esd14 := s14 _ _ esd13
        refine ⟨_, .inl esd14, ?_⟩
        have hsu := hJ.su (sortT t)
        obtain ⟨q, eqv, eqt⟩ : ∃ q, (valV kvs (.inr (sortT t))).getD (V.ref q0) = .ref q ∧ H14 q = some (.tup [.int (tallyN (S.things.take k) (sortT t) : Nat), .int (tallyS (S.things.take k) (sortT t) : Nat)]) := by
          split at hsu
          · rename_i v ev
            obtain ⟨q, rfl, e⟩ := hsu
            exact ⟨q, by rw [ev]; rfl, s14 _ _ (S13 _ _ e)⟩
          · rename_i ev
            refine ⟨q0, by rw [ev]; rfl, ?_⟩
            rw [hsu.1, hsu.2]; exact eq0
        rw [eqv]
        refine hN6 _ _ ?_
        have erl14 := s14 _ _ erl13
        have etp14 := s14 _ _ etp13
        walk_at "ox"
        refine ⟨_, rl_t eqt, _, rfl, ?_⟩
        walk_at "ox"
        refine ⟨_, rl_t eqt, _, rfl, ?_⟩
        walk_at "ox"
        refine ⟨_, rl_l erl14, _, hix, ?_⟩
        refine ⟨_, rl_t etp14, _, rfl, ?_⟩
        walk_at "ox"
        intro p2 H15 np2 s15 ep2
        refine ⟨_, rl_l (s15 _ _ erl14), _, hix, ?_⟩
        refine ⟨_, rl_t (s15 _ _ etp14), _, rfl, ?_⟩
        walk_at "ox"
        have hle := hJ.le
        refine ⟨kvs, s15 _ _ esd14, len_line' (by omega), _, _, _, _, _, _, _, _, _, hJ.step et (fun e => s15 _ _ (s14 _ _ (S13 _ _ e))) (K13.trans (Keep.of (s14.trans s15))) ep2, rfl⟩
      · rintro σ H10 ⟨kvs, u5, u6, u8, u9, u10, u11, u12, u13, hJ, rfl⟩
        refine hN2 _ _ ?_
        simp only [tSeq]
        refine cut_ fun N3 hN3 => ?_
        walk_at "ox"
        have htk : S.things.take (1 + (d : Nat) : Int).toNat = S.things := List.take_of_length_le (by omega)
        rw [htk] at hJ
        have X10 := X9.keep hJ.k (fun p m => by rw [List.mem_singleton.mp m]; exact soft_dk esd) fun q m n => by
          rw [List.mem_singleton.mp n] at m
          obtain ⟨o, e⟩ := (Wd.st W).live _ m
          rw [nsd] at e; cases e
        obtain ⟨sdx, es10⟩ := X10.st
        have hlenX : X.L.length = S.things.length := Paired.length X10.th
        refine ⟨X, S, rfl, X10, by omega, hsm, fun p ds H11 np s11 ep hds => ?_⟩
        refine hN3 _ _ ?_
        simp only [tSeq]
        have hld : ds.length = 8 := Paired.length hds
        have es11 := s11 _ _ es10
        refine cut_ fun N4 hN4 => ifs_ ?_
        walk_at "ox"
        refine ⟨.type "list", by rw [ep], ?_⟩
        repeat (walk_at "oxs")
        refine ⟨_, rl_l ep, ?_⟩
        rw [if_neg (by rw [List.length_map, hld]; simp)]
        repeat (first | walk_at "oxs" | simp only [es11])
        refine ⟨_, rl_l (s11 _ _ X10.et), ?_⟩
        rw [List.length_map, hlenX, if_neg (by omega)]
        refine hN4 _ _ ?_
        simp only [tSeq]
        walk_at "ox"
        intro tq H12 ntq s12 etq
        have ep12 := s12 _ _ ep
        refine cut_ fun N5 hN5 => for_ ?_
        walk_at "ox"
        refine ⟨by decide, by decide, ?_⟩
        have esd11 := s11 _ _ hJ.es
        refine loop_range (fun i σ H' => Same H12 H' ∧ ∃ u5 u8 u9 u10 u13, σ = [some (.ref sc), some (.ref s), some (.ref X.y), some (.int (1 + (d : Nat))), some (.ref rl), u5, u6, some (.ref sd), u8, u9, u10, some (.ref p), some (.ref tq), u13]) ⟨Same.refl _, _, _, _, _, _, rfl⟩ ?_ ?_
        · rintro i σ H13 hi ⟨s13, v5, v8, v9, v10, v13, rfl⟩
          have hi8 : i < sorts8.length := hi
          obtain ⟨z, ez⟩ : ∃ z, sorts8[i]? = some z := ⟨sorts8[i], List.getElem?_eq_getElem hi8⟩
          obtain ⟨dd, edd⟩ : ∃ dd, ds[i]? = some dd := ⟨ds[i]'(by omega), List.getElem?_eq_getElem _⟩
          obtain ⟨z', ez', hdd⟩ := paired_get hds edd
          rw [ez] at ez'
          cases ez'
          have hixz : atI (sorts8.map V.str) (i : Nat) = some (.str z) := atI_nat (by rw [List.getElem?_map, ez]; rfl)
          have hixd : atI (ds.map V.ref) (i : Nat) = some (.ref dd) := atI_nat (by rw [List.getElem?_map, edd]; rfl)
          have etq13 := s13 _ _ etq
          have ep13 := s13 _ _ ep12
          have hdd13 := s13 _ _ (s12 _ _ hdd)
          have S13 := (s11.trans s12).trans s13
          simp only [tSeq]
          walk_at "ox"
          have esd13 := s13 _ _ (s12 _ _ esd11)
          refine ⟨⟨_, .inl esd13⟩, ?_⟩
          refine ⟨_, rl_t etq13, _, hixz, ?_⟩
          walk_at "ox"
          intro q0 H14 nq0 s14 eq0
          refine ⟨_, .inl (s14 _ _ esd13), ?_⟩
          have hsu := hJ.su z
          obtain ⟨q, eqv, eqt⟩ : ∃ q, (valV kvs (.inr z)).getD (V.ref q0) = .ref q ∧ H14 q = some (.tup [.int (tallyN S.things z : Nat), .int (tallyS S.things z : Nat)]) := by
            split at hsu
            · rename_i v ev
              obtain ⟨q, rfl, e⟩ := hsu
              exact ⟨q, by rw [ev]; rfl, s14 _ _ (S13 _ _ e)⟩
            · rename_i ev
              refine ⟨q0, by rw [ev]; rfl, ?_⟩
              rw [hsu.1, hsu.2]; exact eq0
          rw [eqv]
          have ep14 := s14 _ _ ep13
          have hdd14 := s14 _ _ hdd13
          have etq14 := s14 _ _ etq13
          refine cut_ fun N7 hN7 => ifs_ ?_
          walk_at "ox"
          refine ⟨_, rl_l ep14, _, hixd, ?_⟩
          walk_at "ox"
          refine ⟨_, .inl hdd14, fun l1 H15 nl1 s15 el1 => ?_⟩
          intro l2 H16 nl2 s16 el2
          have hkeys : (rowD S.things z).map (fun kv => kV kv.1) = [V.str "sort", V.str "count", V.str "size"] := rfl
          rw [hkeys] at el1
          refine ⟨_, .lst (.inl (.inl (s16 _ _ el1))) (dpAll_sc rfl), _, .lst (.inl (.inl el2)) (dpAll_sc rfl), lst_okd rfl, lst_okd rfl, ?_⟩
          rw [lst_eqv rfl, if_neg (by simp)]
          have S16 := (s14.trans s15).trans s16
          refine ⟨_, rl_l (S16 _ _ ep13), _, hixd, ?_⟩
          refine ⟨_, .inl (S16 _ _ hdd13), _, rfl, ?_⟩
          refine ⟨_, rl_t (S16 _ _ etq13), _, hixz, ?_⟩
          repeat (walk_at "oxs")
          refine hN7 _ _ ?_
          dsimp only
          refine ifs_ ?_
          walk_at "ox"
          refine ⟨_, rl_l (S16 _ _ ep13), _, hixd, ?_⟩
          refine ⟨_, .inl (S16 _ _ hdd13), _, rfl, ?_⟩
          refine ⟨_, rl_t ((s15.trans s16) _ _ eqt), _, rfl, ?_⟩
          repeat (walk_at "oxs")
          refine ⟨_, rl_l (S16 _ _ ep13), _, hixd, ?_⟩
          refine ⟨_, .inl (S16 _ _ hdd13), _, rfl, ?_⟩
          refine ⟨_, rl_t ((s15.trans s16) _ _ eqt), _, rfl, ?_⟩
          repeat (walk_at "oxs")
          exact ⟨s13.trans S16, _, rfl⟩
        · rintro σ H13 ⟨s13, v5, v8, v9, v10, v13, rfl⟩
          refine hN5 _ _ ?_
          walk_at "ox"
          have S13 := (s11.trans s12).trans s13
          refine ⟨X, S, 0, _, rfl, rfl, X10.same S13, hz0, hsm _ (List.mem_of_getElem? hz0) |>.1, fun ch H14 nch s14 ech => ?_⟩
          intro l2 H15 nl2 s15 el2
          have hch : intsN (childT (.kin "Error" none [])) = [] := rfl
          rw [hch] at ech
          refine ⟨_, .lst (.inl (.inl (s15 _ _ ech))) (dpAll_sc rfl), _, .lst (.inl (.inl el2)) (dpAll_sc rfl), lst_okd rfl, lst_okd rfl, ?_⟩
          rw [lst_eqv rfl]
          exact hq _
end
section
variable {P : Program} {w : World} {K : PySem.W.Frag} {mg : Str → Option Value} {base : Heap} {c : Cs}
theorem law_fn {fa : Addr} {fd : FuncData} (F : Fun K "law" "law" s_law fa fd) (T : Txt K mg c)
    (a_Ref___init__ : AtM K c.Ref "__init__" "Ref.__init__" s_Ref___init__ ["self", "number"])
    (a_Builtin___init__ : AtM K c.Builtin "__init__" "Builtin.__init__" s_Builtin___init__ ["self", "name"])
    (a_key_of : At K mg "key_of" "key_of" s_key_of ["value"])
    (a_Parts___init__ : AtM K c.Parts "__init__" "Parts.__init__" s_Parts___init__ ["self", "held"])
    (a_Table___init__ : AtM K c.Table "__init__" "Table.__init__" s_Table___init__ ["self"])
    (a_Table_many : AtP K c.Table "many" "Table.many" s_Table_many ["self"])
    (a_Table_put : AtM K c.Table "put" "Table.put" s_Table_put ["self", "key", "value"])
    (a_Table_pairs : AtM K c.Table "pairs" "Table.pairs" s_Table_pairs ["self"])
    (a_Instance___init__ : AtM K c.Instance "__init__" "Instance.__init__" s_Instance___init__ ["self", "owner"])
    (a_Kin___init__ : AtM K c.Kin "__init__" "Kin.__init__" s_Kin___init__ ["self", "name", "parent"])
    (a_Closure___init__ : AtM K c.Closure "__init__" "Closure.__init__" s_Closure___init__ ["self", "number", "wanted", "scope"])
    (a_Bound___init__ : AtM K c.Bound "__init__" "Bound.__init__" s_Bound___init__ ["self", "owner", "function"])
    (a_Variable___init__ : AtM K c.Variable "__init__" "Variable.__init__" s_Variable___init__ ["self", "value"])
    (a_Cursor___init__ : AtM K c.Cursor "__init__" "Cursor.__init__" s_Cursor___init__ ["self", "rest"])
    (a_Store___init__ : AtM K c.Store "__init__" "Store.__init__" s_Store___init__ ["self", "lines"])
    (a_Store_make : AtM K c.Store "make" "Store.make" s_Store_make ["self", "thing"])
    (a_numbers_in : At K mg "numbers_in" "numbers_in" s_numbers_in ["values"])
    (a_values_of : At K mg "values_of" "values_of" s_values_of ["thing"])
    (a_children_of : At K mg "children_of" "children_of" s_children_of ["store", "number"])
    (a_sort_of : At K mg "sort_of" "sort_of" s_sort_of ["store", "number"])
    (a_letters : At K mg "letters" "letters" s_letters ["values"])
    (a_size_of : At K mg "size_of" "size_of" s_size_of ["store", "number"])
    (a_counts_of : At K mg "counts_of" "counts_of" s_counts_of ["store"])
    (a_law_cell : At K mg "_law_cell" "_law_cell" s_law_cell ["script", "k"])
    (a_law_is_integer : At K mg "_law_is_integer" "_law_is_integer" s_law_is_integer ["told"])
    (a_law_begin : At K mg "_law_begin" "_law_begin" s_law_begin ["script", "k"])
    (a_law_draw : At K mg "_law_draw" "_law_draw" s_law_draw ["state", "many"])
    (a_law_pick : At K mg "_law_pick" "_law_pick" s_law_pick ["state", "row"])
    (a_law_value : At K mg "_law_value" "_law_value" s_law_value ["state", "many"])
    (a_law_texts : At K mg "_law_texts" "_law_texts" s_law_texts ["values"])
    (a_law_refs : At K mg "_law_refs" "_law_refs" s_law_refs ["values"])
    (a_law_row : At K mg "_law_row" "_law_row" s_law_row ["state", "many"])
    (a_law_table : At K mg "_law_table" "_law_table" s_law_table ["state", "many"])
    (a_law_instance : At K mg "_law_instance" "_law_instance" s_law_instance ["state", "many"])
    (a_law_class : At K mg "_law_class" "_law_class" s_law_class ["state", "many"])
    (a_law_made : At K mg "_law_made" "_law_made" s_law_made ["state", "many"]) :
    FnOk P w K mg base CX0 7 fa fd ["script"] (spLaw K) := by
  have M_Ref := mk_Ref (P := P) (w := w) (base := base) a_Ref___init__ T 
  have M_Builtin := mk_Builtin (P := P) (w := w) (base := base) a_Builtin___init__ T 
  have H_key_of := ok_keyof (P := P) (w := w) (base := base) a_key_of T 
  have M_Parts := mk_Parts (P := P) (w := w) (base := base) a_Parts___init__ T 
  have M_Table := ok_mktab (P := P) (w := w) (base := base) a_Table___init__ T 
  have P_Table_many := ok_many (P := P) (w := w) (base := base) a_Table_many T 
  have M_Table_put := ok_put (P := P) (w := w) (base := base) a_Table_put T H_key_of
  have M_Table_pairs := ok_pairs (P := P) (w := w) (base := base) a_Table_pairs T 
  have M_Instance := mk_Instance (P := P) (w := w) (base := base) a_Instance___init__ T 
  have M_Kin := mk_Kin (P := P) (w := w) (base := base) a_Kin___init__ T 
  have M_Closure := mk_Closure (P := P) (w := w) (base := base) a_Closure___init__ T 
  have M_Bound := mk_Bound (P := P) (w := w) (base := base) a_Bound___init__ T 
  have M_Variable := mk_Variable (P := P) (w := w) (base := base) a_Variable___init__ T 
  have M_Cursor := mk_Cursor (P := P) (w := w) (base := base) a_Cursor___init__ T 
  have M_Store := ok_store (P := P) (w := w) (base := base) a_Store___init__ T M_Kin
  have M_Store_make := ok_make (P := P) (w := w) (base := base) a_Store_make T M_Ref
  have H_numbers_in := ok_nums (P := P) (w := w) (base := base) a_numbers_in T 
  have H_values_of := ok_valsof (P := P) (w := w) (base := base) a_values_of T M_Table_pairs
  have H_children_of := ok_children (P := P) (w := w) (base := base) a_children_of T H_numbers_in H_values_of
  have H_sort_of := ok_sort (P := P) (w := w) (base := base) a_sort_of T 
  have H_letters := ok_letters (P := P) (w := w) (base := base) a_letters T 
  have H_size_of := ok_size (P := P) (w := w) (base := base) a_size_of T H_letters H_values_of M_Table_pairs P_Table_many
  have H_counts_of := ok_counts (P := P) (w := w) (base := base) a_counts_of T H_sort_of H_size_of
  have H_law_cell := ok_cell (P := P) (w := w) (base := base) a_law_cell T 
  have H_law_is_integer := ok_isint (P := P) (w := w) (base := base) a_law_is_integer T 
  have H_law_begin := ok_begin (P := P) (w := w) (base := base) a_law_begin T 
  have H_law_draw := ok_draw (P := P) (w := w) (base := base) a_law_draw T H_law_cell
  have H_law_pick := ok_pick2 (P := P) (w := w) (base := base) a_law_pick T H_law_draw
  have H_law_value := ok_value (P := P) (w := w) (base := base) a_law_value T H_law_draw H_law_pick M_Ref M_Builtin
  have H_law_texts := ok_texts (P := P) (w := w) (base := base) a_law_texts T 
  have H_law_refs := ok_refs (P := P) (w := w) (base := base) a_law_refs T 
  have H_law_row := ok_row (P := P) (w := w) (base := base) a_law_row T H_law_draw H_law_value H_law_texts H_law_refs M_Parts M_Cursor M_Variable
  have H_law_table := ok_table (P := P) (w := w) (base := base) a_law_table T H_law_draw H_law_value H_law_texts H_law_refs M_Table M_Table_put
  have H_law_instance := ok_inst (P := P) (w := w) (base := base) a_law_instance T H_law_draw H_law_value H_law_texts H_law_refs M_Ref M_Instance
  have H_law_class := ok_class (P := P) (w := w) (base := base) a_law_class T H_law_draw H_law_pick H_law_refs M_Ref M_Kin
  have H_law_made := ok_made (P := P) (w := w) (base := base) a_law_made T H_law_draw H_law_row H_law_table H_law_instance H_law_class M_Ref M_Bound M_Closure
  exact law_has F T H_law_begin H_law_draw M_Store M_Store_make H_children_of H_size_of H_sort_of H_counts_of H_law_is_integer H_law_made
end
theorem all_mk {P : Program} {w : World} {K : PySem.W.Frag} {h : Heap} {mg : Str → Option Value} {fa : Addr} {C_Ref C_Builtin C_Parts C_Table C_Instance C_Kin C_Closure C_Bound C_Variable C_Cursor C_Store : Addr} (X : K.In h) (G : h.Ns mainGlobals mg) (hfa : mg "law" = some (.ref fa))
    (n_Ref : PySem.W.nsIn K mainGlobals "Ref" = some (some (.ref C_Ref)))
    (n_Builtin : PySem.W.nsIn K mainGlobals "Builtin" = some (some (.ref C_Builtin)))
    (n_Parts : PySem.W.nsIn K mainGlobals "Parts" = some (some (.ref C_Parts)))
    (n_Table : PySem.W.nsIn K mainGlobals "Table" = some (some (.ref C_Table)))
    (n_Instance : PySem.W.nsIn K mainGlobals "Instance" = some (some (.ref C_Instance)))
    (n_Kin : PySem.W.nsIn K mainGlobals "Kin" = some (some (.ref C_Kin)))
    (n_Closure : PySem.W.nsIn K mainGlobals "Closure" = some (some (.ref C_Closure)))
    (n_Bound : PySem.W.nsIn K mainGlobals "Bound" = some (some (.ref C_Bound)))
    (n_Variable : PySem.W.nsIn K mainGlobals "Variable" = some (some (.ref C_Variable)))
    (n_Cursor : PySem.W.nsIn K mainGlobals "Cursor" = some (some (.ref C_Cursor)))
    (n_Store : PySem.W.nsIn K mainGlobals "Store" = some (some (.ref C_Store)))
    (x_Ref : ClsFact K C_Ref)
    (x_Builtin : ClsFact K C_Builtin)
    (x_Parts : ClsFact K C_Parts)
    (x_Table : ClsFact K C_Table)
    (x_Instance : ClsFact K C_Instance)
    (x_Kin : ClsFact K C_Kin)
    (x_Closure : ClsFact K C_Closure)
    (x_Bound : ClsFact K C_Bound)
    (x_Variable : ClsFact K C_Variable)
    (x_Cursor : ClsFact K C_Cursor)
    (x_Store : ClsFact K C_Store)
    (ob : ObjFact K)
    (na__rows_Table : PySem.W.findIn K (.ref C_Table) "_rows" = some none)
    (na_function_Bound : PySem.W.findIn K (.ref C_Bound) "function" = some none)
    (na_held_Parts : PySem.W.findIn K (.ref C_Parts) "held" = some none)
    (na_lines_Store : PySem.W.findIn K (.ref C_Store) "lines" = some none)
    (na_methods_Kin : PySem.W.findIn K (.ref C_Kin) "methods" = some none)
    (na_name_Builtin : PySem.W.findIn K (.ref C_Builtin) "name" = some none)
    (na_name_Kin : PySem.W.findIn K (.ref C_Kin) "name" = some none)
    (na_named_Instance : PySem.W.findIn K (.ref C_Instance) "named" = some none)
    (na_number_Ref : PySem.W.findIn K (.ref C_Ref) "number" = some none)
    (na_number_Closure : PySem.W.findIn K (.ref C_Closure) "number" = some none)
    (na_output_Store : PySem.W.findIn K (.ref C_Store) "output" = some none)
    (na_owner_Instance : PySem.W.findIn K (.ref C_Instance) "owner" = some none)
    (na_owner_Bound : PySem.W.findIn K (.ref C_Bound) "owner" = some none)
    (na_parent_Kin : PySem.W.findIn K (.ref C_Kin) "parent" = some none)
    (na_rest_Cursor : PySem.W.findIn K (.ref C_Cursor) "rest" = some none)
    (na_scope_Closure : PySem.W.findIn K (.ref C_Closure) "scope" = some none)
    (na_taken_Store : PySem.W.findIn K (.ref C_Store) "taken" = some none)
    (na_things_Store : PySem.W.findIn K (.ref C_Store) "things" = some none)
    (na_value_Variable : PySem.W.findIn K (.ref C_Variable) "value" = some none)
    (na_wanted_Closure : PySem.W.findIn K (.ref C_Closure) "wanted" = some none)
    (oo_Ref_Table : PySem.W.kitOne K (.ref C_Ref) (.ref C_Table) = some (decide (C_Ref = C_Table)))
    (oo_Ref_Variable : PySem.W.kitOne K (.ref C_Ref) (.ref C_Variable) = some (decide (C_Ref = C_Variable)))
    (oo_Ref_Parts : PySem.W.kitOne K (.ref C_Ref) (.ref C_Parts) = some (decide (C_Ref = C_Parts)))
    (oo_Ref_Cursor : PySem.W.kitOne K (.ref C_Ref) (.ref C_Cursor) = some (decide (C_Ref = C_Cursor)))
    (oo_Ref_Instance : PySem.W.kitOne K (.ref C_Ref) (.ref C_Instance) = some (decide (C_Ref = C_Instance)))
    (oo_Ref_Kin : PySem.W.kitOne K (.ref C_Ref) (.ref C_Kin) = some (decide (C_Ref = C_Kin)))
    (oo_Ref_Closure : PySem.W.kitOne K (.ref C_Ref) (.ref C_Closure) = some (decide (C_Ref = C_Closure)))
    (oo_Ref_Bound : PySem.W.kitOne K (.ref C_Ref) (.ref C_Bound) = some (decide (C_Ref = C_Bound)))
    (oo_Ref_Ref : PySem.W.kitOne K (.ref C_Ref) (.ref C_Ref) = some (decide (C_Ref = C_Ref)))
    (oo_Ref_Builtin : PySem.W.kitOne K (.ref C_Ref) (.ref C_Builtin) = some (decide (C_Ref = C_Builtin)))
    (oo_Builtin_Table : PySem.W.kitOne K (.ref C_Builtin) (.ref C_Table) = some (decide (C_Builtin = C_Table)))
    (oo_Builtin_Variable : PySem.W.kitOne K (.ref C_Builtin) (.ref C_Variable) = some (decide (C_Builtin = C_Variable)))
    (oo_Builtin_Parts : PySem.W.kitOne K (.ref C_Builtin) (.ref C_Parts) = some (decide (C_Builtin = C_Parts)))
    (oo_Builtin_Cursor : PySem.W.kitOne K (.ref C_Builtin) (.ref C_Cursor) = some (decide (C_Builtin = C_Cursor)))
    (oo_Builtin_Instance : PySem.W.kitOne K (.ref C_Builtin) (.ref C_Instance) = some (decide (C_Builtin = C_Instance)))
    (oo_Builtin_Kin : PySem.W.kitOne K (.ref C_Builtin) (.ref C_Kin) = some (decide (C_Builtin = C_Kin)))
    (oo_Builtin_Closure : PySem.W.kitOne K (.ref C_Builtin) (.ref C_Closure) = some (decide (C_Builtin = C_Closure)))
    (oo_Builtin_Bound : PySem.W.kitOne K (.ref C_Builtin) (.ref C_Bound) = some (decide (C_Builtin = C_Bound)))
    (oo_Builtin_Ref : PySem.W.kitOne K (.ref C_Builtin) (.ref C_Ref) = some (decide (C_Builtin = C_Ref)))
    (oo_Builtin_Builtin : PySem.W.kitOne K (.ref C_Builtin) (.ref C_Builtin) = some (decide (C_Builtin = C_Builtin)))
    (oo_Parts_Table : PySem.W.kitOne K (.ref C_Parts) (.ref C_Table) = some (decide (C_Parts = C_Table)))
    (oo_Parts_Variable : PySem.W.kitOne K (.ref C_Parts) (.ref C_Variable) = some (decide (C_Parts = C_Variable)))
    (oo_Parts_Parts : PySem.W.kitOne K (.ref C_Parts) (.ref C_Parts) = some (decide (C_Parts = C_Parts)))
    (oo_Parts_Cursor : PySem.W.kitOne K (.ref C_Parts) (.ref C_Cursor) = some (decide (C_Parts = C_Cursor)))
    (oo_Parts_Instance : PySem.W.kitOne K (.ref C_Parts) (.ref C_Instance) = some (decide (C_Parts = C_Instance)))
    (oo_Parts_Kin : PySem.W.kitOne K (.ref C_Parts) (.ref C_Kin) = some (decide (C_Parts = C_Kin)))
    (oo_Parts_Closure : PySem.W.kitOne K (.ref C_Parts) (.ref C_Closure) = some (decide (C_Parts = C_Closure)))
    (oo_Parts_Bound : PySem.W.kitOne K (.ref C_Parts) (.ref C_Bound) = some (decide (C_Parts = C_Bound)))
    (oo_Parts_Ref : PySem.W.kitOne K (.ref C_Parts) (.ref C_Ref) = some (decide (C_Parts = C_Ref)))
    (oo_Parts_Builtin : PySem.W.kitOne K (.ref C_Parts) (.ref C_Builtin) = some (decide (C_Parts = C_Builtin)))
    (oo_Table_Table : PySem.W.kitOne K (.ref C_Table) (.ref C_Table) = some (decide (C_Table = C_Table)))
    (oo_Table_Variable : PySem.W.kitOne K (.ref C_Table) (.ref C_Variable) = some (decide (C_Table = C_Variable)))
    (oo_Table_Parts : PySem.W.kitOne K (.ref C_Table) (.ref C_Parts) = some (decide (C_Table = C_Parts)))
    (oo_Table_Cursor : PySem.W.kitOne K (.ref C_Table) (.ref C_Cursor) = some (decide (C_Table = C_Cursor)))
    (oo_Table_Instance : PySem.W.kitOne K (.ref C_Table) (.ref C_Instance) = some (decide (C_Table = C_Instance)))
    (oo_Table_Kin : PySem.W.kitOne K (.ref C_Table) (.ref C_Kin) = some (decide (C_Table = C_Kin)))
    (oo_Table_Closure : PySem.W.kitOne K (.ref C_Table) (.ref C_Closure) = some (decide (C_Table = C_Closure)))
    (oo_Table_Bound : PySem.W.kitOne K (.ref C_Table) (.ref C_Bound) = some (decide (C_Table = C_Bound)))
    (oo_Table_Ref : PySem.W.kitOne K (.ref C_Table) (.ref C_Ref) = some (decide (C_Table = C_Ref)))
    (oo_Table_Builtin : PySem.W.kitOne K (.ref C_Table) (.ref C_Builtin) = some (decide (C_Table = C_Builtin)))
    (oo_Instance_Table : PySem.W.kitOne K (.ref C_Instance) (.ref C_Table) = some (decide (C_Instance = C_Table)))
    (oo_Instance_Variable : PySem.W.kitOne K (.ref C_Instance) (.ref C_Variable) = some (decide (C_Instance = C_Variable)))
    (oo_Instance_Parts : PySem.W.kitOne K (.ref C_Instance) (.ref C_Parts) = some (decide (C_Instance = C_Parts)))
    (oo_Instance_Cursor : PySem.W.kitOne K (.ref C_Instance) (.ref C_Cursor) = some (decide (C_Instance = C_Cursor)))
    (oo_Instance_Instance : PySem.W.kitOne K (.ref C_Instance) (.ref C_Instance) = some (decide (C_Instance = C_Instance)))
    (oo_Instance_Kin : PySem.W.kitOne K (.ref C_Instance) (.ref C_Kin) = some (decide (C_Instance = C_Kin)))
    (oo_Instance_Closure : PySem.W.kitOne K (.ref C_Instance) (.ref C_Closure) = some (decide (C_Instance = C_Closure)))
    (oo_Instance_Bound : PySem.W.kitOne K (.ref C_Instance) (.ref C_Bound) = some (decide (C_Instance = C_Bound)))
    (oo_Instance_Ref : PySem.W.kitOne K (.ref C_Instance) (.ref C_Ref) = some (decide (C_Instance = C_Ref)))
    (oo_Instance_Builtin : PySem.W.kitOne K (.ref C_Instance) (.ref C_Builtin) = some (decide (C_Instance = C_Builtin)))
    (oo_Kin_Table : PySem.W.kitOne K (.ref C_Kin) (.ref C_Table) = some (decide (C_Kin = C_Table)))
    (oo_Kin_Variable : PySem.W.kitOne K (.ref C_Kin) (.ref C_Variable) = some (decide (C_Kin = C_Variable)))
    (oo_Kin_Parts : PySem.W.kitOne K (.ref C_Kin) (.ref C_Parts) = some (decide (C_Kin = C_Parts)))
    (oo_Kin_Cursor : PySem.W.kitOne K (.ref C_Kin) (.ref C_Cursor) = some (decide (C_Kin = C_Cursor)))
    (oo_Kin_Instance : PySem.W.kitOne K (.ref C_Kin) (.ref C_Instance) = some (decide (C_Kin = C_Instance)))
    (oo_Kin_Kin : PySem.W.kitOne K (.ref C_Kin) (.ref C_Kin) = some (decide (C_Kin = C_Kin)))
    (oo_Kin_Closure : PySem.W.kitOne K (.ref C_Kin) (.ref C_Closure) = some (decide (C_Kin = C_Closure)))
    (oo_Kin_Bound : PySem.W.kitOne K (.ref C_Kin) (.ref C_Bound) = some (decide (C_Kin = C_Bound)))
    (oo_Kin_Ref : PySem.W.kitOne K (.ref C_Kin) (.ref C_Ref) = some (decide (C_Kin = C_Ref)))
    (oo_Kin_Builtin : PySem.W.kitOne K (.ref C_Kin) (.ref C_Builtin) = some (decide (C_Kin = C_Builtin)))
    (oo_Closure_Table : PySem.W.kitOne K (.ref C_Closure) (.ref C_Table) = some (decide (C_Closure = C_Table)))
    (oo_Closure_Variable : PySem.W.kitOne K (.ref C_Closure) (.ref C_Variable) = some (decide (C_Closure = C_Variable)))
    (oo_Closure_Parts : PySem.W.kitOne K (.ref C_Closure) (.ref C_Parts) = some (decide (C_Closure = C_Parts)))
    (oo_Closure_Cursor : PySem.W.kitOne K (.ref C_Closure) (.ref C_Cursor) = some (decide (C_Closure = C_Cursor)))
    (oo_Closure_Instance : PySem.W.kitOne K (.ref C_Closure) (.ref C_Instance) = some (decide (C_Closure = C_Instance)))
    (oo_Closure_Kin : PySem.W.kitOne K (.ref C_Closure) (.ref C_Kin) = some (decide (C_Closure = C_Kin)))
    (oo_Closure_Closure : PySem.W.kitOne K (.ref C_Closure) (.ref C_Closure) = some (decide (C_Closure = C_Closure)))
    (oo_Closure_Bound : PySem.W.kitOne K (.ref C_Closure) (.ref C_Bound) = some (decide (C_Closure = C_Bound)))
    (oo_Closure_Ref : PySem.W.kitOne K (.ref C_Closure) (.ref C_Ref) = some (decide (C_Closure = C_Ref)))
    (oo_Closure_Builtin : PySem.W.kitOne K (.ref C_Closure) (.ref C_Builtin) = some (decide (C_Closure = C_Builtin)))
    (oo_Bound_Table : PySem.W.kitOne K (.ref C_Bound) (.ref C_Table) = some (decide (C_Bound = C_Table)))
    (oo_Bound_Variable : PySem.W.kitOne K (.ref C_Bound) (.ref C_Variable) = some (decide (C_Bound = C_Variable)))
    (oo_Bound_Parts : PySem.W.kitOne K (.ref C_Bound) (.ref C_Parts) = some (decide (C_Bound = C_Parts)))
    (oo_Bound_Cursor : PySem.W.kitOne K (.ref C_Bound) (.ref C_Cursor) = some (decide (C_Bound = C_Cursor)))
    (oo_Bound_Instance : PySem.W.kitOne K (.ref C_Bound) (.ref C_Instance) = some (decide (C_Bound = C_Instance)))
    (oo_Bound_Kin : PySem.W.kitOne K (.ref C_Bound) (.ref C_Kin) = some (decide (C_Bound = C_Kin)))
    (oo_Bound_Closure : PySem.W.kitOne K (.ref C_Bound) (.ref C_Closure) = some (decide (C_Bound = C_Closure)))
    (oo_Bound_Bound : PySem.W.kitOne K (.ref C_Bound) (.ref C_Bound) = some (decide (C_Bound = C_Bound)))
    (oo_Bound_Ref : PySem.W.kitOne K (.ref C_Bound) (.ref C_Ref) = some (decide (C_Bound = C_Ref)))
    (oo_Bound_Builtin : PySem.W.kitOne K (.ref C_Bound) (.ref C_Builtin) = some (decide (C_Bound = C_Builtin)))
    (oo_Variable_Table : PySem.W.kitOne K (.ref C_Variable) (.ref C_Table) = some (decide (C_Variable = C_Table)))
    (oo_Variable_Variable : PySem.W.kitOne K (.ref C_Variable) (.ref C_Variable) = some (decide (C_Variable = C_Variable)))
    (oo_Variable_Parts : PySem.W.kitOne K (.ref C_Variable) (.ref C_Parts) = some (decide (C_Variable = C_Parts)))
    (oo_Variable_Cursor : PySem.W.kitOne K (.ref C_Variable) (.ref C_Cursor) = some (decide (C_Variable = C_Cursor)))
    (oo_Variable_Instance : PySem.W.kitOne K (.ref C_Variable) (.ref C_Instance) = some (decide (C_Variable = C_Instance)))
    (oo_Variable_Kin : PySem.W.kitOne K (.ref C_Variable) (.ref C_Kin) = some (decide (C_Variable = C_Kin)))
    (oo_Variable_Closure : PySem.W.kitOne K (.ref C_Variable) (.ref C_Closure) = some (decide (C_Variable = C_Closure)))
    (oo_Variable_Bound : PySem.W.kitOne K (.ref C_Variable) (.ref C_Bound) = some (decide (C_Variable = C_Bound)))
    (oo_Variable_Ref : PySem.W.kitOne K (.ref C_Variable) (.ref C_Ref) = some (decide (C_Variable = C_Ref)))
    (oo_Variable_Builtin : PySem.W.kitOne K (.ref C_Variable) (.ref C_Builtin) = some (decide (C_Variable = C_Builtin)))
    (oo_Cursor_Table : PySem.W.kitOne K (.ref C_Cursor) (.ref C_Table) = some (decide (C_Cursor = C_Table)))
    (oo_Cursor_Variable : PySem.W.kitOne K (.ref C_Cursor) (.ref C_Variable) = some (decide (C_Cursor = C_Variable)))
    (oo_Cursor_Parts : PySem.W.kitOne K (.ref C_Cursor) (.ref C_Parts) = some (decide (C_Cursor = C_Parts)))
    (oo_Cursor_Cursor : PySem.W.kitOne K (.ref C_Cursor) (.ref C_Cursor) = some (decide (C_Cursor = C_Cursor)))
    (oo_Cursor_Instance : PySem.W.kitOne K (.ref C_Cursor) (.ref C_Instance) = some (decide (C_Cursor = C_Instance)))
    (oo_Cursor_Kin : PySem.W.kitOne K (.ref C_Cursor) (.ref C_Kin) = some (decide (C_Cursor = C_Kin)))
    (oo_Cursor_Closure : PySem.W.kitOne K (.ref C_Cursor) (.ref C_Closure) = some (decide (C_Cursor = C_Closure)))
    (oo_Cursor_Bound : PySem.W.kitOne K (.ref C_Cursor) (.ref C_Bound) = some (decide (C_Cursor = C_Bound)))
    (oo_Cursor_Ref : PySem.W.kitOne K (.ref C_Cursor) (.ref C_Ref) = some (decide (C_Cursor = C_Ref)))
    (oo_Cursor_Builtin : PySem.W.kitOne K (.ref C_Cursor) (.ref C_Builtin) = some (decide (C_Cursor = C_Builtin)))
    (oo_Store_Table : PySem.W.kitOne K (.ref C_Store) (.ref C_Table) = some (decide (C_Store = C_Table)))
    (oo_Store_Variable : PySem.W.kitOne K (.ref C_Store) (.ref C_Variable) = some (decide (C_Store = C_Variable)))
    (oo_Store_Parts : PySem.W.kitOne K (.ref C_Store) (.ref C_Parts) = some (decide (C_Store = C_Parts)))
    (oo_Store_Cursor : PySem.W.kitOne K (.ref C_Store) (.ref C_Cursor) = some (decide (C_Store = C_Cursor)))
    (oo_Store_Instance : PySem.W.kitOne K (.ref C_Store) (.ref C_Instance) = some (decide (C_Store = C_Instance)))
    (oo_Store_Kin : PySem.W.kitOne K (.ref C_Store) (.ref C_Kin) = some (decide (C_Store = C_Kin)))
    (oo_Store_Closure : PySem.W.kitOne K (.ref C_Store) (.ref C_Closure) = some (decide (C_Store = C_Closure)))
    (oo_Store_Bound : PySem.W.kitOne K (.ref C_Store) (.ref C_Bound) = some (decide (C_Store = C_Bound)))
    (oo_Store_Ref : PySem.W.kitOne K (.ref C_Store) (.ref C_Ref) = some (decide (C_Store = C_Ref)))
    (oo_Store_Builtin : PySem.W.kitOne K (.ref C_Store) (.ref C_Builtin) = some (decide (C_Store = C_Builtin)))
    (bo_NoneType_Table : PySem.W.kitOne K (.type "NoneType") (.ref C_Table) = some false)
    (bo_NoneType_Variable : PySem.W.kitOne K (.type "NoneType") (.ref C_Variable) = some false)
    (bo_NoneType_Parts : PySem.W.kitOne K (.type "NoneType") (.ref C_Parts) = some false)
    (bo_NoneType_Cursor : PySem.W.kitOne K (.type "NoneType") (.ref C_Cursor) = some false)
    (bo_NoneType_Instance : PySem.W.kitOne K (.type "NoneType") (.ref C_Instance) = some false)
    (bo_NoneType_Kin : PySem.W.kitOne K (.type "NoneType") (.ref C_Kin) = some false)
    (bo_NoneType_Closure : PySem.W.kitOne K (.type "NoneType") (.ref C_Closure) = some false)
    (bo_NoneType_Bound : PySem.W.kitOne K (.type "NoneType") (.ref C_Bound) = some false)
    (bo_NoneType_Ref : PySem.W.kitOne K (.type "NoneType") (.ref C_Ref) = some false)
    (bo_NoneType_Builtin : PySem.W.kitOne K (.type "NoneType") (.ref C_Builtin) = some false)
    (bo_bool_Table : PySem.W.kitOne K (.type "bool") (.ref C_Table) = some false)
    (bo_bool_Variable : PySem.W.kitOne K (.type "bool") (.ref C_Variable) = some false)
    (bo_bool_Parts : PySem.W.kitOne K (.type "bool") (.ref C_Parts) = some false)
    (bo_bool_Cursor : PySem.W.kitOne K (.type "bool") (.ref C_Cursor) = some false)
    (bo_bool_Instance : PySem.W.kitOne K (.type "bool") (.ref C_Instance) = some false)
    (bo_bool_Kin : PySem.W.kitOne K (.type "bool") (.ref C_Kin) = some false)
    (bo_bool_Closure : PySem.W.kitOne K (.type "bool") (.ref C_Closure) = some false)
    (bo_bool_Bound : PySem.W.kitOne K (.type "bool") (.ref C_Bound) = some false)
    (bo_bool_Ref : PySem.W.kitOne K (.type "bool") (.ref C_Ref) = some false)
    (bo_bool_Builtin : PySem.W.kitOne K (.type "bool") (.ref C_Builtin) = some false)
    (bo_int_Table : PySem.W.kitOne K (.type "int") (.ref C_Table) = some false)
    (bo_int_Variable : PySem.W.kitOne K (.type "int") (.ref C_Variable) = some false)
    (bo_int_Parts : PySem.W.kitOne K (.type "int") (.ref C_Parts) = some false)
    (bo_int_Cursor : PySem.W.kitOne K (.type "int") (.ref C_Cursor) = some false)
    (bo_int_Instance : PySem.W.kitOne K (.type "int") (.ref C_Instance) = some false)
    (bo_int_Kin : PySem.W.kitOne K (.type "int") (.ref C_Kin) = some false)
    (bo_int_Closure : PySem.W.kitOne K (.type "int") (.ref C_Closure) = some false)
    (bo_int_Bound : PySem.W.kitOne K (.type "int") (.ref C_Bound) = some false)
    (bo_int_Ref : PySem.W.kitOne K (.type "int") (.ref C_Ref) = some false)
    (bo_int_Builtin : PySem.W.kitOne K (.type "int") (.ref C_Builtin) = some false)
    (bo_str_Table : PySem.W.kitOne K (.type "str") (.ref C_Table) = some false)
    (bo_str_Variable : PySem.W.kitOne K (.type "str") (.ref C_Variable) = some false)
    (bo_str_Parts : PySem.W.kitOne K (.type "str") (.ref C_Parts) = some false)
    (bo_str_Cursor : PySem.W.kitOne K (.type "str") (.ref C_Cursor) = some false)
    (bo_str_Instance : PySem.W.kitOne K (.type "str") (.ref C_Instance) = some false)
    (bo_str_Kin : PySem.W.kitOne K (.type "str") (.ref C_Kin) = some false)
    (bo_str_Closure : PySem.W.kitOne K (.type "str") (.ref C_Closure) = some false)
    (bo_str_Bound : PySem.W.kitOne K (.type "str") (.ref C_Bound) = some false)
    (bo_str_Ref : PySem.W.kitOne K (.type "str") (.ref C_Ref) = some false)
    (bo_str_Builtin : PySem.W.kitOne K (.type "str") (.ref C_Builtin) = some false)
    (bo_list_Table : PySem.W.kitOne K (.type "list") (.ref C_Table) = some false)
    (bo_list_Variable : PySem.W.kitOne K (.type "list") (.ref C_Variable) = some false)
    (bo_list_Parts : PySem.W.kitOne K (.type "list") (.ref C_Parts) = some false)
    (bo_list_Cursor : PySem.W.kitOne K (.type "list") (.ref C_Cursor) = some false)
    (bo_list_Instance : PySem.W.kitOne K (.type "list") (.ref C_Instance) = some false)
    (bo_list_Kin : PySem.W.kitOne K (.type "list") (.ref C_Kin) = some false)
    (bo_list_Closure : PySem.W.kitOne K (.type "list") (.ref C_Closure) = some false)
    (bo_list_Bound : PySem.W.kitOne K (.type "list") (.ref C_Bound) = some false)
    (bo_list_Ref : PySem.W.kitOne K (.type "list") (.ref C_Ref) = some false)
    (bo_list_Builtin : PySem.W.kitOne K (.type "list") (.ref C_Builtin) = some false)
    (bo_tuple_Table : PySem.W.kitOne K (.type "tuple") (.ref C_Table) = some false)
    (bo_tuple_Variable : PySem.W.kitOne K (.type "tuple") (.ref C_Variable) = some false)
    (bo_tuple_Parts : PySem.W.kitOne K (.type "tuple") (.ref C_Parts) = some false)
    (bo_tuple_Cursor : PySem.W.kitOne K (.type "tuple") (.ref C_Cursor) = some false)
    (bo_tuple_Instance : PySem.W.kitOne K (.type "tuple") (.ref C_Instance) = some false)
    (bo_tuple_Kin : PySem.W.kitOne K (.type "tuple") (.ref C_Kin) = some false)
    (bo_tuple_Closure : PySem.W.kitOne K (.type "tuple") (.ref C_Closure) = some false)
    (bo_tuple_Bound : PySem.W.kitOne K (.type "tuple") (.ref C_Bound) = some false)
    (bo_tuple_Ref : PySem.W.kitOne K (.type "tuple") (.ref C_Ref) = some false)
    (bo_tuple_Builtin : PySem.W.kitOne K (.type "tuple") (.ref C_Builtin) = some false)
    (bo_dict_Table : PySem.W.kitOne K (.type "dict") (.ref C_Table) = some false)
    (bo_dict_Variable : PySem.W.kitOne K (.type "dict") (.ref C_Variable) = some false)
    (bo_dict_Parts : PySem.W.kitOne K (.type "dict") (.ref C_Parts) = some false)
    (bo_dict_Cursor : PySem.W.kitOne K (.type "dict") (.ref C_Cursor) = some false)
    (bo_dict_Instance : PySem.W.kitOne K (.type "dict") (.ref C_Instance) = some false)
    (bo_dict_Kin : PySem.W.kitOne K (.type "dict") (.ref C_Kin) = some false)
    (bo_dict_Closure : PySem.W.kitOne K (.type "dict") (.ref C_Closure) = some false)
    (bo_dict_Bound : PySem.W.kitOne K (.type "dict") (.ref C_Bound) = some false)
    (bo_dict_Ref : PySem.W.kitOne K (.type "dict") (.ref C_Ref) = some false)
    (bo_dict_Builtin : PySem.W.kitOne K (.type "dict") (.ref C_Builtin) = some false)
    (ob_Ref_bool : PySem.W.kitOne K (.ref C_Ref) (.type "bool") = some false)
    (ob_Ref_int : PySem.W.kitOne K (.ref C_Ref) (.type "int") = some false)
    (ob_Ref_str : PySem.W.kitOne K (.ref C_Ref) (.type "str") = some false)
    (ob_Ref_list : PySem.W.kitOne K (.ref C_Ref) (.type "list") = some false)
    (ob_Ref_tuple : PySem.W.kitOne K (.ref C_Ref) (.type "tuple") = some false)
    (ob_Ref_dict : PySem.W.kitOne K (.ref C_Ref) (.type "dict") = some false)
    (ob_Builtin_bool : PySem.W.kitOne K (.ref C_Builtin) (.type "bool") = some false)
    (ob_Builtin_int : PySem.W.kitOne K (.ref C_Builtin) (.type "int") = some false)
    (ob_Builtin_str : PySem.W.kitOne K (.ref C_Builtin) (.type "str") = some false)
    (ob_Builtin_list : PySem.W.kitOne K (.ref C_Builtin) (.type "list") = some false)
    (ob_Builtin_tuple : PySem.W.kitOne K (.ref C_Builtin) (.type "tuple") = some false)
    (ob_Builtin_dict : PySem.W.kitOne K (.ref C_Builtin) (.type "dict") = some false)
    (ob_Parts_bool : PySem.W.kitOne K (.ref C_Parts) (.type "bool") = some false)
    (ob_Parts_int : PySem.W.kitOne K (.ref C_Parts) (.type "int") = some false)
    (ob_Parts_str : PySem.W.kitOne K (.ref C_Parts) (.type "str") = some false)
    (ob_Parts_list : PySem.W.kitOne K (.ref C_Parts) (.type "list") = some false)
    (ob_Parts_tuple : PySem.W.kitOne K (.ref C_Parts) (.type "tuple") = some false)
    (ob_Parts_dict : PySem.W.kitOne K (.ref C_Parts) (.type "dict") = some false)
    (ob_Table_bool : PySem.W.kitOne K (.ref C_Table) (.type "bool") = some false)
    (ob_Table_int : PySem.W.kitOne K (.ref C_Table) (.type "int") = some false)
    (ob_Table_str : PySem.W.kitOne K (.ref C_Table) (.type "str") = some false)
    (ob_Table_list : PySem.W.kitOne K (.ref C_Table) (.type "list") = some false)
    (ob_Table_tuple : PySem.W.kitOne K (.ref C_Table) (.type "tuple") = some false)
    (ob_Table_dict : PySem.W.kitOne K (.ref C_Table) (.type "dict") = some false)
    (ob_Instance_bool : PySem.W.kitOne K (.ref C_Instance) (.type "bool") = some false)
    (ob_Instance_int : PySem.W.kitOne K (.ref C_Instance) (.type "int") = some false)
    (ob_Instance_str : PySem.W.kitOne K (.ref C_Instance) (.type "str") = some false)
    (ob_Instance_list : PySem.W.kitOne K (.ref C_Instance) (.type "list") = some false)
    (ob_Instance_tuple : PySem.W.kitOne K (.ref C_Instance) (.type "tuple") = some false)
    (ob_Instance_dict : PySem.W.kitOne K (.ref C_Instance) (.type "dict") = some false)
    (ob_Kin_bool : PySem.W.kitOne K (.ref C_Kin) (.type "bool") = some false)
    (ob_Kin_int : PySem.W.kitOne K (.ref C_Kin) (.type "int") = some false)
    (ob_Kin_str : PySem.W.kitOne K (.ref C_Kin) (.type "str") = some false)
    (ob_Kin_list : PySem.W.kitOne K (.ref C_Kin) (.type "list") = some false)
    (ob_Kin_tuple : PySem.W.kitOne K (.ref C_Kin) (.type "tuple") = some false)
    (ob_Kin_dict : PySem.W.kitOne K (.ref C_Kin) (.type "dict") = some false)
    (ob_Closure_bool : PySem.W.kitOne K (.ref C_Closure) (.type "bool") = some false)
    (ob_Closure_int : PySem.W.kitOne K (.ref C_Closure) (.type "int") = some false)
    (ob_Closure_str : PySem.W.kitOne K (.ref C_Closure) (.type "str") = some false)
    (ob_Closure_list : PySem.W.kitOne K (.ref C_Closure) (.type "list") = some false)
    (ob_Closure_tuple : PySem.W.kitOne K (.ref C_Closure) (.type "tuple") = some false)
    (ob_Closure_dict : PySem.W.kitOne K (.ref C_Closure) (.type "dict") = some false)
    (ob_Bound_bool : PySem.W.kitOne K (.ref C_Bound) (.type "bool") = some false)
    (ob_Bound_int : PySem.W.kitOne K (.ref C_Bound) (.type "int") = some false)
    (ob_Bound_str : PySem.W.kitOne K (.ref C_Bound) (.type "str") = some false)
    (ob_Bound_list : PySem.W.kitOne K (.ref C_Bound) (.type "list") = some false)
    (ob_Bound_tuple : PySem.W.kitOne K (.ref C_Bound) (.type "tuple") = some false)
    (ob_Bound_dict : PySem.W.kitOne K (.ref C_Bound) (.type "dict") = some false)
    (ob_Variable_bool : PySem.W.kitOne K (.ref C_Variable) (.type "bool") = some false)
    (ob_Variable_int : PySem.W.kitOne K (.ref C_Variable) (.type "int") = some false)
    (ob_Variable_str : PySem.W.kitOne K (.ref C_Variable) (.type "str") = some false)
    (ob_Variable_list : PySem.W.kitOne K (.ref C_Variable) (.type "list") = some false)
    (ob_Variable_tuple : PySem.W.kitOne K (.ref C_Variable) (.type "tuple") = some false)
    (ob_Variable_dict : PySem.W.kitOne K (.ref C_Variable) (.type "dict") = some false)
    (ob_Cursor_bool : PySem.W.kitOne K (.ref C_Cursor) (.type "bool") = some false)
    (ob_Cursor_int : PySem.W.kitOne K (.ref C_Cursor) (.type "int") = some false)
    (ob_Cursor_str : PySem.W.kitOne K (.ref C_Cursor) (.type "str") = some false)
    (ob_Cursor_list : PySem.W.kitOne K (.ref C_Cursor) (.type "list") = some false)
    (ob_Cursor_tuple : PySem.W.kitOne K (.ref C_Cursor) (.type "tuple") = some false)
    (ob_Cursor_dict : PySem.W.kitOne K (.ref C_Cursor) (.type "dict") = some false)
    (ob_Store_bool : PySem.W.kitOne K (.ref C_Store) (.type "bool") = some false)
    (ob_Store_int : PySem.W.kitOne K (.ref C_Store) (.type "int") = some false)
    (ob_Store_str : PySem.W.kitOne K (.ref C_Store) (.type "str") = some false)
    (ob_Store_list : PySem.W.kitOne K (.ref C_Store) (.type "list") = some false)
    (ob_Store_tuple : PySem.W.kitOne K (.ref C_Store) (.type "tuple") = some false)
    (ob_Store_dict : PySem.W.kitOne K (.ref C_Store) (.type "dict") = some false)
    (ne_Ref_Builtin : C_Ref ≠ C_Builtin)
    (ne_Ref_Parts : C_Ref ≠ C_Parts)
    (ne_Ref_Table : C_Ref ≠ C_Table)
    (ne_Ref_Instance : C_Ref ≠ C_Instance)
    (ne_Ref_Kin : C_Ref ≠ C_Kin)
    (ne_Ref_Closure : C_Ref ≠ C_Closure)
    (ne_Ref_Bound : C_Ref ≠ C_Bound)
    (ne_Ref_Variable : C_Ref ≠ C_Variable)
    (ne_Ref_Cursor : C_Ref ≠ C_Cursor)
    (ne_Ref_Store : C_Ref ≠ C_Store)
    (ne_Builtin_Parts : C_Builtin ≠ C_Parts)
    (ne_Builtin_Table : C_Builtin ≠ C_Table)
    (ne_Builtin_Instance : C_Builtin ≠ C_Instance)
    (ne_Builtin_Kin : C_Builtin ≠ C_Kin)
    (ne_Builtin_Closure : C_Builtin ≠ C_Closure)
    (ne_Builtin_Bound : C_Builtin ≠ C_Bound)
    (ne_Builtin_Variable : C_Builtin ≠ C_Variable)
    (ne_Builtin_Cursor : C_Builtin ≠ C_Cursor)
    (ne_Builtin_Store : C_Builtin ≠ C_Store)
    (ne_Parts_Table : C_Parts ≠ C_Table)
    (ne_Parts_Instance : C_Parts ≠ C_Instance)
    (ne_Parts_Kin : C_Parts ≠ C_Kin)
    (ne_Parts_Closure : C_Parts ≠ C_Closure)
    (ne_Parts_Bound : C_Parts ≠ C_Bound)
    (ne_Parts_Variable : C_Parts ≠ C_Variable)
    (ne_Parts_Cursor : C_Parts ≠ C_Cursor)
    (ne_Parts_Store : C_Parts ≠ C_Store)
    (ne_Table_Instance : C_Table ≠ C_Instance)
    (ne_Table_Kin : C_Table ≠ C_Kin)
    (ne_Table_Closure : C_Table ≠ C_Closure)
    (ne_Table_Bound : C_Table ≠ C_Bound)
    (ne_Table_Variable : C_Table ≠ C_Variable)
    (ne_Table_Cursor : C_Table ≠ C_Cursor)
    (ne_Table_Store : C_Table ≠ C_Store)
    (ne_Instance_Kin : C_Instance ≠ C_Kin)
    (ne_Instance_Closure : C_Instance ≠ C_Closure)
    (ne_Instance_Bound : C_Instance ≠ C_Bound)
    (ne_Instance_Variable : C_Instance ≠ C_Variable)
    (ne_Instance_Cursor : C_Instance ≠ C_Cursor)
    (ne_Instance_Store : C_Instance ≠ C_Store)
    (ne_Kin_Closure : C_Kin ≠ C_Closure)
    (ne_Kin_Bound : C_Kin ≠ C_Bound)
    (ne_Kin_Variable : C_Kin ≠ C_Variable)
    (ne_Kin_Cursor : C_Kin ≠ C_Cursor)
    (ne_Kin_Store : C_Kin ≠ C_Store)
    (ne_Closure_Bound : C_Closure ≠ C_Bound)
    (ne_Closure_Variable : C_Closure ≠ C_Variable)
    (ne_Closure_Cursor : C_Closure ≠ C_Cursor)
    (ne_Closure_Store : C_Closure ≠ C_Store)
    (ne_Bound_Variable : C_Bound ≠ C_Variable)
    (ne_Bound_Cursor : C_Bound ≠ C_Cursor)
    (ne_Bound_Store : C_Bound ≠ C_Store)
    (ne_Variable_Cursor : C_Variable ≠ C_Cursor)
    (ne_Variable_Store : C_Variable ≠ C_Store)
    (ne_Cursor_Store : C_Cursor ≠ C_Store)
    (f0 : MFact K C_Ref "__init__" "Ref.__init__" s_Ref___init__) (f1 : MFact K C_Builtin "__init__" "Builtin.__init__" s_Builtin___init__) (f2 : FnFact K "key_of" "key_of" s_key_of) (f3 : MFact K C_Parts "__init__" "Parts.__init__" s_Parts___init__) (f4 : MFact K C_Table "__init__" "Table.__init__" s_Table___init__) (f5 : PFact K C_Table "many" "Table.many" s_Table_many) (f6 : MFact K C_Table "put" "Table.put" s_Table_put) (f7 : MFact K C_Table "pairs" "Table.pairs" s_Table_pairs) (f8 : MFact K C_Instance "__init__" "Instance.__init__" s_Instance___init__) (f9 : MFact K C_Kin "__init__" "Kin.__init__" s_Kin___init__) (f10 : MFact K C_Closure "__init__" "Closure.__init__" s_Closure___init__) (f11 : MFact K C_Bound "__init__" "Bound.__init__" s_Bound___init__) (f12 : MFact K C_Variable "__init__" "Variable.__init__" s_Variable___init__) (f13 : MFact K C_Cursor "__init__" "Cursor.__init__" s_Cursor___init__) (f14 : MFact K C_Store "__init__" "Store.__init__" s_Store___init__) (f15 : MFact K C_Store "make" "Store.make" s_Store_make) (f16 : FnFact K "numbers_in" "numbers_in" s_numbers_in) (f17 : FnFact K "values_of" "values_of" s_values_of) (f18 : FnFact K "children_of" "children_of" s_children_of) (f19 : FnFact K "sort_of" "sort_of" s_sort_of) (f20 : FnFact K "letters" "letters" s_letters) (f21 : FnFact K "size_of" "size_of" s_size_of) (f22 : FnFact K "counts_of" "counts_of" s_counts_of) (f23 : FnFact K "_law_cell" "_law_cell" s_law_cell) (f24 : FnFact K "_law_is_integer" "_law_is_integer" s_law_is_integer) (f25 : FnFact K "_law_begin" "_law_begin" s_law_begin) (f26 : FnFact K "_law_draw" "_law_draw" s_law_draw) (f27 : FnFact K "_law_pick" "_law_pick" s_law_pick) (f28 : FnFact K "_law_value" "_law_value" s_law_value) (f29 : FnFact K "_law_texts" "_law_texts" s_law_texts) (f30 : FnFact K "_law_refs" "_law_refs" s_law_refs) (f31 : FnFact K "_law_row" "_law_row" s_law_row) (f32 : FnFact K "_law_table" "_law_table" s_law_table) (f33 : FnFact K "_law_instance" "_law_instance" s_law_instance) (f34 : FnFact K "_law_class" "_law_class" s_law_class) (f35 : FnFact K "_law_made" "_law_made" s_law_made) (f36 : FnFact K "law" "law" s_law)
    (z_abs : PySem.W.nsIn K mainGlobals "abs" = some none) (z_bool : PySem.W.nsIn K mainGlobals "bool" = some none) (z_dict : PySem.W.nsIn K mainGlobals "dict" = some none) (z_int : PySem.W.nsIn K mainGlobals "int" = some none) (z_isinstance : PySem.W.nsIn K mainGlobals "isinstance" = some none) (z_len : PySem.W.nsIn K mainGlobals "len" = some none) (z_list : PySem.W.nsIn K mainGlobals "list" = some none) (z_max : PySem.W.nsIn K mainGlobals "max" = some none) (z_min : PySem.W.nsIn K mainGlobals "min" = some none) (z_range : PySem.W.nsIn K mainGlobals "range" = some none) (z_str : PySem.W.nsIn K mainGlobals "str" = some none) (z_sum : PySem.W.nsIn K mainGlobals "sum" = some none) (z_tuple : PySem.W.nsIn K mainGlobals "tuple" = some none)
    (q_ERROR : ∃ t, PySem.W.nsIn K mainGlobals "ERROR" = some (some (.str "Error" t))) (q_SORTS : TupFact K "SORTS" [.str "variable", .str "list", .str "map", .str "instance", .str "class", .str "function", .str "method", .str "iterator"]) :
    ∃ fd : FuncData, (∀ (s : Shared) (v : Value), BindsTo s fd ⟨[v], []⟩ [("script", v)]) ∧ ∀ base : Heap, K.In base → base.Ns mainGlobals mg → FnOk P w K mg base CX0 7 fa fd ["script"] (spLaw K) := by
  have T : Txt K mg ⟨C_Ref, C_Builtin, C_Parts, C_Table, C_Instance, C_Kin, C_Closure, C_Bound, C_Variable, C_Cursor, C_Store⟩ := ⟨PySem.W.mg_none_of X G z_abs,
    PySem.W.mg_none_of X G z_bool,
    PySem.W.mg_none_of X G z_dict,
    PySem.W.mg_none_of X G z_int,
    PySem.W.mg_none_of X G z_isinstance,
    PySem.W.mg_none_of X G z_len,
    PySem.W.mg_none_of X G z_list,
    PySem.W.mg_none_of X G z_max,
    PySem.W.mg_none_of X G z_min,
    PySem.W.mg_none_of X G z_range,
    PySem.W.mg_none_of X G z_str,
    PySem.W.mg_none_of X G z_sum,
    PySem.W.mg_none_of X G z_tuple,
    (let ⟨t, h⟩ := q_ERROR; ⟨t, PySem.W.mg_of X G h⟩),
    (TupFact.get X G q_SORTS),
    PySem.W.mg_of X G n_Ref,
    x_Ref.cls,
    ⟨x_Ref.mks, x_Ref.kp, PySem.W.mg_of X G n_Ref⟩,
    PySem.W.mg_of X G n_Builtin,
    x_Builtin.cls,
    ⟨x_Builtin.mks, x_Builtin.kp, PySem.W.mg_of X G n_Builtin⟩,
    PySem.W.mg_of X G n_Parts,
    x_Parts.cls,
    ⟨x_Parts.mks, x_Parts.kp, PySem.W.mg_of X G n_Parts⟩,
    PySem.W.mg_of X G n_Table,
    x_Table.cls,
    ⟨x_Table.mks, x_Table.kp, PySem.W.mg_of X G n_Table⟩,
    PySem.W.mg_of X G n_Instance,
    x_Instance.cls,
    ⟨x_Instance.mks, x_Instance.kp, PySem.W.mg_of X G n_Instance⟩,
    PySem.W.mg_of X G n_Kin,
    x_Kin.cls,
    ⟨x_Kin.mks, x_Kin.kp, PySem.W.mg_of X G n_Kin⟩,
    PySem.W.mg_of X G n_Closure,
    x_Closure.cls,
    ⟨x_Closure.mks, x_Closure.kp, PySem.W.mg_of X G n_Closure⟩,
    PySem.W.mg_of X G n_Bound,
    x_Bound.cls,
    ⟨x_Bound.mks, x_Bound.kp, PySem.W.mg_of X G n_Bound⟩,
    PySem.W.mg_of X G n_Variable,
    x_Variable.cls,
    ⟨x_Variable.mks, x_Variable.kp, PySem.W.mg_of X G n_Variable⟩,
    PySem.W.mg_of X G n_Cursor,
    x_Cursor.cls,
    ⟨x_Cursor.mks, x_Cursor.kp, PySem.W.mg_of X G n_Cursor⟩,
    PySem.W.mg_of X G n_Store,
    x_Store.cls,
    ⟨x_Store.mks, x_Store.kp, PySem.W.mg_of X G n_Store⟩,
    (all_cons ⟨x_Table.cls, na__rows_Table⟩ all_nil),
    (all_cons ⟨x_Bound.cls, na_function_Bound⟩ all_nil),
    (all_cons ⟨x_Parts.cls, na_held_Parts⟩ all_nil),
    (all_cons ⟨x_Store.cls, na_lines_Store⟩ all_nil),
    (all_cons ⟨x_Kin.cls, na_methods_Kin⟩ all_nil),
    (all_cons ⟨x_Builtin.cls, na_name_Builtin⟩ (all_cons ⟨x_Kin.cls, na_name_Kin⟩ all_nil)),
    (all_cons ⟨x_Instance.cls, na_named_Instance⟩ all_nil),
    (all_cons ⟨x_Ref.cls, na_number_Ref⟩ (all_cons ⟨x_Closure.cls, na_number_Closure⟩ all_nil)),
    (all_cons ⟨x_Store.cls, na_output_Store⟩ all_nil),
    (all_cons ⟨x_Instance.cls, na_owner_Instance⟩ (all_cons ⟨x_Bound.cls, na_owner_Bound⟩ all_nil)),
    (all_cons ⟨x_Kin.cls, na_parent_Kin⟩ all_nil),
    (all_cons ⟨x_Cursor.cls, na_rest_Cursor⟩ all_nil),
    (all_cons ⟨x_Closure.cls, na_scope_Closure⟩ all_nil),
    (all_cons ⟨x_Store.cls, na_taken_Store⟩ all_nil),
    (all_cons ⟨x_Store.cls, na_things_Store⟩ all_nil),
    (all_cons ⟨x_Variable.cls, na_value_Variable⟩ all_nil),
    (all_cons ⟨x_Closure.cls, na_wanted_Closure⟩ all_nil),
    ob,
    ⟨(all_cons (x_Ref.ocls ob) (all_cons (x_Builtin.ocls ob) (all_cons (x_Parts.ocls ob) (all_cons (x_Table.ocls ob) (all_cons (x_Instance.ocls ob) (all_cons (x_Kin.ocls ob) (all_cons (x_Closure.ocls ob) (all_cons (x_Bound.ocls ob) (all_cons (x_Variable.ocls ob) (all_cons (x_Cursor.ocls ob) (all_cons (x_Store.ocls ob) all_nil))))))))))), (all_cons (all_cons oo_Ref_Table (all_cons oo_Ref_Variable (all_cons oo_Ref_Parts (all_cons oo_Ref_Cursor (all_cons oo_Ref_Instance (all_cons oo_Ref_Kin (all_cons oo_Ref_Closure (all_cons oo_Ref_Bound (all_cons oo_Ref_Ref (all_cons oo_Ref_Builtin all_nil)))))))))) (all_cons (all_cons oo_Builtin_Table (all_cons oo_Builtin_Variable (all_cons oo_Builtin_Parts (all_cons oo_Builtin_Cursor (all_cons oo_Builtin_Instance (all_cons oo_Builtin_Kin (all_cons oo_Builtin_Closure (all_cons oo_Builtin_Bound (all_cons oo_Builtin_Ref (all_cons oo_Builtin_Builtin all_nil)))))))))) (all_cons (all_cons oo_Parts_Table (all_cons oo_Parts_Variable (all_cons oo_Parts_Parts (all_cons oo_Parts_Cursor (all_cons oo_Parts_Instance (all_cons oo_Parts_Kin (all_cons oo_Parts_Closure (all_cons oo_Parts_Bound (all_cons oo_Parts_Ref (all_cons oo_Parts_Builtin all_nil)))))))))) (all_cons (all_cons oo_Table_Table (all_cons oo_Table_Variable (all_cons oo_Table_Parts (all_cons oo_Table_Cursor (all_cons oo_Table_Instance (all_cons oo_Table_Kin (all_cons oo_Table_Closure (all_cons oo_Table_Bound (all_cons oo_Table_Ref (all_cons oo_Table_Builtin all_nil)))))))))) (all_cons (all_cons oo_Instance_Table (all_cons oo_Instance_Variable (all_cons oo_Instance_Parts (all_cons oo_Instance_Cursor (all_cons oo_Instance_Instance (all_cons oo_Instance_Kin (all_cons oo_Instance_Closure (all_cons oo_Instance_Bound (all_cons oo_Instance_Ref (all_cons oo_Instance_Builtin all_nil)))))))))) (all_cons (all_cons oo_Kin_Table (all_cons oo_Kin_Variable (all_cons oo_Kin_Parts (all_cons oo_Kin_Cursor (all_cons oo_Kin_Instance (all_cons oo_Kin_Kin (all_cons oo_Kin_Closure (all_cons oo_Kin_Bound (all_cons oo_Kin_Ref (all_cons oo_Kin_Builtin all_nil)))))))))) (all_cons (all_cons oo_Closure_Table (all_cons oo_Closure_Variable (all_cons oo_Closure_Parts (all_cons oo_Closure_Cursor (all_cons oo_Closure_Instance (all_cons oo_Closure_Kin (all_cons oo_Closure_Closure (all_cons oo_Closure_Bound (all_cons oo_Closure_Ref (all_cons oo_Closure_Builtin all_nil)))))))))) (all_cons (all_cons oo_Bound_Table (all_cons oo_Bound_Variable (all_cons oo_Bound_Parts (all_cons oo_Bound_Cursor (all_cons oo_Bound_Instance (all_cons oo_Bound_Kin (all_cons oo_Bound_Closure (all_cons oo_Bound_Bound (all_cons oo_Bound_Ref (all_cons oo_Bound_Builtin all_nil)))))))))) (all_cons (all_cons oo_Variable_Table (all_cons oo_Variable_Variable (all_cons oo_Variable_Parts (all_cons oo_Variable_Cursor (all_cons oo_Variable_Instance (all_cons oo_Variable_Kin (all_cons oo_Variable_Closure (all_cons oo_Variable_Bound (all_cons oo_Variable_Ref (all_cons oo_Variable_Builtin all_nil)))))))))) (all_cons (all_cons oo_Cursor_Table (all_cons oo_Cursor_Variable (all_cons oo_Cursor_Parts (all_cons oo_Cursor_Cursor (all_cons oo_Cursor_Instance (all_cons oo_Cursor_Kin (all_cons oo_Cursor_Closure (all_cons oo_Cursor_Bound (all_cons oo_Cursor_Ref (all_cons oo_Cursor_Builtin all_nil)))))))))) (all_cons (all_cons oo_Store_Table (all_cons oo_Store_Variable (all_cons oo_Store_Parts (all_cons oo_Store_Cursor (all_cons oo_Store_Instance (all_cons oo_Store_Kin (all_cons oo_Store_Closure (all_cons oo_Store_Bound (all_cons oo_Store_Ref (all_cons oo_Store_Builtin all_nil)))))))))) all_nil))))))))))), (all_cons (all_cons bo_NoneType_Table (all_cons bo_NoneType_Variable (all_cons bo_NoneType_Parts (all_cons bo_NoneType_Cursor (all_cons bo_NoneType_Instance (all_cons bo_NoneType_Kin (all_cons bo_NoneType_Closure (all_cons bo_NoneType_Bound (all_cons bo_NoneType_Ref (all_cons bo_NoneType_Builtin all_nil)))))))))) (all_cons (all_cons bo_bool_Table (all_cons bo_bool_Variable (all_cons bo_bool_Parts (all_cons bo_bool_Cursor (all_cons bo_bool_Instance (all_cons bo_bool_Kin (all_cons bo_bool_Closure (all_cons bo_bool_Bound (all_cons bo_bool_Ref (all_cons bo_bool_Builtin all_nil)))))))))) (all_cons (all_cons bo_int_Table (all_cons bo_int_Variable (all_cons bo_int_Parts (all_cons bo_int_Cursor (all_cons bo_int_Instance (all_cons bo_int_Kin (all_cons bo_int_Closure (all_cons bo_int_Bound (all_cons bo_int_Ref (all_cons bo_int_Builtin all_nil)))))))))) (all_cons (all_cons bo_str_Table (all_cons bo_str_Variable (all_cons bo_str_Parts (all_cons bo_str_Cursor (all_cons bo_str_Instance (all_cons bo_str_Kin (all_cons bo_str_Closure (all_cons bo_str_Bound (all_cons bo_str_Ref (all_cons bo_str_Builtin all_nil)))))))))) (all_cons (all_cons bo_list_Table (all_cons bo_list_Variable (all_cons bo_list_Parts (all_cons bo_list_Cursor (all_cons bo_list_Instance (all_cons bo_list_Kin (all_cons bo_list_Closure (all_cons bo_list_Bound (all_cons bo_list_Ref (all_cons bo_list_Builtin all_nil)))))))))) (all_cons (all_cons bo_tuple_Table (all_cons bo_tuple_Variable (all_cons bo_tuple_Parts (all_cons bo_tuple_Cursor (all_cons bo_tuple_Instance (all_cons bo_tuple_Kin (all_cons bo_tuple_Closure (all_cons bo_tuple_Bound (all_cons bo_tuple_Ref (all_cons bo_tuple_Builtin all_nil)))))))))) (all_cons (all_cons bo_dict_Table (all_cons bo_dict_Variable (all_cons bo_dict_Parts (all_cons bo_dict_Cursor (all_cons bo_dict_Instance (all_cons bo_dict_Kin (all_cons bo_dict_Closure (all_cons bo_dict_Bound (all_cons bo_dict_Ref (all_cons bo_dict_Builtin all_nil)))))))))) all_nil))))))), (all_cons (all_cons ob_Ref_bool (all_cons ob_Ref_int (all_cons ob_Ref_str (all_cons ob_Ref_list (all_cons ob_Ref_tuple (all_cons ob_Ref_dict all_nil)))))) (all_cons (all_cons ob_Builtin_bool (all_cons ob_Builtin_int (all_cons ob_Builtin_str (all_cons ob_Builtin_list (all_cons ob_Builtin_tuple (all_cons ob_Builtin_dict all_nil)))))) (all_cons (all_cons ob_Parts_bool (all_cons ob_Parts_int (all_cons ob_Parts_str (all_cons ob_Parts_list (all_cons ob_Parts_tuple (all_cons ob_Parts_dict all_nil)))))) (all_cons (all_cons ob_Table_bool (all_cons ob_Table_int (all_cons ob_Table_str (all_cons ob_Table_list (all_cons ob_Table_tuple (all_cons ob_Table_dict all_nil)))))) (all_cons (all_cons ob_Instance_bool (all_cons ob_Instance_int (all_cons ob_Instance_str (all_cons ob_Instance_list (all_cons ob_Instance_tuple (all_cons ob_Instance_dict all_nil)))))) (all_cons (all_cons ob_Kin_bool (all_cons ob_Kin_int (all_cons ob_Kin_str (all_cons ob_Kin_list (all_cons ob_Kin_tuple (all_cons ob_Kin_dict all_nil)))))) (all_cons (all_cons ob_Closure_bool (all_cons ob_Closure_int (all_cons ob_Closure_str (all_cons ob_Closure_list (all_cons ob_Closure_tuple (all_cons ob_Closure_dict all_nil)))))) (all_cons (all_cons ob_Bound_bool (all_cons ob_Bound_int (all_cons ob_Bound_str (all_cons ob_Bound_list (all_cons ob_Bound_tuple (all_cons ob_Bound_dict all_nil)))))) (all_cons (all_cons ob_Variable_bool (all_cons ob_Variable_int (all_cons ob_Variable_str (all_cons ob_Variable_list (all_cons ob_Variable_tuple (all_cons ob_Variable_dict all_nil)))))) (all_cons (all_cons ob_Cursor_bool (all_cons ob_Cursor_int (all_cons ob_Cursor_str (all_cons ob_Cursor_list (all_cons ob_Cursor_tuple (all_cons ob_Cursor_dict all_nil)))))) (all_cons (all_cons ob_Store_bool (all_cons ob_Store_int (all_cons ob_Store_str (all_cons ob_Store_list (all_cons ob_Store_tuple (all_cons ob_Store_dict all_nil)))))) all_nil)))))))))))⟩,
    ⟨eq_false ne_Ref_Builtin, eq_false ne_Ref_Parts, eq_false ne_Ref_Table, eq_false ne_Ref_Instance, eq_false ne_Ref_Kin, eq_false ne_Ref_Closure, eq_false ne_Ref_Bound, eq_false ne_Ref_Variable, eq_false ne_Ref_Cursor, eq_false ne_Ref_Store, eq_false (fun h => ne_Ref_Builtin h.symm), eq_false ne_Builtin_Parts, eq_false ne_Builtin_Table, eq_false ne_Builtin_Instance, eq_false ne_Builtin_Kin, eq_false ne_Builtin_Closure, eq_false ne_Builtin_Bound, eq_false ne_Builtin_Variable, eq_false ne_Builtin_Cursor, eq_false ne_Builtin_Store, eq_false (fun h => ne_Ref_Parts h.symm), eq_false (fun h => ne_Builtin_Parts h.symm), eq_false ne_Parts_Table, eq_false ne_Parts_Instance, eq_false ne_Parts_Kin, eq_false ne_Parts_Closure, eq_false ne_Parts_Bound, eq_false ne_Parts_Variable, eq_false ne_Parts_Cursor, eq_false ne_Parts_Store, eq_false (fun h => ne_Ref_Table h.symm), eq_false (fun h => ne_Builtin_Table h.symm), eq_false (fun h => ne_Parts_Table h.symm), eq_false ne_Table_Instance, eq_false ne_Table_Kin, eq_false ne_Table_Closure, eq_false ne_Table_Bound, eq_false ne_Table_Variable, eq_false ne_Table_Cursor, eq_false ne_Table_Store, eq_false (fun h => ne_Ref_Instance h.symm), eq_false (fun h => ne_Builtin_Instance h.symm), eq_false (fun h => ne_Parts_Instance h.symm), eq_false (fun h => ne_Table_Instance h.symm), eq_false ne_Instance_Kin, eq_false ne_Instance_Closure, eq_false ne_Instance_Bound, eq_false ne_Instance_Variable, eq_false ne_Instance_Cursor, eq_false ne_Instance_Store, eq_false (fun h => ne_Ref_Kin h.symm), eq_false (fun h => ne_Builtin_Kin h.symm), eq_false (fun h => ne_Parts_Kin h.symm), eq_false (fun h => ne_Table_Kin h.symm), eq_false (fun h => ne_Instance_Kin h.symm), eq_false ne_Kin_Closure, eq_false ne_Kin_Bound, eq_false ne_Kin_Variable, eq_false ne_Kin_Cursor, eq_false ne_Kin_Store, eq_false (fun h => ne_Ref_Closure h.symm), eq_false (fun h => ne_Builtin_Closure h.symm), eq_false (fun h => ne_Parts_Closure h.symm), eq_false (fun h => ne_Table_Closure h.symm), eq_false (fun h => ne_Instance_Closure h.symm), eq_false (fun h => ne_Kin_Closure h.symm), eq_false ne_Closure_Bound, eq_false ne_Closure_Variable, eq_false ne_Closure_Cursor, eq_false ne_Closure_Store, eq_false (fun h => ne_Ref_Bound h.symm), eq_false (fun h => ne_Builtin_Bound h.symm), eq_false (fun h => ne_Parts_Bound h.symm), eq_false (fun h => ne_Table_Bound h.symm), eq_false (fun h => ne_Instance_Bound h.symm), eq_false (fun h => ne_Kin_Bound h.symm), eq_false (fun h => ne_Closure_Bound h.symm), eq_false ne_Bound_Variable, eq_false ne_Bound_Cursor, eq_false ne_Bound_Store, eq_false (fun h => ne_Ref_Variable h.symm), eq_false (fun h => ne_Builtin_Variable h.symm), eq_false (fun h => ne_Parts_Variable h.symm), eq_false (fun h => ne_Table_Variable h.symm), eq_false (fun h => ne_Instance_Variable h.symm), eq_false (fun h => ne_Kin_Variable h.symm), eq_false (fun h => ne_Closure_Variable h.symm), eq_false (fun h => ne_Bound_Variable h.symm), eq_false ne_Variable_Cursor, eq_false ne_Variable_Store, eq_false (fun h => ne_Ref_Cursor h.symm), eq_false (fun h => ne_Builtin_Cursor h.symm), eq_false (fun h => ne_Parts_Cursor h.symm), eq_false (fun h => ne_Table_Cursor h.symm), eq_false (fun h => ne_Instance_Cursor h.symm), eq_false (fun h => ne_Kin_Cursor h.symm), eq_false (fun h => ne_Closure_Cursor h.symm), eq_false (fun h => ne_Bound_Cursor h.symm), eq_false (fun h => ne_Variable_Cursor h.symm), eq_false ne_Cursor_Store, eq_false (fun h => ne_Ref_Store h.symm), eq_false (fun h => ne_Builtin_Store h.symm), eq_false (fun h => ne_Parts_Store h.symm), eq_false (fun h => ne_Table_Store h.symm), eq_false (fun h => ne_Instance_Store h.symm), eq_false (fun h => ne_Kin_Store h.symm), eq_false (fun h => ne_Closure_Store h.symm), eq_false (fun h => ne_Bound_Store h.symm), eq_false (fun h => ne_Variable_Store h.symm), eq_false (fun h => ne_Cursor_Store h.symm)⟩⟩
  have a0 : AtM K C_Ref "__init__" "Ref.__init__" s_Ref___init__ ["self", "number"] := AtM.of f0 fun _ _ _ _ _ _ us hl => match us, hl with | [_, _], _ => rfl
  have a1 : AtM K C_Builtin "__init__" "Builtin.__init__" s_Builtin___init__ ["self", "name"] := AtM.of f1 fun _ _ _ _ _ _ us hl => match us, hl with | [_, _], _ => rfl
  have a2 : At K mg "key_of" "key_of" s_key_of ["value"] := At.of X G f2 fun _ _ _ _ _ _ us hl => match us, hl with | [_], _ => rfl
  have a3 : AtM K C_Parts "__init__" "Parts.__init__" s_Parts___init__ ["self", "held"] := AtM.of f3 fun _ _ _ _ _ _ us hl => match us, hl with | [_, _], _ => rfl
  have a4 : AtM K C_Table "__init__" "Table.__init__" s_Table___init__ ["self"] := AtM.of f4 fun _ _ _ _ _ _ us hl => match us, hl with | [_], _ => rfl
  have a5 : AtP K C_Table "many" "Table.many" s_Table_many ["self"] := AtP.of f5 fun _ _ _ _ _ _ us hl => match us, hl with | [_], _ => rfl
  have a6 : AtM K C_Table "put" "Table.put" s_Table_put ["self", "key", "value"] := AtM.of f6 fun _ _ _ _ _ _ us hl => match us, hl with | [_, _, _], _ => rfl
  have a7 : AtM K C_Table "pairs" "Table.pairs" s_Table_pairs ["self"] := AtM.of f7 fun _ _ _ _ _ _ us hl => match us, hl with | [_], _ => rfl
  have a8 : AtM K C_Instance "__init__" "Instance.__init__" s_Instance___init__ ["self", "owner"] := AtM.of f8 fun _ _ _ _ _ _ us hl => match us, hl with | [_, _], _ => rfl
  have a9 : AtM K C_Kin "__init__" "Kin.__init__" s_Kin___init__ ["self", "name", "parent"] := AtM.of f9 fun _ _ _ _ _ _ us hl => match us, hl with | [_, _, _], _ => rfl
  have a10 : AtM K C_Closure "__init__" "Closure.__init__" s_Closure___init__ ["self", "number", "wanted", "scope"] := AtM.of f10 fun _ _ _ _ _ _ us hl => match us, hl with | [_, _, _, _], _ => rfl
  have a11 : AtM K C_Bound "__init__" "Bound.__init__" s_Bound___init__ ["self", "owner", "function"] := AtM.of f11 fun _ _ _ _ _ _ us hl => match us, hl with | [_, _, _], _ => rfl
  have a12 : AtM K C_Variable "__init__" "Variable.__init__" s_Variable___init__ ["self", "value"] := AtM.of f12 fun _ _ _ _ _ _ us hl => match us, hl with | [_, _], _ => rfl
  have a13 : AtM K C_Cursor "__init__" "Cursor.__init__" s_Cursor___init__ ["self", "rest"] := AtM.of f13 fun _ _ _ _ _ _ us hl => match us, hl with | [_, _], _ => rfl
  have a14 : AtM K C_Store "__init__" "Store.__init__" s_Store___init__ ["self", "lines"] := AtM.of f14 fun _ _ _ _ _ _ us hl => match us, hl with | [_, _], _ => rfl
  have a15 : AtM K C_Store "make" "Store.make" s_Store_make ["self", "thing"] := AtM.of f15 fun _ _ _ _ _ _ us hl => match us, hl with | [_, _], _ => rfl
  have a16 : At K mg "numbers_in" "numbers_in" s_numbers_in ["values"] := At.of X G f16 fun _ _ _ _ _ _ us hl => match us, hl with | [_], _ => rfl
  have a17 : At K mg "values_of" "values_of" s_values_of ["thing"] := At.of X G f17 fun _ _ _ _ _ _ us hl => match us, hl with | [_], _ => rfl
  have a18 : At K mg "children_of" "children_of" s_children_of ["store", "number"] := At.of X G f18 fun _ _ _ _ _ _ us hl => match us, hl with | [_, _], _ => rfl
  have a19 : At K mg "sort_of" "sort_of" s_sort_of ["store", "number"] := At.of X G f19 fun _ _ _ _ _ _ us hl => match us, hl with | [_, _], _ => rfl
  have a20 : At K mg "letters" "letters" s_letters ["values"] := At.of X G f20 fun _ _ _ _ _ _ us hl => match us, hl with | [_], _ => rfl
  have a21 : At K mg "size_of" "size_of" s_size_of ["store", "number"] := At.of X G f21 fun _ _ _ _ _ _ us hl => match us, hl with | [_, _], _ => rfl
  have a22 : At K mg "counts_of" "counts_of" s_counts_of ["store"] := At.of X G f22 fun _ _ _ _ _ _ us hl => match us, hl with | [_], _ => rfl
  have a23 : At K mg "_law_cell" "_law_cell" s_law_cell ["script", "k"] := At.of X G f23 fun _ _ _ _ _ _ us hl => match us, hl with | [_, _], _ => rfl
  have a24 : At K mg "_law_is_integer" "_law_is_integer" s_law_is_integer ["told"] := At.of X G f24 fun _ _ _ _ _ _ us hl => match us, hl with | [_], _ => rfl
  have a25 : At K mg "_law_begin" "_law_begin" s_law_begin ["script", "k"] := At.of X G f25 fun _ _ _ _ _ _ us hl => match us, hl with | [_, _], _ => rfl
  have a26 : At K mg "_law_draw" "_law_draw" s_law_draw ["state", "many"] := At.of X G f26 fun _ _ _ _ _ _ us hl => match us, hl with | [_, _], _ => rfl
  have a27 : At K mg "_law_pick" "_law_pick" s_law_pick ["state", "row"] := At.of X G f27 fun _ _ _ _ _ _ us hl => match us, hl with | [_, _], _ => rfl
  have a28 : At K mg "_law_value" "_law_value" s_law_value ["state", "many"] := At.of X G f28 fun _ _ _ _ _ _ us hl => match us, hl with | [_, _], _ => rfl
  have a29 : At K mg "_law_texts" "_law_texts" s_law_texts ["values"] := At.of X G f29 fun _ _ _ _ _ _ us hl => match us, hl with | [_], _ => rfl
  have a30 : At K mg "_law_refs" "_law_refs" s_law_refs ["values"] := At.of X G f30 fun _ _ _ _ _ _ us hl => match us, hl with | [_], _ => rfl
  have a31 : At K mg "_law_row" "_law_row" s_law_row ["state", "many"] := At.of X G f31 fun _ _ _ _ _ _ us hl => match us, hl with | [_, _], _ => rfl
  have a32 : At K mg "_law_table" "_law_table" s_law_table ["state", "many"] := At.of X G f32 fun _ _ _ _ _ _ us hl => match us, hl with | [_, _], _ => rfl
  have a33 : At K mg "_law_instance" "_law_instance" s_law_instance ["state", "many"] := At.of X G f33 fun _ _ _ _ _ _ us hl => match us, hl with | [_, _], _ => rfl
  have a34 : At K mg "_law_class" "_law_class" s_law_class ["state", "many"] := At.of X G f34 fun _ _ _ _ _ _ us hl => match us, hl with | [_, _], _ => rfl
  have a35 : At K mg "_law_made" "_law_made" s_law_made ["state", "many"] := At.of X G f35 fun _ _ _ _ _ _ us hl => match us, hl with | [_, _], _ => rfl
  obtain ⟨f, oc, od, an, sl, kV, dc, pm, cd, ct, a, l, cc, k⟩ := f36.ex
  have e := hfa.symm.trans (PySem.W.mg_of X G a)
  cases e
  have F1 := fun_mk (st := s_law) l cc k
  have al : At K mg "law" "law" s_law ["script"] := ⟨_, _, F1, F1.binds fun _ _ _ _ _ _ us hl => match us, hl with | [_], _ => rfl, PySem.W.mg_of X G a⟩
  refine ⟨PySem.W.fnOf "law" "law" (defArgs s_law) (defBody s_law) (defScope s_law) .none kV dc pm an cd ct, fun s v => .of_eq rfl, fun base _ _ => ?_⟩
  exact law_fn F1 T a0 a1 a2 a3 a4 a5 a6 a7 a8 a9 a10 a11 a12 a13 a14 a15 a16 a17 a18 a19 a20 a21 a22 a23 a24 a25 a26 a27 a28 a29 a30 a31 a32 a33 a34 a35
end My
open PySem PySem.W PyProof.Rows
set_option maxRecDepth 100000 in
set_option maxHeartbeats 0 in
theorem PySem.Challenge.cw_livequill_k70_references_and_sizes_holds : PySem.Challenge.rw_livequill_k70_references_and_sizes.Holds := by
  w_on; o_law; k_head; (case hw => w_witness2)
  k_fill
  refine L2.walk_ofB (l := PySem.Challenge.rw_livequill_k70_references_and_sizes) (n := 63) (k := 7) (x := "script") (CX := fun _ => L2.CX0) (sp := fun w => My.spLaw _) rfl (by decide) rfl ⟨rfl, by decide, by decide⟩ (fun w h Y => PySem.W.kIn_of Y) ?F (fun _ _ a ns hl hb _ hS => ⟨a, ns, rfl, hS, hl, hb, fun _ => rfl⟩) (fun _ _ _ _ _ h => h)
  case F =>
    intro w mg fa h KX G hmg
    refine' My.all_mk KX G hmg ?n_Ref ?n_Builtin ?n_Parts ?n_Table ?n_Instance ?n_Kin ?n_Closure ?n_Bound ?n_Variable ?n_Cursor ?n_Store (Fx.ClsFact.mk ?pg_Ref ?hd_Ref ?po_Ref ?sa_Ref ?ci_Ref ?mr_Ref ?mk_Ref ?kp_Ref) (Fx.ClsFact.mk ?pg_Builtin ?hd_Builtin ?po_Builtin ?sa_Builtin ?ci_Builtin ?mr_Builtin ?mk_Builtin ?kp_Builtin) (Fx.ClsFact.mk ?pg_Parts ?hd_Parts ?po_Parts ?sa_Parts ?ci_Parts ?mr_Parts ?mk_Parts ?kp_Parts) (Fx.ClsFact.mk ?pg_Table ?hd_Table ?po_Table ?sa_Table ?ci_Table ?mr_Table ?mk_Table ?kp_Table) (Fx.ClsFact.mk ?pg_Instance ?hd_Instance ?po_Instance ?sa_Instance ?ci_Instance ?mr_Instance ?mk_Instance ?kp_Instance) (Fx.ClsFact.mk ?pg_Kin ?hd_Kin ?po_Kin ?sa_Kin ?ci_Kin ?mr_Kin ?mk_Kin ?kp_Kin) (Fx.ClsFact.mk ?pg_Closure ?hd_Closure ?po_Closure ?sa_Closure ?ci_Closure ?mr_Closure ?mk_Closure ?kp_Closure) (Fx.ClsFact.mk ?pg_Bound ?hd_Bound ?po_Bound ?sa_Bound ?ci_Bound ?mr_Bound ?mk_Bound ?kp_Bound) (Fx.ClsFact.mk ?pg_Variable ?hd_Variable ?po_Variable ?sa_Variable ?ci_Variable ?mr_Variable ?mk_Variable ?kp_Variable) (Fx.ClsFact.mk ?pg_Cursor ?hd_Cursor ?po_Cursor ?sa_Cursor ?ci_Cursor ?mr_Cursor ?mk_Cursor ?kp_Cursor) (Fx.ClsFact.mk ?pg_Store ?hd_Store ?po_Store ?sa_Store ?ci_Store ?mr_Store ?mk_Store ?kp_Store) (Fx.ObjFact.mk ?ob_gd ?ob_tk) ?na__rows_Table ?na_function_Bound ?na_held_Parts ?na_lines_Store ?na_methods_Kin ?na_name_Builtin ?na_name_Kin ?na_named_Instance ?na_number_Ref ?na_number_Closure ?na_output_Store ?na_owner_Instance ?na_owner_Bound ?na_parent_Kin ?na_rest_Cursor ?na_scope_Closure ?na_taken_Store ?na_things_Store ?na_value_Variable ?na_wanted_Closure ?oo_Ref_Table ?oo_Ref_Variable ?oo_Ref_Parts ?oo_Ref_Cursor ?oo_Ref_Instance ?oo_Ref_Kin ?oo_Ref_Closure ?oo_Ref_Bound ?oo_Ref_Ref ?oo_Ref_Builtin ?oo_Builtin_Table ?oo_Builtin_Variable ?oo_Builtin_Parts ?oo_Builtin_Cursor ?oo_Builtin_Instance ?oo_Builtin_Kin ?oo_Builtin_Closure ?oo_Builtin_Bound ?oo_Builtin_Ref ?oo_Builtin_Builtin ?oo_Parts_Table ?oo_Parts_Variable ?oo_Parts_Parts ?oo_Parts_Cursor ?oo_Parts_Instance ?oo_Parts_Kin ?oo_Parts_Closure ?oo_Parts_Bound ?oo_Parts_Ref ?oo_Parts_Builtin ?oo_Table_Table ?oo_Table_Variable ?oo_Table_Parts ?oo_Table_Cursor ?oo_Table_Instance ?oo_Table_Kin ?oo_Table_Closure ?oo_Table_Bound ?oo_Table_Ref ?oo_Table_Builtin ?oo_Instance_Table ?oo_Instance_Variable ?oo_Instance_Parts ?oo_Instance_Cursor ?oo_Instance_Instance ?oo_Instance_Kin ?oo_Instance_Closure ?oo_Instance_Bound ?oo_Instance_Ref ?oo_Instance_Builtin ?oo_Kin_Table ?oo_Kin_Variable ?oo_Kin_Parts ?oo_Kin_Cursor ?oo_Kin_Instance ?oo_Kin_Kin ?oo_Kin_Closure ?oo_Kin_Bound ?oo_Kin_Ref ?oo_Kin_Builtin ?oo_Closure_Table ?oo_Closure_Variable ?oo_Closure_Parts ?oo_Closure_Cursor ?oo_Closure_Instance ?oo_Closure_Kin ?oo_Closure_Closure ?oo_Closure_Bound ?oo_Closure_Ref ?oo_Closure_Builtin ?oo_Bound_Table ?oo_Bound_Variable ?oo_Bound_Parts ?oo_Bound_Cursor ?oo_Bound_Instance ?oo_Bound_Kin ?oo_Bound_Closure ?oo_Bound_Bound ?oo_Bound_Ref ?oo_Bound_Builtin ?oo_Variable_Table ?oo_Variable_Variable ?oo_Variable_Parts ?oo_Variable_Cursor ?oo_Variable_Instance ?oo_Variable_Kin ?oo_Variable_Closure ?oo_Variable_Bound ?oo_Variable_Ref ?oo_Variable_Builtin ?oo_Cursor_Table ?oo_Cursor_Variable ?oo_Cursor_Parts ?oo_Cursor_Cursor ?oo_Cursor_Instance ?oo_Cursor_Kin ?oo_Cursor_Closure ?oo_Cursor_Bound ?oo_Cursor_Ref ?oo_Cursor_Builtin ?oo_Store_Table ?oo_Store_Variable ?oo_Store_Parts ?oo_Store_Cursor ?oo_Store_Instance ?oo_Store_Kin ?oo_Store_Closure ?oo_Store_Bound ?oo_Store_Ref ?oo_Store_Builtin ?bo_NoneType_Table ?bo_NoneType_Variable ?bo_NoneType_Parts ?bo_NoneType_Cursor ?bo_NoneType_Instance ?bo_NoneType_Kin ?bo_NoneType_Closure ?bo_NoneType_Bound ?bo_NoneType_Ref ?bo_NoneType_Builtin ?bo_bool_Table ?bo_bool_Variable ?bo_bool_Parts ?bo_bool_Cursor ?bo_bool_Instance ?bo_bool_Kin ?bo_bool_Closure ?bo_bool_Bound ?bo_bool_Ref ?bo_bool_Builtin ?bo_int_Table ?bo_int_Variable ?bo_int_Parts ?bo_int_Cursor ?bo_int_Instance ?bo_int_Kin ?bo_int_Closure ?bo_int_Bound ?bo_int_Ref ?bo_int_Builtin ?bo_str_Table ?bo_str_Variable ?bo_str_Parts ?bo_str_Cursor ?bo_str_Instance ?bo_str_Kin ?bo_str_Closure ?bo_str_Bound ?bo_str_Ref ?bo_str_Builtin ?bo_list_Table ?bo_list_Variable ?bo_list_Parts ?bo_list_Cursor ?bo_list_Instance ?bo_list_Kin ?bo_list_Closure ?bo_list_Bound ?bo_list_Ref ?bo_list_Builtin ?bo_tuple_Table ?bo_tuple_Variable ?bo_tuple_Parts ?bo_tuple_Cursor ?bo_tuple_Instance ?bo_tuple_Kin ?bo_tuple_Closure ?bo_tuple_Bound ?bo_tuple_Ref ?bo_tuple_Builtin ?bo_dict_Table ?bo_dict_Variable ?bo_dict_Parts ?bo_dict_Cursor ?bo_dict_Instance ?bo_dict_Kin ?bo_dict_Closure ?bo_dict_Bound ?bo_dict_Ref ?bo_dict_Builtin ?ob_Ref_bool ?ob_Ref_int ?ob_Ref_str ?ob_Ref_list ?ob_Ref_tuple ?ob_Ref_dict ?ob_Builtin_bool ?ob_Builtin_int ?ob_Builtin_str ?ob_Builtin_list ?ob_Builtin_tuple ?ob_Builtin_dict ?ob_Parts_bool ?ob_Parts_int ?ob_Parts_str ?ob_Parts_list ?ob_Parts_tuple ?ob_Parts_dict ?ob_Table_bool ?ob_Table_int ?ob_Table_str ?ob_Table_list ?ob_Table_tuple ?ob_Table_dict ?ob_Instance_bool ?ob_Instance_int ?ob_Instance_str ?ob_Instance_list ?ob_Instance_tuple ?ob_Instance_dict ?ob_Kin_bool ?ob_Kin_int ?ob_Kin_str ?ob_Kin_list ?ob_Kin_tuple ?ob_Kin_dict ?ob_Closure_bool ?ob_Closure_int ?ob_Closure_str ?ob_Closure_list ?ob_Closure_tuple ?ob_Closure_dict ?ob_Bound_bool ?ob_Bound_int ?ob_Bound_str ?ob_Bound_list ?ob_Bound_tuple ?ob_Bound_dict ?ob_Variable_bool ?ob_Variable_int ?ob_Variable_str ?ob_Variable_list ?ob_Variable_tuple ?ob_Variable_dict ?ob_Cursor_bool ?ob_Cursor_int ?ob_Cursor_str ?ob_Cursor_list ?ob_Cursor_tuple ?ob_Cursor_dict ?ob_Store_bool ?ob_Store_int ?ob_Store_str ?ob_Store_list ?ob_Store_tuple ?ob_Store_dict ?ne_Ref_Builtin ?ne_Ref_Parts ?ne_Ref_Table ?ne_Ref_Instance ?ne_Ref_Kin ?ne_Ref_Closure ?ne_Ref_Bound ?ne_Ref_Variable ?ne_Ref_Cursor ?ne_Ref_Store ?ne_Builtin_Parts ?ne_Builtin_Table ?ne_Builtin_Instance ?ne_Builtin_Kin ?ne_Builtin_Closure ?ne_Builtin_Bound ?ne_Builtin_Variable ?ne_Builtin_Cursor ?ne_Builtin_Store ?ne_Parts_Table ?ne_Parts_Instance ?ne_Parts_Kin ?ne_Parts_Closure ?ne_Parts_Bound ?ne_Parts_Variable ?ne_Parts_Cursor ?ne_Parts_Store ?ne_Table_Instance ?ne_Table_Kin ?ne_Table_Closure ?ne_Table_Bound ?ne_Table_Variable ?ne_Table_Cursor ?ne_Table_Store ?ne_Instance_Kin ?ne_Instance_Closure ?ne_Instance_Bound ?ne_Instance_Variable ?ne_Instance_Cursor ?ne_Instance_Store ?ne_Kin_Closure ?ne_Kin_Bound ?ne_Kin_Variable ?ne_Kin_Cursor ?ne_Kin_Store ?ne_Closure_Bound ?ne_Closure_Variable ?ne_Closure_Cursor ?ne_Closure_Store ?ne_Bound_Variable ?ne_Bound_Cursor ?ne_Bound_Store ?ne_Variable_Cursor ?ne_Variable_Store ?ne_Cursor_Store (Fx.MFact.of ?a0 ?l0 ?c0 ?k0 ?i0) (Fx.MFact.of ?a1 ?l1 ?c1 ?k1 ?i1) (Fx.FnFact.of ?a2 ?l2 ?c2 ?k2) (Fx.MFact.of ?a3 ?l3 ?c3 ?k3 ?i3) (Fx.MFact.of ?a4 ?l4 ?c4 ?k4 ?i4) (Fx.PFact.of ?a5 ?pg5 ?pt5 ?pr5 ?l5 ?c5 ?k5) (Fx.MFact.of ?a6 ?l6 ?c6 ?k6 ?i6) (Fx.MFact.of ?a7 ?l7 ?c7 ?k7 ?i7) (Fx.MFact.of ?a8 ?l8 ?c8 ?k8 ?i8) (Fx.MFact.of ?a9 ?l9 ?c9 ?k9 ?i9) (Fx.MFact.of ?a10 ?l10 ?c10 ?k10 ?i10) (Fx.MFact.of ?a11 ?l11 ?c11 ?k11 ?i11) (Fx.MFact.of ?a12 ?l12 ?c12 ?k12 ?i12) (Fx.MFact.of ?a13 ?l13 ?c13 ?k13 ?i13) (Fx.MFact.of ?a14 ?l14 ?c14 ?k14 ?i14) (Fx.MFact.of ?a15 ?l15 ?c15 ?k15 ?i15) (Fx.FnFact.of ?a16 ?l16 ?c16 ?k16) (Fx.FnFact.of ?a17 ?l17 ?c17 ?k17) (Fx.FnFact.of ?a18 ?l18 ?c18 ?k18) (Fx.FnFact.of ?a19 ?l19 ?c19 ?k19) (Fx.FnFact.of ?a20 ?l20 ?c20 ?k20) (Fx.FnFact.of ?a21 ?l21 ?c21 ?k21) (Fx.FnFact.of ?a22 ?l22 ?c22 ?k22) (Fx.FnFact.of ?a23 ?l23 ?c23 ?k23) (Fx.FnFact.of ?a24 ?l24 ?c24 ?k24) (Fx.FnFact.of ?a25 ?l25 ?c25 ?k25) (Fx.FnFact.of ?a26 ?l26 ?c26 ?k26) (Fx.FnFact.of ?a27 ?l27 ?c27 ?k27) (Fx.FnFact.of ?a28 ?l28 ?c28 ?k28) (Fx.FnFact.of ?a29 ?l29 ?c29 ?k29) (Fx.FnFact.of ?a30 ?l30 ?c30 ?k30) (Fx.FnFact.of ?a31 ?l31 ?c31 ?k31) (Fx.FnFact.of ?a32 ?l32 ?c32 ?k32) (Fx.FnFact.of ?a33 ?l33 ?c33 ?k33) (Fx.FnFact.of ?a34 ?l34 ?c34 ?k34) (Fx.FnFact.of ?a35 ?l35 ?c35 ?k35) (Fx.FnFact.of ?a36 ?l36 ?c36 ?k36) ?z_abs ?z_bool ?z_dict ?z_int ?z_isinstance ?z_len ?z_list ?z_max ?z_min ?z_range ?z_str ?z_sum ?z_tuple (Fx.gstr_of ?q_ERROR) (Fx.TupFact.of ?qa_SORTS ?qb_SORTS ?qc_SORTS ?qd_SORTS)
    (case n_Ref => k_is)
    (case n_Builtin => k_is)
    (case n_Parts => k_is)
    (case n_Table => k_is)
    (case n_Instance => k_is)
    (case n_Kin => k_is)
    (case n_Closure => k_is)
    (case n_Bound => k_is)
    (case n_Variable => k_is)
    (case n_Cursor => k_is)
    (case n_Store => k_is)
    (case pg_Ref => k_is); (case hd_Ref => k_is); (case po_Ref => k_is); (case sa_Ref => k_is); (case ci_Ref => k_is); (case mr_Ref => k_is); (case mk_Ref => k_is); (case kp_Ref => k_is)
    (case pg_Builtin => k_is); (case hd_Builtin => k_is); (case po_Builtin => k_is); (case sa_Builtin => k_is); (case ci_Builtin => k_is); (case mr_Builtin => k_is); (case mk_Builtin => k_is); (case kp_Builtin => k_is)
    (case pg_Parts => k_is); (case hd_Parts => k_is); (case po_Parts => k_is); (case sa_Parts => k_is); (case ci_Parts => k_is); (case mr_Parts => k_is); (case mk_Parts => k_is); (case kp_Parts => k_is)
    (case pg_Table => k_is); (case hd_Table => k_is); (case po_Table => k_is); (case sa_Table => k_is); (case ci_Table => k_is); (case mr_Table => k_is); (case mk_Table => k_is); (case kp_Table => k_is)
    (case pg_Instance => k_is); (case hd_Instance => k_is); (case po_Instance => k_is); (case sa_Instance => k_is); (case ci_Instance => k_is); (case mr_Instance => k_is); (case mk_Instance => k_is); (case kp_Instance => k_is)
    (case pg_Kin => k_is); (case hd_Kin => k_is); (case po_Kin => k_is); (case sa_Kin => k_is); (case ci_Kin => k_is); (case mr_Kin => k_is); (case mk_Kin => k_is); (case kp_Kin => k_is)
    (case pg_Closure => k_is); (case hd_Closure => k_is); (case po_Closure => k_is); (case sa_Closure => k_is); (case ci_Closure => k_is); (case mr_Closure => k_is); (case mk_Closure => k_is); (case kp_Closure => k_is)
    (case pg_Bound => k_is); (case hd_Bound => k_is); (case po_Bound => k_is); (case sa_Bound => k_is); (case ci_Bound => k_is); (case mr_Bound => k_is); (case mk_Bound => k_is); (case kp_Bound => k_is)
    (case pg_Variable => k_is); (case hd_Variable => k_is); (case po_Variable => k_is); (case sa_Variable => k_is); (case ci_Variable => k_is); (case mr_Variable => k_is); (case mk_Variable => k_is); (case kp_Variable => k_is)
    (case pg_Cursor => k_is); (case hd_Cursor => k_is); (case po_Cursor => k_is); (case sa_Cursor => k_is); (case ci_Cursor => k_is); (case mr_Cursor => k_is); (case mk_Cursor => k_is); (case kp_Cursor => k_is)
    (case pg_Store => k_is); (case hd_Store => k_is); (case po_Store => k_is); (case sa_Store => k_is); (case ci_Store => k_is); (case mr_Store => k_is); (case mk_Store => k_is); (case kp_Store => k_is)
    (case ob_gd => k_is); (case ob_tk => k_is)
    (case na__rows_Table => k_is)
    (case na_function_Bound => k_is)
    (case na_held_Parts => k_is)
    (case na_lines_Store => k_is)
    (case na_methods_Kin => k_is)
    (case na_name_Builtin => k_is)
    (case na_name_Kin => k_is)
    (case na_named_Instance => k_is)
    (case na_number_Ref => k_is)
    (case na_number_Closure => k_is)
    (case na_output_Store => k_is)
    (case na_owner_Instance => k_is)
    (case na_owner_Bound => k_is)
    (case na_parent_Kin => k_is)
    (case na_rest_Cursor => k_is)
    (case na_scope_Closure => k_is)
    (case na_taken_Store => k_is)
    (case na_things_Store => k_is)
    (case na_value_Variable => k_is)
    (case na_wanted_Closure => k_is)
    (case oo_Ref_Table => kit_is)
    (case oo_Ref_Variable => kit_is)
    (case oo_Ref_Parts => kit_is)
    (case oo_Ref_Cursor => kit_is)
    (case oo_Ref_Instance => kit_is)
    (case oo_Ref_Kin => kit_is)
    (case oo_Ref_Closure => kit_is)
    (case oo_Ref_Bound => kit_is)
    (case oo_Ref_Ref => kit_is)
    (case oo_Ref_Builtin => kit_is)
    (case oo_Builtin_Table => kit_is)
    (case oo_Builtin_Variable => kit_is)
    (case oo_Builtin_Parts => kit_is)
    (case oo_Builtin_Cursor => kit_is)
    (case oo_Builtin_Instance => kit_is)
    (case oo_Builtin_Kin => kit_is)
    (case oo_Builtin_Closure => kit_is)
    (case oo_Builtin_Bound => kit_is)
    (case oo_Builtin_Ref => kit_is)
    (case oo_Builtin_Builtin => kit_is)
    (case oo_Parts_Table => kit_is)
    (case oo_Parts_Variable => kit_is)
    (case oo_Parts_Parts => kit_is)
    (case oo_Parts_Cursor => kit_is)
    (case oo_Parts_Instance => kit_is)
    (case oo_Parts_Kin => kit_is)
    (case oo_Parts_Closure => kit_is)
    (case oo_Parts_Bound => kit_is)
    (case oo_Parts_Ref => kit_is)
    (case oo_Parts_Builtin => kit_is)
    (case oo_Table_Table => kit_is)
    (case oo_Table_Variable => kit_is)
    (case oo_Table_Parts => kit_is)
    (case oo_Table_Cursor => kit_is)
    (case oo_Table_Instance => kit_is)
    (case oo_Table_Kin => kit_is)
    (case oo_Table_Closure => kit_is)
    (case oo_Table_Bound => kit_is)
    (case oo_Table_Ref => kit_is)
    (case oo_Table_Builtin => kit_is)
    (case oo_Instance_Table => kit_is)
    (case oo_Instance_Variable => kit_is)
    (case oo_Instance_Parts => kit_is)
    (case oo_Instance_Cursor => kit_is)
    (case oo_Instance_Instance => kit_is)
    (case oo_Instance_Kin => kit_is)
    (case oo_Instance_Closure => kit_is)
    (case oo_Instance_Bound => kit_is)
    (case oo_Instance_Ref => kit_is)
    (case oo_Instance_Builtin => kit_is)
    (case oo_Kin_Table => kit_is)
    (case oo_Kin_Variable => kit_is)
    (case oo_Kin_Parts => kit_is)
    (case oo_Kin_Cursor => kit_is)
    (case oo_Kin_Instance => kit_is)
    (case oo_Kin_Kin => kit_is)
    (case oo_Kin_Closure => kit_is)
    (case oo_Kin_Bound => kit_is)
    (case oo_Kin_Ref => kit_is)
    (case oo_Kin_Builtin => kit_is)
    (case oo_Closure_Table => kit_is)
    (case oo_Closure_Variable => kit_is)
    (case oo_Closure_Parts => kit_is)
    (case oo_Closure_Cursor => kit_is)
    (case oo_Closure_Instance => kit_is)
    (case oo_Closure_Kin => kit_is)
    (case oo_Closure_Closure => kit_is)
    (case oo_Closure_Bound => kit_is)
    (case oo_Closure_Ref => kit_is)
    (case oo_Closure_Builtin => kit_is)
    (case oo_Bound_Table => kit_is)
    (case oo_Bound_Variable => kit_is)
    (case oo_Bound_Parts => kit_is)
    (case oo_Bound_Cursor => kit_is)
    (case oo_Bound_Instance => kit_is)
    (case oo_Bound_Kin => kit_is)
    (case oo_Bound_Closure => kit_is)
    (case oo_Bound_Bound => kit_is)
    (case oo_Bound_Ref => kit_is)
    (case oo_Bound_Builtin => kit_is)
    (case oo_Variable_Table => kit_is)
    (case oo_Variable_Variable => kit_is)
    (case oo_Variable_Parts => kit_is)
    (case oo_Variable_Cursor => kit_is)
    (case oo_Variable_Instance => kit_is)
    (case oo_Variable_Kin => kit_is)
    (case oo_Variable_Closure => kit_is)
    (case oo_Variable_Bound => kit_is)
    (case oo_Variable_Ref => kit_is)
    (case oo_Variable_Builtin => kit_is)
    (case oo_Cursor_Table => kit_is)
    (case oo_Cursor_Variable => kit_is)
    (case oo_Cursor_Parts => kit_is)
    (case oo_Cursor_Cursor => kit_is)
    (case oo_Cursor_Instance => kit_is)
    (case oo_Cursor_Kin => kit_is)
    (case oo_Cursor_Closure => kit_is)
    (case oo_Cursor_Bound => kit_is)
    (case oo_Cursor_Ref => kit_is)
    (case oo_Cursor_Builtin => kit_is)
    (case oo_Store_Table => kit_is)
    (case oo_Store_Variable => kit_is)
    (case oo_Store_Parts => kit_is)
    (case oo_Store_Cursor => kit_is)
    (case oo_Store_Instance => kit_is)
    (case oo_Store_Kin => kit_is)
    (case oo_Store_Closure => kit_is)
    (case oo_Store_Bound => kit_is)
    (case oo_Store_Ref => kit_is)
    (case oo_Store_Builtin => kit_is)
    (case bo_NoneType_Table => kit_is)
    (case bo_NoneType_Variable => kit_is)
    (case bo_NoneType_Parts => kit_is)
    (case bo_NoneType_Cursor => kit_is)
    (case bo_NoneType_Instance => kit_is)
    (case bo_NoneType_Kin => kit_is)
    (case bo_NoneType_Closure => kit_is)
    (case bo_NoneType_Bound => kit_is)
    (case bo_NoneType_Ref => kit_is)
    (case bo_NoneType_Builtin => kit_is)
    (case bo_bool_Table => kit_is)
    (case bo_bool_Variable => kit_is)
    (case bo_bool_Parts => kit_is)
    (case bo_bool_Cursor => kit_is)
    (case bo_bool_Instance => kit_is)
    (case bo_bool_Kin => kit_is)
    (case bo_bool_Closure => kit_is)
    (case bo_bool_Bound => kit_is)
    (case bo_bool_Ref => kit_is)
    (case bo_bool_Builtin => kit_is)
    (case bo_int_Table => kit_is)
    (case bo_int_Variable => kit_is)
    (case bo_int_Parts => kit_is)
    (case bo_int_Cursor => kit_is)
    (case bo_int_Instance => kit_is)
    (case bo_int_Kin => kit_is)
    (case bo_int_Closure => kit_is)
    (case bo_int_Bound => kit_is)
    (case bo_int_Ref => kit_is)
    (case bo_int_Builtin => kit_is)
    (case bo_str_Table => kit_is)
    (case bo_str_Variable => kit_is)
    (case bo_str_Parts => kit_is)
    (case bo_str_Cursor => kit_is)
    (case bo_str_Instance => kit_is)
    (case bo_str_Kin => kit_is)
    (case bo_str_Closure => kit_is)
    (case bo_str_Bound => kit_is)
    (case bo_str_Ref => kit_is)
    (case bo_str_Builtin => kit_is)
    (case bo_list_Table => kit_is)
    (case bo_list_Variable => kit_is)
    (case bo_list_Parts => kit_is)
    (case bo_list_Cursor => kit_is)
    (case bo_list_Instance => kit_is)
    (case bo_list_Kin => kit_is)
    (case bo_list_Closure => kit_is)
    (case bo_list_Bound => kit_is)
    (case bo_list_Ref => kit_is)
    (case bo_list_Builtin => kit_is)
    (case bo_tuple_Table => kit_is)
    (case bo_tuple_Variable => kit_is)
    (case bo_tuple_Parts => kit_is)
    (case bo_tuple_Cursor => kit_is)
    (case bo_tuple_Instance => kit_is)
    (case bo_tuple_Kin => kit_is)
    (case bo_tuple_Closure => kit_is)
    (case bo_tuple_Bound => kit_is)
    (case bo_tuple_Ref => kit_is)
    (case bo_tuple_Builtin => kit_is)
    (case bo_dict_Table => kit_is)
    (case bo_dict_Variable => kit_is)
    (case bo_dict_Parts => kit_is)
    (case bo_dict_Cursor => kit_is)
    (case bo_dict_Instance => kit_is)
    (case bo_dict_Kin => kit_is)
    (case bo_dict_Closure => kit_is)
    (case bo_dict_Bound => kit_is)
    (case bo_dict_Ref => kit_is)
    (case bo_dict_Builtin => kit_is)
    (case ob_Ref_bool => kit_is)
    (case ob_Ref_int => kit_is)
    (case ob_Ref_str => kit_is)
    (case ob_Ref_list => kit_is)
    (case ob_Ref_tuple => kit_is)
    (case ob_Ref_dict => kit_is)
    (case ob_Builtin_bool => kit_is)
    (case ob_Builtin_int => kit_is)
    (case ob_Builtin_str => kit_is)
    (case ob_Builtin_list => kit_is)
    (case ob_Builtin_tuple => kit_is)
    (case ob_Builtin_dict => kit_is)
    (case ob_Parts_bool => kit_is)
    (case ob_Parts_int => kit_is)
    (case ob_Parts_str => kit_is)
    (case ob_Parts_list => kit_is)
    (case ob_Parts_tuple => kit_is)
    (case ob_Parts_dict => kit_is)
    (case ob_Table_bool => kit_is)
    (case ob_Table_int => kit_is)
    (case ob_Table_str => kit_is)
    (case ob_Table_list => kit_is)
    (case ob_Table_tuple => kit_is)
    (case ob_Table_dict => kit_is)
    (case ob_Instance_bool => kit_is)
    (case ob_Instance_int => kit_is)
    (case ob_Instance_str => kit_is)
    (case ob_Instance_list => kit_is)
    (case ob_Instance_tuple => kit_is)
    (case ob_Instance_dict => kit_is)
    (case ob_Kin_bool => kit_is)
    (case ob_Kin_int => kit_is)
    (case ob_Kin_str => kit_is)
    (case ob_Kin_list => kit_is)
    (case ob_Kin_tuple => kit_is)
    (case ob_Kin_dict => kit_is)
    (case ob_Closure_bool => kit_is)
    (case ob_Closure_int => kit_is)
    (case ob_Closure_str => kit_is)
    (case ob_Closure_list => kit_is)
    (case ob_Closure_tuple => kit_is)
    (case ob_Closure_dict => kit_is)
    (case ob_Bound_bool => kit_is)
    (case ob_Bound_int => kit_is)
    (case ob_Bound_str => kit_is)
    (case ob_Bound_list => kit_is)
    (case ob_Bound_tuple => kit_is)
    (case ob_Bound_dict => kit_is)
    (case ob_Variable_bool => kit_is)
    (case ob_Variable_int => kit_is)
    (case ob_Variable_str => kit_is)
    (case ob_Variable_list => kit_is)
    (case ob_Variable_tuple => kit_is)
    (case ob_Variable_dict => kit_is)
    (case ob_Cursor_bool => kit_is)
    (case ob_Cursor_int => kit_is)
    (case ob_Cursor_str => kit_is)
    (case ob_Cursor_list => kit_is)
    (case ob_Cursor_tuple => kit_is)
    (case ob_Cursor_dict => kit_is)
    (case ob_Store_bool => kit_is)
    (case ob_Store_int => kit_is)
    (case ob_Store_str => kit_is)
    (case ob_Store_list => kit_is)
    (case ob_Store_tuple => kit_is)
    (case ob_Store_dict => kit_is)
    (case ne_Ref_Builtin => decide)
    (case ne_Ref_Parts => decide)
    (case ne_Ref_Table => decide)
    (case ne_Ref_Instance => decide)
    (case ne_Ref_Kin => decide)
    (case ne_Ref_Closure => decide)
    (case ne_Ref_Bound => decide)
    (case ne_Ref_Variable => decide)
    (case ne_Ref_Cursor => decide)
    (case ne_Ref_Store => decide)
    (case ne_Builtin_Parts => decide)
    (case ne_Builtin_Table => decide)
    (case ne_Builtin_Instance => decide)
    (case ne_Builtin_Kin => decide)
    (case ne_Builtin_Closure => decide)
    (case ne_Builtin_Bound => decide)
    (case ne_Builtin_Variable => decide)
    (case ne_Builtin_Cursor => decide)
    (case ne_Builtin_Store => decide)
    (case ne_Parts_Table => decide)
    (case ne_Parts_Instance => decide)
    (case ne_Parts_Kin => decide)
    (case ne_Parts_Closure => decide)
    (case ne_Parts_Bound => decide)
    (case ne_Parts_Variable => decide)
    (case ne_Parts_Cursor => decide)
    (case ne_Parts_Store => decide)
    (case ne_Table_Instance => decide)
    (case ne_Table_Kin => decide)
    (case ne_Table_Closure => decide)
    (case ne_Table_Bound => decide)
    (case ne_Table_Variable => decide)
    (case ne_Table_Cursor => decide)
    (case ne_Table_Store => decide)
    (case ne_Instance_Kin => decide)
    (case ne_Instance_Closure => decide)
    (case ne_Instance_Bound => decide)
    (case ne_Instance_Variable => decide)
    (case ne_Instance_Cursor => decide)
    (case ne_Instance_Store => decide)
    (case ne_Kin_Closure => decide)
    (case ne_Kin_Bound => decide)
    (case ne_Kin_Variable => decide)
    (case ne_Kin_Cursor => decide)
    (case ne_Kin_Store => decide)
    (case ne_Closure_Bound => decide)
    (case ne_Closure_Variable => decide)
    (case ne_Closure_Cursor => decide)
    (case ne_Closure_Store => decide)
    (case ne_Bound_Variable => decide)
    (case ne_Bound_Cursor => decide)
    (case ne_Bound_Store => decide)
    (case ne_Variable_Cursor => decide)
    (case ne_Variable_Store => decide)
    (case ne_Cursor_Store => decide)
    (case a0 => k_is); (case l0 => k_is); (case c0 => k_is); (case k0 => k_is); (case i0 => k_is)
    (case a1 => k_is); (case l1 => k_is); (case c1 => k_is); (case k1 => k_is); (case i1 => k_is)
    (case a2 => k_is); (case l2 => k_is); (case c2 => k_is); (case k2 => k_is)
    (case a3 => k_is); (case l3 => k_is); (case c3 => k_is); (case k3 => k_is); (case i3 => k_is)
    (case a4 => k_is); (case l4 => k_is); (case c4 => k_is); (case k4 => k_is); (case i4 => k_is)
    (case a5 => k_is); (case pg5 => k_is); (case pt5 => k_is); (case pr5 => k_is); (case l5 => k_is); (case c5 => k_is); (case k5 => k_is)
    (case a6 => k_is); (case l6 => k_is); (case c6 => k_is); (case k6 => k_is); (case i6 => k_is)
    (case a7 => k_is); (case l7 => k_is); (case c7 => k_is); (case k7 => k_is); (case i7 => k_is)
    (case a8 => k_is); (case l8 => k_is); (case c8 => k_is); (case k8 => k_is); (case i8 => k_is)
    (case a9 => k_is); (case l9 => k_is); (case c9 => k_is); (case k9 => k_is); (case i9 => k_is)
    (case a10 => k_is); (case l10 => k_is); (case c10 => k_is); (case k10 => k_is); (case i10 => k_is)
    (case a11 => k_is); (case l11 => k_is); (case c11 => k_is); (case k11 => k_is); (case i11 => k_is)
    (case a12 => k_is); (case l12 => k_is); (case c12 => k_is); (case k12 => k_is); (case i12 => k_is)
    (case a13 => k_is); (case l13 => k_is); (case c13 => k_is); (case k13 => k_is); (case i13 => k_is)
    (case a14 => k_is); (case l14 => k_is); (case c14 => k_is); (case k14 => k_is); (case i14 => k_is)
    (case a15 => k_is); (case l15 => k_is); (case c15 => k_is); (case k15 => k_is); (case i15 => k_is)
    (case a16 => k_is); (case l16 => k_is); (case c16 => k_is); (case k16 => k_is)
    (case a17 => k_is); (case l17 => k_is); (case c17 => k_is); (case k17 => k_is)
    (case a18 => k_is); (case l18 => k_is); (case c18 => k_is); (case k18 => k_is)
    (case a19 => k_is); (case l19 => k_is); (case c19 => k_is); (case k19 => k_is)
    (case a20 => k_is); (case l20 => k_is); (case c20 => k_is); (case k20 => k_is)
    (case a21 => k_is); (case l21 => k_is); (case c21 => k_is); (case k21 => k_is)
    (case a22 => k_is); (case l22 => k_is); (case c22 => k_is); (case k22 => k_is)
    (case a23 => k_is); (case l23 => k_is); (case c23 => k_is); (case k23 => k_is)
    (case a24 => k_is); (case l24 => k_is); (case c24 => k_is); (case k24 => k_is)
    (case a25 => k_is); (case l25 => k_is); (case c25 => k_is); (case k25 => k_is)
    (case a26 => k_is); (case l26 => k_is); (case c26 => k_is); (case k26 => k_is)
    (case a27 => k_is); (case l27 => k_is); (case c27 => k_is); (case k27 => k_is)
    (case a28 => k_is); (case l28 => k_is); (case c28 => k_is); (case k28 => k_is)
    (case a29 => k_is); (case l29 => k_is); (case c29 => k_is); (case k29 => k_is)
    (case a30 => k_is); (case l30 => k_is); (case c30 => k_is); (case k30 => k_is)
    (case a31 => k_is); (case l31 => k_is); (case c31 => k_is); (case k31 => k_is)
    (case a32 => k_is); (case l32 => k_is); (case c32 => k_is); (case k32 => k_is)
    (case a33 => k_is); (case l33 => k_is); (case c33 => k_is); (case k33 => k_is)
    (case a34 => k_is); (case l34 => k_is); (case c34 => k_is); (case k34 => k_is)
    (case a35 => k_is); (case l35 => k_is); (case c35 => k_is); (case k35 => k_is)
    (case a36 => k_is); (case l36 => k_is); (case c36 => k_is); (case k36 => k_is)
    (case z_abs => k_is); (case z_bool => k_is); (case z_dict => k_is); (case z_int => k_is); (case z_isinstance => k_is); (case z_len => k_is); (case z_list => k_is); (case z_max => k_is); (case z_min => k_is); (case z_range => k_is); (case z_str => k_is); (case z_sum => k_is); (case z_tuple => k_is)
    (case q_ERROR => k_is)
    (case qa_SORTS => k_is); (case qb_SORTS => k_is); (case qc_SORTS => decide +kernel); (case qd_SORTS => decide +kernel)
