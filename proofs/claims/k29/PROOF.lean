import PyProof.Rows.All
import Wide.All
import OpenK.AllK
import Wide.FinOn
import HandS.ForMost
import HandS.StrMore
import HandS.Wide
import HandS.IsInst
import HandS.Flow
import HandS.Codes
import HandS.Deep
import HandS.EndBits
import HandS.Walk
import KE.DataEq
import HandS.OwnEq
import HandS.Comp
import HandS.Property
import KE.KIsAll
import KE.KExcIs
import HandS.Exc
import HandS.ExcOwn
import HandS.ExcInit
import HandS.ExcField
import HandS.ExcIs
import HandS.TryOnly
import HandS.TryMany
import HandS.CallSlots
import HandS.WordsExc
import HandS.Small
import HandS.FStr
import HandS.More
import KE.KeyNested
import KE.KDictKeyed
import HandS.TupLen
import HandS.Iter
import PySem.Challenge.RW_livequill_k29_iterators
set_option Elab.async false
set_option linter.all false
set_option maxRecDepth 100000
/-! Fx: readings that compute: every operation is one function of its values, whatever their kinds. -/
namespace Fx
open PySem PySem.Spec PyProof.Rows L2

/-! ### weakening -/
section
variable {X : Cx}
theorem pe_wk {e : Expr} {t t' : TE} (h : PE X e t) (w : ∀ σ H Q, t' σ H Q → t σ H Q) : PE X e t' := ⟨fun pins s σ H Q I q => h.run pins s σ H Q I (w σ H Q q)⟩
theorem pt_wk {e : Expr} {t t' : TT} (h : PT X e t) (w : ∀ σ H Q, t' σ H Q → t σ H Q) : PT X e t' := ⟨fun pins s σ H Q I q => h.run pins s σ H Q I (w σ H Q q)⟩
theorem ps_wk {e : Stmt} {t t' : TS} (h : PS X e t) (w : ∀ D σ H, t' D σ H → t D σ H) : PS X e t' := ⟨fun pins s σ H D I q => h.run pins s σ H D I (w D σ H q)⟩
theorem op_wk {f : Value → Value → Sem Value} {r r' : R2} (h : OpR X f r) (w : ∀ x y H Q, r' x y H Q → r x y H Q) : OpR X f r' := fun pins s σ H x y v u Q I rx ry q => h pins s σ H x y v u Q I rx ry (w x y H Q q)
theorem call_wk {f : Value} {r r' : List V → Hp → VK → Prop} (h : CallR X f r) (w : ∀ xs H Q, r' xs H Q → r xs H Q) : CallR X f r' := fun pins s σ H xs us Q I rx q => h pins s σ H xs us Q I rx (w xs H Q q)

/-! ### names -/
def fVar (i : Nat) : TE := fun σ H Q => match σ[i]? with
  | some (some v) => Q v H
  | _ => False
theorem fe_var (i : Nat) {x : Str} {pos : Pos} (hN : X.N[i]? = some x := by rfl) (hv : Vis X.env.scope x := by first | exact Or.inl rfl | exact Or.inr (Or.inl rfl) | exact Or.inr (Or.inr rfl)) (hd : (x == ("__debug__" : Str)) = false := by decide)
    (hcd : (x == ("__classdict__" : Str)) = false := by decide) : PE X (.Name x pos) (fVar i) := pe_wk (pe_var hN hv hd hcd) fun σ H Q q => by
  unfold fVar at q
  split at q
  · exact ⟨_, by assumption, q⟩
  · exact q.elim

theorem same_new {H : Hp} {p : Addr} {o : HO} (h : H p = none) : Same H (upd H p o) := fun b x e => by
  rw [upd_ne (ne_of_none e h)]
  exact e
/-- a new tuple, a new list: behind it a heap that has it and keeps the rest -/
def fTup (t : TA) : TE := fun σ H Q => t σ H fun xs H1 => xs.length ≤ 100000 ∧ ∀ p H2, H1 p = none → Same H1 H2 → H2 p = some (.tup xs) → Q (.ref p) H2
def fLst (t : TA) : TE := fun σ H Q => t σ H fun xs H1 => xs.length ≤ 100000 ∧ ∀ p H2, H1 p = none → Same H1 H2 → H2 p = some (.lst xs) → Q (.ref p) H2
theorem line5 {n : Nat} (h : n ≤ 100000) : n ≤ sizeLine := Nat.le_trans h (by decide)
section
variable {es : List Expr} {t : TA} {pos : Pos}
theorem fe_tup {x1} (h : PA X es t) : PE X (.Tuple es x1 pos) (fTup t) := by
  refine ⟨fun pins s σ H Q I hq => ?_⟩
  refine wpAny_Tuple_spliced (thn (h.run pos pins s σ H _ I hq) fun us s1 ⟨xs, H1, I1, r, z, q⟩ => ⟨by rw [← r.length]; exact line5 z, ?_⟩)
  have hf : H1 s1.heap.objs.size = none := I1.hok.fresh (Nat.le_refl _)
  refine ⟨.ref s1.heap.objs.size, upd H1 s1.heap.objs.size (.tup xs), I1.laid (t' := s1.toks) (fun b u e => Heap.get?_push_of_some _ e) (Nat.le_refl _) ?_, rfl, q _ _ hf (same_new hf) upd_same⟩
  exact ⟨line5 z, us, r, ⟨_, Heap.get?_push_size _ rfl, rfl, _, rfl⟩⟩
theorem fe_lst (h : PA X es t) : PE X (.List es pos) (fLst t) := by
  refine ⟨fun pins s σ H Q I hq => ?_⟩
  refine wpAny_List_spliced (thn (h.run pos pins s σ H _ I hq) fun us s1 ⟨xs, H1, I1, r, z, q⟩ => ⟨by rw [← r.length]; exact line5 z, ?_⟩)
  have hf : H1 s1.heap.objs.size = none := I1.hok.fresh (Nat.le_refl _)
  refine ⟨.ref s1.heap.objs.size, upd H1 s1.heap.objs.size (.lst xs), I1.laid (t' := s1.toks) (fun b u e => Heap.get?_push_of_some _ e) (Nat.le_refl _) ?_, rfl, q _ _ hf (same_new hf) upd_same⟩
  exact ⟨line5 z, us, 0, r, Heap.get?_push_size _ rfl⟩
end
/-! ### a list or a tuple that is read -/
def Rl (K : PySem.W.Frag) (H : Hp) (a : Addr) (xs : List V) : Prop := SqL K H a xs ∨ SqT K H a xs
theorem rl_l {K : PySem.W.Frag} {H : Hp} {a : Addr} {xs : List V} (h : H a = some (.lst xs)) : Rl K H a xs := .inl (SqL.of h)
theorem rl_t {K : PySem.W.Frag} {H : Hp} {a : Addr} {xs : List V} (h : H a = some (.tup xs)) : Rl K H a xs := .inr (SqT.of h)

/-! ### operators by values -/
def fAdd (K : PySem.W.Frag) : R2 := fun x y H Q => match x, y with
  | .int i, .int j => Q (.int (i + j)) H
  | .str a, .str b => a.length + b.length ≤ sizeLine ∧ Q (.str (a ++ b)) H
  | .ref l, .ref b => match H l, H b with
    | some (.lst xs), some (.lst zs) => xs.length + zs.length ≤ sizeLine ∧ ∀ p H1, H p = none → Same H H1 → H1 p = some (.lst (xs ++ zs)) → Q (.ref p) H1
    | _, _ => False
  | _, _ => False
theorem op_fAdd : OpR X (binaryOp .Add) (fAdd X.K) := by
  intro pins s σ H x y v u Q I rx ry h
  cases x <;> cases y <;> first
    | exact False.elim h
    | exact op_add pins s σ H _ _ v u Q I rx ry ⟨_, _, rfl, rfl, h⟩
    | exact op_add_str pins s σ H _ _ v u Q I rx ry ⟨_, _, rfl, rfl, h⟩
    | (dsimp only [fAdd] at h
       split at h
       · exact op_cat pins s σ H _ _ v u Q I rx ry ⟨_, _, _, _, rfl, rfl, by assumption, by assumption, h.1, fun p np => h.2 p _ np (same_new np) upd_same⟩
       · exact h.elim)
def fSub : R2 := fun x y H Q => match x, y with
  | .int i, .int j => Q (.int (i - j)) H
  | _, _ => False
theorem op_fSub : OpR X (binaryOp .Sub) fSub := by
  intro pins s σ H x y v u Q I rx ry h
  cases x <;> cases y <;> first
    | exact False.elim h
    | exact op_sub pins s σ H _ _ v u Q I rx ry ⟨_, _, rfl, rfl, h⟩
def fMul : R2 := fun x y H Q => match x, y with
  | .int i, .int j => IntMulOk i j ∧ Q (.int (i * j)) H
  | .str a, .int j => MulOk a j ∧ Q (.str (Txt.mul a j)) H
  | .ref l, .int k => rRep (.ref l) (.int k) H Q
  | _, _ => False
theorem op_fMul : OpR X (binaryOp .Mult) fMul := by
  intro pins s σ H x y v u Q I rx ry h
  match x, y, rx, ry, h with
  | .int i, .int j, ⟨t, e⟩, ⟨t', e'⟩, ⟨hm, q⟩ =>
    subst e e'
    exact mul_int ⟨.int _, H, I.tok _, ⟨_, rfl⟩, q⟩ hm
  | .str a, .int j, ⟨t, e⟩, ⟨t', e'⟩, ⟨hm, q⟩ =>
    subst e e'
    exact SB.mul hm fun t' k => ⟨.str _, H, I.tok _, ⟨_, rfl⟩, q⟩
  | .ref l, .int k, rx, ry, h => exact op_rep pins s σ H _ _ v u Q I rx ry h
def fDiv : R2 := fun x y H Q => match x, y with
  | .int i, .int j => CDivW i j ∧ Q (.int (i / j)) H
  | _, _ => False
theorem op_fDiv : OpR X (binaryOp .FloorDiv) fDiv := by
  intro pins s σ H x y v u Q I rx ry h
  cases x <;> cases y <;> first
    | exact False.elim h
    | exact op_fdivW pins s σ H _ _ v u Q I rx ry ⟨_, _, rfl, rfl, h⟩
def fMod : R2 := fun x y H Q => match x, y with
  | .int i, .int j => 0 < j ∧ Q (.int (i % j)) H
  | _, _ => False
theorem op_fMod : OpR X (binaryOp .Mod) fMod := by
  intro pins s σ H x y v u Q I rx ry h
  cases x <;> cases y <;> first
    | exact False.elim h
    | exact op_mod pins s σ H _ _ v u Q I rx ry ⟨_, _, rfl, rfl, h⟩
def fNeg : V → Hp → VK → Prop := fun x H Q => match x with
  | .int i => Q (.int (-i)) H
  | _ => False
theorem un_fNeg : UnR X (unaryOp .USub) fNeg := by
  intro pins s σ H x v Q I rx h
  cases x <;> first
    | exact False.elim h
    | exact un_neg pins s σ H _ v Q I rx ⟨_, rfl, h⟩
/-- data that == may look at -/
def okd (d : PyData) : Bool := d.plain && decide (d.depth ≤ 64)
/-- == of scalars as such, of lists and tuples as data -/
def fEq (K : PySem.W.Frag) (neg : Bool) : R2 := fun x y H Q =>
  if scal x y = true then Q (.bl (if neg = true then !decide (x = y) else decide (x = y))) H
  else ∃ d e, Dp K H x d ∧ Dp K H y e ∧ okd d = true ∧ okd e = true ∧ Q (.bl (if neg = true then !PyData.eqv d e else PyData.eqv d e)) H
theorem op_fEq (hu : X.A.units + 64 < cLine) : OpR X (compareOp .Eq) (fEq X.K false) := by
  intro pins s σ H x y v u Q I rx ry h
  unfold fEq at h
  split at h
  · exact op_eq pins s σ H x y v u Q I rx ry ⟨by assumption, h⟩
  · obtain ⟨d, e, hd, he, sd, se, q⟩ := h
    obtain ⟨as, r1⟩ := Dp.reads I d x v hd rx
    obtain ⟨bs, r2⟩ := Dp.reads I e y u he ry
    have sd := Bool.and_eq_true_iff.mp sd
    have se := Bool.and_eq_true_iff.mp se
    have d1 := of_decide_eq_true sd.2
    exact SeqAt.eq_plain r1 r2 sd.1 se.1 (by omega) ⟨.bl _, H, I, rfl, q⟩
theorem op_fNe (hu : X.A.units + 64 < cLine) : OpR X (compareOp .NotEq) (fEq X.K true) := by
  intro pins s σ H x y v u Q I rx ry h
  unfold fEq at h
  split at h
  · exact op_ne pins s σ H x y v u Q I rx ry ⟨by assumption, h⟩
  · obtain ⟨d, e, hd, he, sd, se, q⟩ := h
    obtain ⟨as, r1⟩ := Dp.reads I d x v hd rx
    obtain ⟨bs, r2⟩ := Dp.reads I e y u he ry
    have sd := Bool.and_eq_true_iff.mp sd
    have se := Bool.and_eq_true_iff.mp se
    have d1 := of_decide_eq_true sd.2
    exact SeqAt.ne_plain r1 r2 sd.1 se.1 (by omega) ⟨.bl _, H, I, rfl, q⟩
def fLt : R2 := fun x y H Q => match x, y with
  | .int i, .int j => Q (.bl (decide (i < j))) H
  | .str i, .str j => Q (.bl (decide (i.cps.toList < j.cps.toList))) H
  | _, _ => False
theorem op_fLt : OpR X (compareOp .Lt) fLt := by
  intro pins s σ H x y v u Q I rx ry h
  cases x <;> cases y <;> first
    | exact False.elim h
    | exact op_lt pins s σ H _ _ v u Q I rx ry ⟨_, _, rfl, rfl, h⟩
    | exact op_lt_str pins s σ H _ _ v u Q I rx ry ⟨_, _, rfl, rfl, h⟩
def fLe : R2 := fun x y H Q => match x, y with
  | .int i, .int j => Q (.bl (decide (i ≤ j))) H
  | .str i, .str j => Q (.bl (!decide (j.cps.toList < i.cps.toList))) H
  | _, _ => False
theorem op_fLe : OpR X (compareOp .LtE) fLe := by
  intro pins s σ H x y v u Q I rx ry h
  cases x <;> cases y <;> first
    | exact False.elim h
    | exact op_le pins s σ H _ _ v u Q I rx ry ⟨_, _, rfl, rfl, h⟩
    | exact op_le_str pins s σ H _ _ v u Q I rx ry ⟨_, _, rfl, rfl, h⟩
def fGt : R2 := fun x y H Q => match x, y with
  | .int i, .int j => Q (.bl (decide (j < i))) H
  | .str i, .str j => Q (.bl (decide (j.cps.toList < i.cps.toList))) H
  | _, _ => False
theorem op_fGt : OpR X (compareOp .Gt) fGt := by
  intro pins s σ H x y v u Q I rx ry h
  cases x <;> cases y <;> first
    | exact False.elim h
    | exact op_gt pins s σ H _ _ v u Q I rx ry ⟨_, _, rfl, rfl, h⟩
    | exact op_gt_str pins s σ H _ _ v u Q I rx ry ⟨_, _, rfl, rfl, h⟩
def fGe : R2 := fun x y H Q => match x, y with
  | .int i, .int j => Q (.bl (decide (j ≤ i))) H
  | .str i, .str j => Q (.bl (!decide (i.cps.toList < j.cps.toList))) H
  | _, _ => False
theorem op_fGe : OpR X (compareOp .GtE) fGe := by
  intro pins s σ H x y v u Q I rx ry h
  cases x <;> cases y <;> first
    | exact False.elim h
    | exact op_ge pins s σ H _ _ v u Q I rx ry ⟨_, _, rfl, rfl, h⟩
    | exact op_ge_str pins s σ H _ _ v u Q I rx ry ⟨_, _, rfl, rfl, h⟩
/-- x in y: one sign in a text; a text in a text; a flat value in a list or tuple of flat values -/
def fIn (K : PySem.W.Frag) (neg : Bool) : R2 := fun x y H Q => match x, y with
  | .str a, .str b => match a.cps.toList with
    | [c] => Q (.bl (if neg = true then !decide (c ∈ b.cps.toList) else decide (c ∈ b.cps.toList))) H
    | _ => Q (.bl (if neg = true then !(!(Builtin.Str.occurrences b a 0 b.length 1).isEmpty) else !(Builtin.Str.occurrences b a 0 b.length 1).isEmpty)) H
  | x, .ref p => ∃ xs, Rl K H p xs ∧ flatV x = true ∧ xs.all flatV = true ∧ Q (.bl (if neg = true then !inV x xs else inV x xs)) H
  | _, _ => False
theorem str_one {a : Str} {c : Nat} (h : a.cps.toList = [c]) : a = ⟨#[c]⟩ := by
  obtain ⟨⟨l⟩⟩ := a
  have h' : l = [c] := h
  subst h'
  rfl
theorem op_fIn : OpR X (compareOp .In) (fIn X.K false) := by
  intro pins s σ H x y v u Q I rx ry h
  cases y with
  | str b =>
    cases x with
    | str a =>
      dsimp only [fIn] at h
      split at h
      · rename_i c e
        cases str_one e
        exact op_in_sign pins s σ H _ _ v u Q I rx ry ⟨_, _, rfl, rfl, h⟩
      · exact op_in_str pins s σ H _ _ v u Q I rx ry ⟨_, _, rfl, rfl, h⟩
    | _ => exact False.elim h
  | ref p =>
    have h' : ∃ xs, Rl X.K H p xs ∧ flatV x = true ∧ xs.all flatV = true ∧ Q (.bl (if false = true then !inV x xs else inV x xs)) H := by
      cases x <;> exact h
    obtain ⟨xs, h1, h2, h3, h4⟩ := h'
    exact op_in_seq pins s σ H _ _ v u Q I rx ry ⟨p, xs, rfl, h1, h2, h3, h4⟩
  | _ => cases x <;> exact False.elim h
theorem op_fNotIn : OpR X (compareOp .NotIn) (fIn X.K true) := by
  intro pins s σ H x y v u Q I rx ry h
  cases y with
  | str b =>
    cases x with
    | str a =>
      dsimp only [fIn] at h
      split at h
      · rename_i c e
        cases str_one e
        exact op_notIn_sign pins s σ H _ _ v u Q I rx ry ⟨_, _, rfl, rfl, h⟩
      · exact op_notin_str pins s σ H _ _ v u Q I rx ry ⟨_, _, rfl, rfl, h⟩
    | _ => exact False.elim h
  | ref p =>
    have h' : ∃ xs, Rl X.K H p xs ∧ flatV x = true ∧ xs.all flatV = true ∧ Q (.bl (if true = true then !inV x xs else inV x xs)) H := by
      cases x <;> exact h
    obtain ⟨xs, h1, h2, h3, h4⟩ := h'
    exact op_notIn_seq pins s σ H _ _ v u Q I rx ry ⟨p, xs, rfl, h1, h2, h3, h4⟩
  | _ => cases x <;> exact False.elim h
/-- is, with None on the right -/
def fIsN : R2 := fun x y H Q => y = .non ∧ Q (.bl (decide (x = .non))) H
def fNotN : R2 := fun x y H Q => y = .non ∧ Q (.bl (!decide (x = .non))) H
theorem op_fIsN : OpR X (compareOp .Is) fIsN := op_isN
theorem op_fNotN : OpR X (compareOp .IsNot) fNotN := op_notN
/-- x[i] -/
def fIx (K : PySem.W.Frag) : R2 := fun x y H Q => match x, y with
  | .str z, .int i => z.length ≤ sizeLine ∧ ∃ c, atI z.cps.toList i = some c ∧ Q (.str ⟨#[c]⟩) H
  | .ref p, .int i => ∃ xs, Rl K H p xs ∧ ∃ v, atI xs i = some v ∧ Q v H
  | _, _ => False
theorem ix_fx : IxR X (fIx X.K) := by
  intro e1 e2 pins s σ H x y v u Q I rx ry h hs
  cases x <;> cases y <;> first
    | exact False.elim h
    | (obtain ⟨h1, c, h2, h3⟩ := h
       exact ix_str e1 e2 pins s σ H _ _ v u Q I rx ry ⟨_, _, c, rfl, rfl, h1, h2, h3⟩ hs)
    | (obtain ⟨xs, h1, w, h2, h3⟩ := h
       rcases h1 with h1 | h1
       · exact ix_list e1 e2 pins s σ H _ _ v u Q I rx ry ⟨_, xs, _, w, rfl, rfl, h1, h2, h3⟩ hs
       · exact ix_tup e1 e2 pins s σ H _ _ v u Q I rx ry ⟨_, xs, _, w, rfl, rfl, h1, h2, h3⟩ hs)
/-- x[lo:hi] of a text, of a list -/
def fSl (K : PySem.W.Frag) : V → Option Int → Option Int → Hp → VK → Prop := fun x lo hi H Q => match x with
  | .str z => z.length ≤ sizeLine ∧ Q (.str (cutS z lo hi)) H
  | .ref a => ∃ xs, SqL K H a xs ∧ ∀ p H1, H p = none → Same H H1 → H1 p = some (.lst (cutV xs lo hi)) → Q (.ref p) H1
  | _ => False
theorem sl_fx : SlR X (fSl X.K) := by
  intro pins s σ H x v vl vu lo hi sl Q I rx hs pl pu h
  cases x <;> first
    | exact False.elim h
    | exact sl_str pins s σ H _ v vl vu lo hi sl Q I rx hs pl pu ⟨_, rfl, h⟩
    | (obtain ⟨xs, h1, h2⟩ := h
       exact sl_list pins s σ H _ v vl vu lo hi sl Q I rx hs pl pu ⟨_, xs, rfl, h1, fun p np => h2 p _ np (same_new np) upd_same⟩)
/-- o[i] = v of a list -/
def fSet : TSet := fun o i v H Q => match o, i with
  | .ref p, .int k => match H p with
    | some (.lst xs) => ∃ j, ixN xs.length k = some j ∧ Q (upd H p (.lst (xs.set j v)))
    | _ => False
  | _, _ => False
theorem set_fx : PSet X fSet := by
  intro pins s σ H o i v ov iv u Q I ro ri rv h
  cases o <;> cases i <;> first
    | exact False.elim h
    | (dsimp only [fSet] at h
       split at h
       · obtain ⟨j, h2, h3⟩ := h
         exact set_list pins s σ H _ _ v ov iv u Q I ro ri rv ⟨_, _, _, j, rfl, rfl, by assumption, h2, h3⟩
       · exact h.elim)
/-- name += e -/
def fIAdd : TIp := fun x y H Q => match x, y with
  | .int i, .int j => Q (.int (i + j)) H
  | .str a, .str b => a.length + b.length ≤ sizeLine ∧ Q (.str (a ++ b)) H
  | _, _ => False
theorem ip_fAdd : PIp X .Add fIAdd := by
  intro pins s σ H x y v u Q I rx ry h
  cases x <;> cases y <;> first
    | exact False.elim h
    | exact ip_add pins s σ H _ _ v u Q I rx ry ⟨_, _, rfl, rfl, h⟩
    | exact iop_add_str pins s σ H _ _ v u Q I rx ry ⟨_, _, rfl, rfl, h⟩
def fISub : TIp := fun x y H Q => match x, y with
  | .int i, .int j => Q (.int (i - j)) H
  | _, _ => False
theorem ip_fSub : PIp X .Sub fISub := by
  intro pins s σ H x y v u Q I rx ry h
  cases x <;> cases y <;> first
    | exact False.elim h
    | exact ip_sub pins s σ H _ _ v u Q I rx ry ⟨_, _, rfl, rfl, h⟩
/-! ### built-in calls -/
def fLen (K : PySem.W.Frag) : List V → Hp → VK → Prop := fun xs H Q => match xs with
  | [.str z] => z.length ≤ sizeLine ∧ Q (.int z.length) H
  | [.ref p] => ∃ ys, Rl K H p ys ∧ Q (.int ys.length) H
  | _ => False
theorem call_fLen : CallR X (.builtin "len") (fLen X.K) := by
  intro pins s σ H xs us Q I r h
  match xs, r, h with
  | [.str z], r, h => exact call_len_str pins s σ H _ us Q I r ⟨z, rfl, h⟩
  | [.ref p], r, h =>
    obtain ⟨ys, h1, h2⟩ := h
    exact call_len_seq pins s σ H _ us Q I r ⟨p, ys, rfl, h1, h2⟩
/-- len of a dict -/
def fLenD : List V → Hp → VK → Prop := fun xs H Q => match xs with
  | [.ref p] => ∃ kvs, H p = some (.dK kvs) ∧ Q (.int kvs.length) H
  | _ => False
theorem call_fLenD : CallR X (.builtin "len") fLenD := by
  intro pins s σ H xs us Q I r h
  match xs, r, h with
  | [.ref p], r, h =>
    obtain ⟨kvs, h1, h2⟩ := h
    exact call_lenD pins s σ H _ us Q I r ⟨p, kvs, rfl, h1, h2⟩
def fInt : List V → Hp → VK → Prop := fun xs H Q => match xs with
  | [.int i] => Q (.int i) H
  | [.bl k] => Q (.int (if k then 1 else 0)) H
  | [.str a] => ∃ n, PySem.intText? a = some n ∧ a.length ≤ 640 ∧ Q (.int n) H
  | _ => False
theorem call_fInt : CallR X (.type "int") fInt := by
  intro pins s σ H xs us Q I r h
  match xs, r, h with
  | [.int i], r, h => exact call_int1 pins s σ H _ us Q I r (.inl ⟨i, rfl, h⟩)
  | [.bl k], r, h => exact call_int1 pins s σ H _ us Q I r (.inr ⟨k, rfl, h⟩)
  | [.str a], r, h =>
    obtain ⟨n, h1, h2, h3⟩ := h
    exact call_int_str pins s σ H _ us Q I r ⟨a, n, rfl, h1, h2, h3⟩
def fStr : List V → Hp → VK → Prop := fun xs H Q => match xs with
  | [.int i] => i.natAbs.log2 < 1920 ∧ Q (.str (toString i)) H
  | _ => False
theorem call_fStr : CallR X (.type "str") fStr := by
  intro pins s σ H xs us Q I r h
  match xs, r, h with
  | [.int i], r, h => exact call_str_int pins s σ H _ us Q I r ⟨i, rfl, h⟩
def fAbs : List V → Hp → VK → Prop := fun xs H Q => match xs with
  | [.int i] => Q (.int (if i < 0 then -i else i)) H
  | _ => False
theorem call_fAbs : CallR X (.builtin "abs") fAbs := by
  intro pins s σ H xs us Q I r h
  match xs, r, h with
  | [.int i], r, h => exact call_abs pins s σ H _ us Q I r ⟨i, rfl, h⟩
def fMax : List V → Hp → VK → Prop := fun xs H Q => match xs with
  | [.int i, .int j] => Q (.int (if j > i then j else i)) H
  | _ => False
theorem call_fMax (hc : X.calm = true) : CallR X (.builtin "max") fMax := by
  intro pins s σ H xs us Q I r h
  match xs, r, h with
  | [.int i, .int j], r, h => exact call_max2 hc pins s σ H _ us Q I r ⟨i, j, rfl, h⟩
def fMin : List V → Hp → VK → Prop := fun xs H Q => match xs with
  | [.int i, .int j] => Q (.int (if j < i then j else i)) H
  | _ => False
theorem call_fMin (hc : X.calm = true) : CallR X (.builtin "min") fMin := by
  intro pins s σ H xs us Q I r h
  match xs, r, h with
  | [.int i, .int j], r, h => exact call_min2 hc pins s σ H _ us Q I r ⟨i, j, rfl, h⟩
def fOrd : List V → Hp → VK → Prop := fun xs H Q => match xs with
  | [.str x] => ∃ c, x.cps.toList = [c] ∧ Q (.int (c : Nat)) H
  | _ => False
theorem call_fOrd : CallR X (.builtin "ord") fOrd := by
  intro pins s σ H xs us Q I r h
  match xs, r, h with
  | [.str x], r, h =>
    obtain ⟨c, h1, h2⟩ := h
    cases str_one h1
    exact call_ord pins s σ H _ us Q I r ⟨_, rfl, rfl, h2⟩
def fChr : List V → Hp → VK → Prop := fun xs H Q => match xs with
  | [.int i] => (0 ≤ i ∧ i ≤ 1114111) ∧ Q (.str ⟨#[i.toNat]⟩) H
  | _ => False
theorem call_fChr : CallR X (.builtin "chr") fChr := by
  intro pins s σ H xs us Q I r h
  match xs, r, h with
  | [.int i], r, h => exact call_chr pins s σ H _ us Q I r ⟨i, rfl, h.1.1, h.1.2, h.2⟩
/-- list(x): a new list -/
def fListOf (K : PySem.W.Frag) : List V → Hp → VK → Prop := fun xs H Q => match xs with
  | [.ref p] => ∃ ys, Rl K H p ys ∧ ∀ l H1, H l = none → Same H H1 → H1 l = some (.lst ys) → Q (.ref l) H1
  | _ => False
theorem call_fListOf : CallR X (.type "list") (fListOf X.K) := by
  intro pins s σ H xs us Q I r h
  match xs, r, h with
  | [.ref p], r, h =>
    obtain ⟨ys, h1, h2⟩ := h
    exact call_list_of pins s σ H _ us Q I r ⟨p, ys, rfl, h1, fun l nl => h2 l _ nl (same_new nl) upd_same⟩
/-! ### isinstance of a built-in class -/
/-- a value's built-in class (by the abstract heap), where it is plain -/
def tyOf (H : Hp) : V → Option String
  | .non => some "NoneType"
  | .bl _ => some "bool"
  | .int _ => some "int"
  | .str _ => some "str"
  | .ref a => match H a with
    | some (.lst _) => some "list"
    | some (.tup _) => some "tuple"
    | some (.dK _) => some "dict"
    | some (.dT _) => some "dict"
    | _ => none
  | _ => none
theorem tyX_of {K : PySem.W.Frag} {H : Hp} {x : V} {t : String} (h : tyOf H x = some t) : TyX K H x (.type t) := by
  cases x with
  | non => cases h; exact .base .non
  | bl b => cases h; exact .base (.bl b)
  | int b => cases h; exact .base (.int b)
  | str b => cases h; exact .base (.str b)
  | ref a =>
    dsimp only [tyOf] at h
    split at h <;> first
      | (cases h; exact .base (.lst (by assumption)))
      | (cases h; exact .base (.tup (by assumption)))
      | (cases h; exact .base (.dK (by assumption)))
      | (cases h; exact .base (.dT (by assumption)))
      | cases h
  | _ => cases h
/-- one of some built-in classes -/
def kitBs (t : String) : List V → Option Bool
  | [] => some false
  | .ty n :: cs => match kitB t n, kitBs t cs with
    | some b, some r => some (b || r)
    | _, _ => none
  | _ => none
theorem kitBs_any {K : PySem.W.Frag} {t : String} : ∀ {cs : List V} {r : Bool}, kitBs t cs = some r → ∃ us, Paired ClsV cs us ∧ PySem.W.kitAny K (.type t) us = some r
  | [], r, h => by cases h; exact ⟨[], .nil, kitAny_nil⟩
  | c :: cs, r, h => by
    cases c <;> first
      | cases h
      | (rename_i n
         unfold kitBs at h
         split at h
         · rename_i b r' e e2
           cases h
           obtain ⟨us, p, q⟩ := kitBs_any e2
           refine ⟨_, .cons (.ty n) p, kitAny_cons (kit_ty e) (fun hb => ?_) fun hb => ?_⟩
           · rw [hb]; exact q
           · rw [hb]; rfl
         · cases h)
theorem kitBv : kitB "NoneType" "bool" = some false ∧ kitB "NoneType" "int" = some false ∧ kitB "NoneType" "str" = some false ∧ kitB "NoneType" "list" = some false ∧ kitB "NoneType" "tuple" = some false ∧ kitB "NoneType" "dict" = some false ∧ kitB "bool" "bool" = some true ∧ kitB "bool" "int" = some true ∧ kitB "bool" "str" = some false ∧ kitB "bool" "list" = some false ∧ kitB "bool" "tuple" = some false ∧ kitB "bool" "dict" = some false ∧ kitB "int" "bool" = some false ∧ kitB "int" "int" = some true ∧ kitB "int" "str" = some false ∧ kitB "int" "list" = some false ∧ kitB "int" "tuple" = some false ∧ kitB "int" "dict" = some false ∧ kitB "str" "bool" = some false ∧ kitB "str" "int" = some false ∧ kitB "str" "str" = some true ∧ kitB "str" "list" = some false ∧ kitB "str" "tuple" = some false ∧ kitB "str" "dict" = some false ∧ kitB "list" "bool" = some false ∧ kitB "list" "int" = some false ∧ kitB "list" "str" = some false ∧ kitB "list" "list" = some true ∧ kitB "list" "tuple" = some false ∧ kitB "list" "dict" = some false ∧ kitB "tuple" "bool" = some false ∧ kitB "tuple" "int" = some false ∧ kitB "tuple" "str" = some false ∧ kitB "tuple" "list" = some false ∧ kitB "tuple" "tuple" = some true ∧ kitB "tuple" "dict" = some false ∧ kitB "dict" "bool" = some false ∧ kitB "dict" "int" = some false ∧ kitB "dict" "str" = some false ∧ kitB "dict" "list" = some false ∧ kitB "dict" "tuple" = some false ∧ kitB "dict" "dict" = some true := by decide +kernel
/-- isinstance(x, T), T a built-in class, or a new tuple of such -/
def fIsi : List V → Hp → VK → Prop := fun xs H Q => match xs with
  | [x, .ty n] => ∃ t, tyOf H x = some t ∧ ∃ b, kitB t n = some b ∧ Q (.bl b) H
  | [x, .ref p] => match H p with
    | some (.tup cs) => ∃ t, tyOf H x = some t ∧ ∃ b, kitBs t cs = some b ∧ Q (.bl b) H
    | _ => False
  | _ => False
theorem call_fIsi : CallR X (.builtin "isinstance") fIsi := by
  intro pins s σ H xs us Q I r h
  match xs, r, h with
  | [x, .ty n], r, h =>
    obtain ⟨t, h1, b, h2, h3⟩ := h
    exact call_isi pins s σ H _ us Q I r ⟨x, .ty n, _, _, b, rfl, .ty n, tyX_of h1, kit_ty h2, h3⟩
  | [x, .ref p], r, h =>
    dsimp only [fIsi] at h
    split at h
    · obtain ⟨t, h1, b, h2, h3⟩ := h
      obtain ⟨ws, h4, h5⟩ := kitBs_any h2
      exact call_isiT pins s σ H _ us Q I r ⟨x, p, _, _, ws, b, rfl, by assumption, h4, tyX_of h1, h5, h3⟩
    · exact h.elim
/-! ### methods of built-in types -/
def isLst : V → Hp → Prop := fun x H => match x with
  | .ref p => match H p with
    | some (.lst _) => True
    | _ => False
  | _ => False
theorem isLst_ty {K : PySem.W.Frag} {x : V} {H : Hp} (h : isLst x H) : tyV K "list" x H := by
  unfold isLst at h
  split at h
  · split at h
    · exact .inl ⟨rfl, _, SqL.of (by assumption)⟩
    · exact h.elim
  · exact h.elim
def isDct : V → Hp → Prop := fun x H => match x with
  | .ref p => match H p with
    | some (.dK _) => True
    | _ => False
  | _ => False
theorem isDct_ty {K : PySem.W.Frag} {x : V} {H : Hp} (h : isDct x H) : tyV K "dict" x H := by
  unfold isDct at h
  split at h
  · split at h
    · exact .inr (.inr (.inl ⟨rfl, .inl ⟨_, by assumption⟩⟩))
    · exact h.elim
  · exact h.elim
def isStr : V → Hp → Prop := fun x _ => match x with
  | .str _ => True
  | _ => False
theorem isStr_ty {K : PySem.W.Frag} {x : V} {H : Hp} (h : isStr x H) : tyV K "str" x H := by
  cases x <;> first | exact rfl | exact False.elim h
section
variable {o e : Expr} {es : List Expr} {to te : TE} {t : TA} {apos cpos : Pos} {T id : String} {name : Str} {r : V → List V → Hp → VK → Prop} {ty : V → Hp → Prop}
def fBM0 (ty : V → Hp → Prop) (r : V → List V → Hp → VK → Prop) (to : TE) : TE := fun σ H Q => to σ H fun x H1 => ty x H1 ∧ r x [] H1 Q
def fBM (ty : V → Hp → Prop) (r : V → List V → Hp → VK → Prop) (to : TE) (t : TA) : TE := fun σ H Q => to σ H fun x H1 => ty x H1 ∧ t σ H1 fun xs H2 => r x xs H2 Q
theorem fe_bm0 (pa : PlainAttrs T) (slot : Slot T name id) (hty : typeOf (.builtin id) = pure (.type "method_descriptor")) (hT : ∀ {K : PySem.W.Frag} {x : V} {H : Hp}, ty x H → tyV K T x H) (hm : MtR X id r) (ho : PE X o to)
    (hbase : attributeBase o name X.env (eval o X.env) = eval o X.env := by rfl) (hline : (apos.endLine == cpos.line) = true := by rfl) : PE X (.Call (.Attribute o name apos) [] [] cpos) (fBM0 ty r to) := by
  refine ⟨fun pins s σ H Q I h => ?_⟩
  refine wpAny_Call_method0_late hbase hline (thn (ho.run pins s σ H _ I h) fun v s1 ⟨x, H1, I1, r1, tyx, q1⟩ => ?_)
  obtain ⟨h1, h2⟩ := tyV_is I1 r1 (hT tyx)
  exact ⟨T, id, pa, slot, hty, h1, h2, Calls.callWith_builtin rfl (PySem.evalArgs_none (hm pins s1 σ H1 x [] v [] Q I1 r1 .nil q1))⟩
theorem fe_bm (pa : PlainAttrs T) (slot : Slot T name id) (hty : typeOf (.builtin id) = pure (.type "method_descriptor")) (hT : ∀ {K : PySem.W.Frag} {x : V} {H : Hp}, ty x H → tyV K T x H) (hm : MtR X id r) (ho : PE X o to) (ha : PA X (e :: es) t)
    (hbase : attributeBase o name X.env (eval o X.env) = eval o X.env := by rfl)
    (hfew : ((backTo cpos (starEach (e :: es) X.env)).all (fun x => !x.1) && (backToKw cpos (keywordEach [] X.env)).all (fun x => x.1.isSome)
      && decide ((e :: es).length + ([] : List Keyword).length + (if ([] : List Keyword).isEmpty then 0 else 1) < 30)) = true := by rfl)
    (hline : (apos.endLine == cpos.line) = true := by rfl) (hs : starEach (e :: es) X.env = (false, eval e X.env) :: starEach es X.env := by rfl) (hplain : (backTo cpos (starEach es X.env)).any (·.1) = false := by rfl) :
    PE X (.Call (.Attribute o name apos) (e :: es) [] cpos) (fBM ty r to t) := by
  refine ⟨fun pins s σ H Q I h => ?_⟩
  refine wpAny_Call_method_late hbase hfew hline rfl (thn (ho.run pins s σ H _ I h) fun v s1 ⟨x, H1, I1, r1, tyx, q1⟩ => ?_)
  obtain ⟨h1, h2⟩ := tyV_is I1 r1 (hT tyx)
  refine ⟨T, id, pa, slot, hty, h1, h2, ?_⟩
  have hA := ha.run cpos pins s1 σ H1 _ I1 q1
  rw [hs] at hA ⊢
  refine Calls.callWith_builtin (by show (false || (backTo cpos (starEach es X.env)).any (·.1)) = false; rw [hplain] <;> rfl) (Calls.evalArgs_plain ?_)
  exact thn hA fun us s2 ⟨vs, H2, I2, r2, q2⟩ => hm pins s2 σ H2 x vs v us Q I2 r1 r2 q2
end
def fAppend : V → List V → Hp → VK → Prop := fun x vs H Q => match x, vs with
  | .ref l, [y] => match H l with
    | some (.lst xs) => xs.length < sizeLine ∧ Q .non (upd H l (.lst (xs ++ [y])))
    | _ => False
  | _, _ => False
theorem mt_fAppend : MtR X "list.append" fAppend := by
  intro pins s σ H x xs v us Q I rx rs h
  unfold fAppend at h
  split at h
  · split at h
    · exact mt_append pins s σ H _ _ v us Q I rx rs ⟨_, _, _, rfl, rfl, by assumption, h⟩
    · exact h.elim
  · exact h.elim
/-- a text's method with one text, by its function -/
def fS1 (g : Str → Str → V) : V → List V → Hp → VK → Prop := fun x vs H Q => match x, vs with
  | .str a, [.str b] => Q (g a b) H
  | _, _ => False
theorem mt_fS1 {id : String} {g : Str → Str → V} (h : MtR X id (fun x xs H Q => ∃ a b, x = .str a ∧ xs = [.str b] ∧ Q (g a b) H)) : MtR X id (fS1 g) := by
  intro pins s σ H x xs v us Q I rx rs q
  unfold fS1 at q
  split at q
  · exact h pins s σ H _ _ v us Q I rx rs ⟨_, _, rfl, rfl, q⟩
  · exact q.elim
theorem mt_fCount : MtR X "str.count" (fS1 fun a b => .int (Txt.count a b)) := mt_fS1 mt_count
theorem mt_fFind : MtR X "str.find" (fS1 fun a b => .int (Txt.find a b)) := mt_fS1 mt_find
theorem mt_fRfind : MtR X "str.rfind" (fS1 fun a b => .int (Txt.rfind a b)) := mt_fS1 mt_rfind
theorem mt_fStarts : MtR X "str.startswith" (fS1 fun a b => .bl (Txt.startswith a b)) := mt_fS1 mt_startswith
theorem mt_fEnds : MtR X "str.endswith" (fS1 fun a b => .bl (Txt.endswith a b)) := mt_fS1 mt_endswith

/-! ### statements, loops -/
theorem seq_ {t1 t2 : TS} {D : Ends} {σ : L2.St} {H : Hp} (h : ∀ N : L2.St → Hp → Prop, (∀ σ H, t2 D σ H → N σ H) → t1 { D with nx := N } σ H) : tSeq t1 t2 D σ H := h _ fun _ _ x => x
/-- what follows is a word of its own -/
theorem cut_ {t : TS} {D : Ends} {σ : L2.St} {H : Hp} (h : ∀ N : L2.St → Hp → Prop, (∀ σ H, D.nx σ H → N σ H) → t { D with nx := N } σ H) : t D σ H := h _ fun _ _ x => x
theorem ifs_ {c : TT} {t u : TS} {D : Ends} {σ : L2.St} {H : Hp} (h : c σ H fun b H1 => if b = true then t D σ H1 else u D σ H1) : tIfS c t u D σ H := h
/-- a loop that is at hand -/
def Loop (J : It) (g : TG) (tb : TS) (D : Ends) (σ : L2.St) (H : Hp) : Prop := ∃ W : Nat → Nat → L2.St → Hp → Prop, (∃ m, W 0 m σ H) ∧ ∀ i m σ H, W i m σ H →
  (J.stop i H ∧ D.nx σ H) ∨ (J.go i H ∧ ∃ N : L2.St → Hp → Prop, (∀ σ' H', N σ' H' → ∃ m', m' < m ∧ W (i + 1) m' σ' H') ∧ ∀ x H', J.yld i H x H' → g x σ H' fun σ2 H2 => tb { D with nx := N, ct := N, bk := D.nx } σ2 H2)
theorem for_eq (wi : TI) (g : TG) (tb : TS) (D : Ends) (σ : L2.St) (H : Hp) : tFor wi g tb D σ H = wi σ H fun J H1 => Loop J g tb D σ H1 := rfl
theorem for_ {wi : TI} {g : TG} {tb : TS} {D : Ends} {σ : L2.St} {H : Hp} (h : wi σ H fun J H1 => Loop J g tb D σ H1) : tFor wi g tb D σ H := h
theorem loop_range {lo : Int} {n : Nat} {g : TG} {tb : TS} {D : Ends} {σ : L2.St} {H : Hp} (Pv : Nat → L2.St → Hp → Prop) (h0 : Pv 0 σ H)
    (hs : ∀ i σ H, i < n → Pv i σ H → g (.int (lo + i)) σ H fun σ2 H2 => tb { D with nx := Pv (i + 1), ct := Pv (i + 1), bk := D.nx } σ2 H2) (hd : ∀ σ H, Pv n σ H → D.nx σ H) : Loop (Itr lo n) g tb D σ H := for_range Pv h0 hs hd
theorem loop_list {K : PySem.W.Frag} {a : Addr} {g : TG} {tb : TS} {D : Ends} {σ : L2.St} {H : Hp} (xs : List V) (Pv : Nat → L2.St → Hp → Prop) (h0 : Pv 0 σ H) (hl : ∀ i σ H, i ≤ xs.length → Pv i σ H → SqL K H a xs)
    (hs : ∀ i x σ H, xs[i]? = some x → Pv i σ H → g x σ H fun σ2 H2 => tb { D with nx := Pv (i + 1), ct := Pv (i + 1), bk := D.nx } σ2 H2) (hd : ∀ σ H, Pv xs.length σ H → D.nx σ H) : Loop (Itl K a) g tb D σ H := for_list Pv h0 hl hs hd
theorem loop_tup {K : PySem.W.Frag} {a : Addr} {g : TG} {tb : TS} {D : Ends} {σ : L2.St} {H : Hp} (xs : List V) (Pv : Nat → L2.St → Hp → Prop) (h0 : Pv 0 σ H) (hl : ∀ i σ H, i ≤ xs.length → Pv i σ H → SqT K H a xs)
    (hs : ∀ i x σ H, xs[i]? = some x → Pv i σ H → g x σ H fun σ2 H2 => tb { D with nx := Pv (i + 1), ct := Pv (i + 1), bk := D.nx } σ2 H2) (hd : ∀ σ H, Pv xs.length σ H → D.nx σ H) : Loop (Itt K a) g tb D σ H := for_tup Pv h0 hl hs hd
theorem loop_str {z : Str} {g : TG} {tb : TS} {D : Ends} {σ : L2.St} {H : Hp} (Pv : Nat → L2.St → Hp → Prop) (h0 : Pv 0 σ H)
    (hs : ∀ i c σ H, z.cps.toList[i]? = some c → Pv i σ H → g (.str ⟨#[c]⟩) σ H fun σ2 H2 => tb { D with nx := Pv (i + 1), ct := Pv (i + 1), bk := D.nx } σ2 H2) (hd : ∀ σ H, Pv z.length σ H → D.nx σ H) : Loop (Its z) g tb D σ H :=
  for_it walk_str Pv h0 (fun _ _ _ _ _ => trivial) (fun i x σ H H' hi p y => by
    obtain ⟨rfl, c, hc, rfl⟩ := y
    exact hs i c σ _ (by rw [Array.getElem?_toList]; exact hc) p) hd
end
end Fx

/-! ### defs by name -/
namespace Fx
open PySem PySem.Spec PyProof.Rows L2
/-- the def that stands at the module's name x keeps the promise sp -/
structure Has (P : Program) (w : World) (K : PySem.W.Frag) (mg : Str → Option Value) (base : Heap) (CX : CXT) (x : Str) (k : Nat) (ps : List Str) (sp : Sp) : Prop where
  ex : ∃ (f : Addr) (fd : FuncData), FnOk P w K mg base CX k f fd ps sp ∧ Binds K fd ps [] ∧ mg x = some (.ref f) ∧ PySem.W.keepIn K (.ref f) = true
/-- what the top has written of a def -/
structure FnFact (K : PySem.W.Frag) (x qual : Str) (st : Stmt) : Prop where
  ex : ∃ (f : Addr) (oc : Value) (od an : Option Addr) (sl : Array (Option Value)) (kV dc pm cd ct : Value),
    PySem.W.nsIn K mainGlobals x = some (some (.ref f)) ∧ K.lookup f = some ⟨oc, od, .func (PySem.W.fnOf x qual (defArgs st) (defBody st) (defScope st) .none kV dc pm an cd ct), sl⟩ ∧
    PySem.W.codeIn K cd qual = true ∧ PySem.W.keepIn K (.ref f) = true
theorem FnFact.of {K : PySem.W.Frag} {x qual : Str} {st : Stmt} {f : Addr} {oc : Value} {od an : Option Addr} {sl : Array (Option Value)} {kV dc pm cd ct : Value}
    (a : PySem.W.nsIn K mainGlobals x = some (some (.ref f))) (l : K.lookup f = some ⟨oc, od, .func (PySem.W.fnOf x qual (defArgs st) (defBody st) (defScope st) .none kV dc pm an cd ct), sl⟩)
    (c : PySem.W.codeIn K cd qual = true) (k : PySem.W.keepIn K (.ref f) = true) : FnFact K x qual st := ⟨f, oc, od, an, sl, kV, dc, pm, cd, ct, a, l, c, k⟩
/-- a def as it stands -/
structure At (K : PySem.W.Frag) (mg : Str → Option Value) (x qual : Str) (st : Stmt) (ps : List Str) : Prop where
  ex : ∃ (f : Addr) (fd : FuncData), Fun K x qual st f fd ∧ Binds K fd ps [] ∧ mg x = some (.ref f)
theorem At.of {K : PySem.W.Frag} {mg : Str → Option Value} {x qual : Str} {st : Stmt} {ps : List Str} {h : Heap} (X : K.In h) (G : h.Ns mainGlobals mg) (F : FnFact K x qual st)
    (hb : ∀ (kV doc pm : Value) (an : Option Addr) (cdv ct : Value) (us : List Value), us.length = ps.length → bindArgs (PySem.W.fnOf x qual (defArgs st) (defBody st) (defScope st) .none kV doc pm an cdv ct) ⟨us, []⟩ = pure (ps.zip us)) : At K mg x qual st ps := by
  obtain ⟨f, oc, od, an, sl, kV, dc, pm, cd, ct, a, l, c, k⟩ := F.ex
  have F1 := fun_mk (st := st) l c k
  exact ⟨_, _, F1, F1.binds hb, PySem.W.mg_of X G a⟩
section
variable {P : Program} {w : World} {K : PySem.W.Frag} {mg : Str → Option Value} {base : Heap}
theorem has_of {x qual : Str} {st : Stmt} {N ps : List Str} {k : Nat} {sp : Sp} (A : At K mg x qual st ps) (S : FnScope N ps (defScope st)) (len : ∀ vs H Q E, sp vs H Q E → vs.length = ps.length)
    (hbody : ∀ (cdv : Value) (f : Addr) (A : Around) (outer : List Env) (s : Shared) (H : Hp) (vs : List V) (Q : VK) (E : XK), Room k (A.deeper (envOfC qual (defScope st) s.heap.objs.size f cdv)) → sp vs H Q E →
      ∃ t, PSs (cxOf CX0 P w K mg base N qual (defScope st) f cdv A outer s H E).nox (defBody st) t ∧ t { nx := fun _ H' => Q .non H', rt := Q } (start N vs) H) : Has P w K mg base CX0 x (k + 1) ps sp := by
  obtain ⟨f, fd, F, B, G⟩ := A.ex
  exact ⟨f, fd, F.ok S len fun cdv A outer s H vs Q E hr h => hbody cdv f A outer s H vs Q E hr h, B, G, F.kp⟩
def spNone : Sp := fun _ _ _ _ => False
/-- a def of which nothing is promised -/
theorem At.never {x qual : Str} {st : Stmt} {ps : List Str} (A : At K mg x qual st ps) : Has P w K mg base CX0 x 0 ps spNone := by
  obtain ⟨f, fd, F, B, G⟩ := A.ex
  exact ⟨f, fd, ⟨fun _ _ _ _ h => h.elim, fun _ _ _ _ _ _ _ _ _ _ _ _ _ h => h.elim⟩, B, G, F.kp⟩
theorem Has.mono {CX : CXT} {x : Str} {j k : Nat} {ps : List Str} {sp : Sp} (h : Has P w K mg base CX x j ps sp) (hk : j ≤ k) : Has P w K mg base CX x k ps sp := by
  obtain ⟨f, fd, F, B, G, kp⟩ := h.ex
  exact ⟨f, fd, F.mono hk, B, G, kp⟩
end
section
variable {X : Cx} {CX : CXT} {k : Nat} {x : Str} {p pos : Pos} {e : Expr} {es : List Expr} {t : TA} {ps : List Str} {sp : Sp} {E : XK}
theorem fe_call (h : Has X.prog X.w X.K X.mg X.base CX x k ps sp) (hr : Room k X.A) (hg : Gl X x) (hx : Passes CX X E) (ha : PA X (e :: es) t) (hd : (x == ("__debug__" : Str)) = false := by decide)
    (hs : starEach (e :: es) X.env = (false, eval e X.env) :: starEach es X.env := by rfl) (hplain : (backTo pos (starEach es X.env)).any (·.1) = false := by rfl) : PE X (.Call (.Name x p) (e :: es) [] pos) (tCall sp [] E t) := by
  obtain ⟨f, fd, F, B, G, kp⟩ := h.ex
  exact pe_call F hr hg G kp B .nil hx ha hd hs hplain
theorem fe_call0 (h : Has X.prog X.w X.K X.mg X.base CX x k ps sp) (hr : Room k X.A) (hg : Gl X x) (hx : Passes CX X E) (hd : (x == ("__debug__" : Str)) = false := by decide) : PE X (.Call (.Name x p) [] [] pos) (tCall sp [] E tNil) := by
  obtain ⟨f, fd, F, B, G, kp⟩ := h.ex
  exact pe_call0 F hr hg G kp B .nil hx hd
end
end Fx

namespace Fx
open PySem PySem.Spec PyProof.Rows L2
section
variable {X : Cx}
/-- a built-in class as a value -/
theorem fe_ty {x : Str} {n : String} {pos : Pos} (hg : Gl X x) (hm : X.mg x = none) (hv : bootBuiltins x = some (.type n)) (hn : x ≠ "__name__" := by decide) (hd : (x == ("__debug__" : Str)) = false := by decide) : PE X (.Name x pos) (tC (.ty n)) := pe_bltn hg hm hv rfl hn hd
end
/-! ### texts as lists -/
def S (l : List Nat) : Str := ⟨l.toArray⟩
def L (z : Str) : List Nat := z.cps.toList
theorem S_L (z : Str) : S (L z) = z := by
  obtain ⟨⟨l⟩⟩ := z
  rfl
theorem L_S (l : List Nat) : L (S l) = l := rfl
theorem S_len (l : List Nat) : (S l).length = l.length := by simp [S, Str.length]
theorem L_len (z : Str) : (L z).length = z.length := by simp [L, Str.length]
theorem S_app (a b : List Nat) : S a ++ S b = S (a ++ b) := by
  show (⟨a.toArray ++ b.toArray⟩ : Str) = ⟨(a ++ b).toArray⟩
  simp
theorem S_cps (l : List Nat) : (S l).cps.toList = l := by simp [S]
theorem S_one (c : Nat) : (⟨#[c]⟩ : Str) = S [c] := rfl
theorem S_inj {a b : List Nat} (h : S a = S b) : a = b := by
  have := congrArg L h
  exact this
theorem cut_take (l : List Nat) {o : Int} (h0 : 0 ≤ o) (h1 : o ≤ l.length) : cutS (S l) none (some o) = S (l.take o.toNat) := by
  unfold cutS
  obtain ⟨k, rfl⟩ := Int.eq_ofNat_of_zero_le h0
  have e : HT.sIx (S l).length (S l).length (some (k : Int)) = min k (S l).length := HT.sIx_nat _ _ _
  rw [HT.sIx_none, e, S_len, S_cps]
  have : min k l.length = k := by omega
  rw [this]
  simp [S]
theorem cut_drop (l : List Nat) {o : Int} (h0 : 0 ≤ o) (h1 : o ≤ l.length) : cutS (S l) (some o) none = S (l.drop o.toNat) := by
  unfold cutS
  obtain ⟨k, rfl⟩ := Int.eq_ofNat_of_zero_le h0
  have e : HT.sIx (S l).length 0 (some (k : Int)) = min k (S l).length := HT.sIx_nat _ _ _
  rw [HT.sIx_none, e, S_len, S_cps]
  have : min k l.length = k := by omega
  rw [this]
  have : (l.drop k).take (l.length - k) = l.drop k := List.take_of_length_le (by rw [List.length_drop]; omega)
  simp [S, this]
theorem cut_mid (l : List Nat) {a b : Int} (h0 : 0 ≤ a) (h1 : a ≤ b) (h2 : b ≤ l.length) : cutS (S l) (some a) (some b) = S ((l.drop a.toNat).take (b.toNat - a.toNat)) := by
  unfold cutS
  obtain ⟨k, rfl⟩ := Int.eq_ofNat_of_zero_le h0
  obtain ⟨m, rfl⟩ := Int.eq_ofNat_of_zero_le (Int.le_trans h0 h1)
  have e1 : HT.sIx (S l).length 0 (some (k : Int)) = min k (S l).length := HT.sIx_nat _ _ _
  have e2 : HT.sIx (S l).length (S l).length (some (m : Int)) = min m (S l).length := HT.sIx_nat _ _ _
  rw [e1, e2, S_len, S_cps]
  have q1 : min k l.length = k := by omega
  have q2 : min m l.length = m := by omega
  rw [q1, q2]
  rfl
theorem len_line {n : Nat} (h : n ≤ 100000) : n ≤ sizeLine := Nat.le_trans h (by decide)
theorem len_line' {n : Nat} (h : n < 100000) : n < sizeLine := Nat.lt_of_lt_of_le h (by decide)
theorem small_div {i j : Int} (h : 0 < j) (h2 : j < 1073741824) : CDivW i j := wide_div (b := 30) h (by omega) (by decide) (by decide)
theorem mul_left {i j : Int} (h : -(2 ^ 64) < i) (h2 : i < 2 ^ 64) : IntMulOk i j := CMul.ok (.inl ⟨h, h2⟩)
theorem mul_right {i j : Int} (h : -(2 ^ 64) < j) (h2 : j < 2 ^ 64) : IntMulOk i j := CMul.ok (.inr ⟨h, h2⟩)
theorem same_mut {H H' : Hp} {p : Addr} {o : HO} (s : Same H H') (h : H p = none) : Same H (upd H' p o) := fun b x e => by
  rw [upd_ne (ne_of_none e h)]
  exact s b x e
theorem ex2 {α β : Type} {a : α} {b : β} {P : α → β → Prop} : (∃ i j, (a = i ∧ b = j) ∧ P i j) ↔ P a b := ⟨fun ⟨_, _, ⟨e1, e2⟩, h⟩ => e1 ▸ e2 ▸ h, fun h => ⟨a, b, ⟨rfl, rfl⟩, h⟩⟩
theorem at_ints {ns : List Int} {i : Int} (h0 : 0 ≤ i) (h1 : i < ns.length) : ∃ z, atI (ns.map V.int) i = some (.int z) := by
  obtain ⟨k, rfl⟩ := Int.eq_ofNat_of_zero_le h0
  have hk : k < ns.length := by omega
  exact ⟨ns[k], atI_nat (by rw [List.getElem?_map, List.getElem?_eq_getElem hk]; rfl)⟩
theorem at_strs {ns : List Str} {i : Int} (h0 : 0 ≤ i) (h1 : i < ns.length) : ∃ z, z ∈ ns ∧ atI (ns.map V.str) i = some (.str z) := by
  obtain ⟨k, rfl⟩ := Int.eq_ofNat_of_zero_le h0
  have hk : k < ns.length := by omega
  exact ⟨ns[k], List.getElem_mem hk, atI_nat (by rw [List.getElem?_map, List.getElem?_eq_getElem hk]; rfl)⟩
theorem getD_eq {α : Type} {ns : List α} {i : Nat} (d : α) (h : i < ns.length) : ns.getD i d = ns[i] := by
  simp [List.getD, List.getElem?_eq_getElem h]
theorem at_getD {ns : List Str} {i : Int} (d : Str) (h0 : 0 ≤ i) (h1 : i < ns.length) : atI (ns.map V.str) i = some (.str (ns.getD i.toNat d)) := by
  obtain ⟨k, rfl⟩ := Int.eq_ofNat_of_zero_le h0
  have hk : k < ns.length := by omega
  refine atI_nat ?_
  rw [List.getElem?_map, List.getElem?_eq_getElem hk, Int.toNat_natCast, getD_eq _ hk]
  rfl
theorem at_getN {ns : List Nat} {i : Int} (d : Nat) (h0 : 0 ≤ i) (h1 : i < ns.length) : atI ns i = some (ns.getD i.toNat d) := by
  obtain ⟨k, rfl⟩ := Int.eq_ofNat_of_zero_le h0
  have hk : k < ns.length := by omega
  refine atI_nat ?_
  rw [List.getElem?_eq_getElem hk, Int.toNat_natCast, getD_eq _ hk]
theorem getD_mem {α : Type} {ns : List α} {i : Nat} (d : α) (h : i < ns.length) : ns.getD i d ∈ ns := by
  rw [getD_eq _ h]
  exact List.getElem_mem h
theorem at_ints_mem {ns : List Int} {i : Int} (h0 : 0 ≤ i) (h1 : i < ns.length) : ∃ z, z ∈ ns ∧ atI (ns.map V.int) i = some (.int z) := by
  obtain ⟨k, rfl⟩ := Int.eq_ofNat_of_zero_le h0
  have hk : k < ns.length := by omega
  exact ⟨ns[k], List.getElem_mem hk, atI_nat (by rw [List.getElem?_map, List.getElem?_eq_getElem hk]; rfl)⟩
theorem emod_lo (r : Int) {m : Int} (h : 0 < m) : 0 ≤ r % m := Int.emod_nonneg _ (by omega)
theorem emod_hi (r : Int) {m : Int} (h : 0 < m) : r % m < m := Int.emod_lt_of_pos _ h
theorem at_vs {xs : List V} {i : Int} (h0 : 0 ≤ i) (h1 : i < xs.length) : ∃ z, z ∈ xs ∧ atI xs i = some z := by
  obtain ⟨k, rfl⟩ := Int.eq_ofNat_of_zero_le h0
  have hk : k < xs.length := by omega
  exact ⟨xs[k], List.getElem_mem hk, atI_nat (List.getElem?_eq_getElem hk)⟩
end Fx

/-! ### constants of the module, more of texts -/
namespace Fx
open PySem PySem.Spec PyProof.Rows L2
theorem one_list (c : Nat) : (⟨#[c]⟩ : Str).cps.toList = [c] := rfl
theorem absV_rel {u : Value} {x : V} (h : absV u = some x) : RelV x u := by
  cases u <;> first
    | (cases h; rfl)
    | (cases h; exact ⟨_, rfl⟩)
    | cases h
def absVs : List Value → Option (List V)
  | [] => some []
  | u :: us => match absV u, absVs us with
    | some x, some xs => some (x :: xs)
    | _, _ => none
theorem absVs_rel : ∀ {us : List Value} {xs : List V}, absVs us = some xs → Vals xs us
  | [], xs, h => by cases h; exact .nil
  | u :: us, xs, h => by
    unfold absVs at h
    split at h
    · rename_i x ys h1 h2
      cases h
      exact .cons (absV_rel h1) (absVs_rel h2)
    · cases h
/-- a tuple of the module -/
structure TupFact (K : PySem.W.Frag) (x : Str) (xs : List V) : Prop where
  ex : ∃ (a : Addr) (od : Option Addr) (its : Array Value) (n : Nat) (sl : Array (Option Value)), PySem.W.nsIn K mainGlobals x = some (some (.ref a)) ∧ K.lookup a = some ⟨.type "tuple", od, .seq its n, sl⟩ ∧ absVs its.toList = some xs ∧ its.size ≤ 1000
theorem TupFact.of {K : PySem.W.Frag} {x : Str} {xs : List V} {a : Addr} {od : Option Addr} {its : Array Value} {n : Nat} {sl : Array (Option Value)} (h1 : PySem.W.nsIn K mainGlobals x = some (some (.ref a))) (h2 : K.lookup a = some ⟨.type "tuple", od, .seq its n, sl⟩)
    (h3 : absVs its.toList = some xs) (h4 : its.size ≤ 1000) : TupFact K x xs := ⟨a, od, its, n, sl, h1, h2, h3, h4⟩
theorem gstr_of {K : PySem.W.Frag} {x z : Str} {t : Tok} (h : PySem.W.nsIn K mainGlobals x = some (some (.str z t))) : ∃ t, PySem.W.nsIn K mainGlobals x = some (some (.str z t)) := ⟨t, h⟩
theorem gint_of {K : PySem.W.Frag} {x : Str} {z : Int} {t : Tok} (h : PySem.W.nsIn K mainGlobals x = some (some (.int z t))) : ∃ t, PySem.W.nsIn K mainGlobals x = some (some (.int z t)) := ⟨t, h⟩
def GTup (K : PySem.W.Frag) (mg : Str → Option Value) (x : Str) (xs : List V) : Prop := ∃ a, mg x = some (.ref a) ∧ ∀ H, SqT K H a xs
theorem TupFact.get {K : PySem.W.Frag} {mg : Str → Option Value} {x : Str} {xs : List V} {h : Heap} (X : K.In h) (G : h.Ns mainGlobals mg) (F : TupFact K x xs) : GTup K mg x xs := by
  obtain ⟨a, od, its, n, sl, h1, h2, h3, h4⟩ := F.ex
  exact ⟨a, PySem.W.mg_of X G h1, fun H => .inr ⟨_, its, n, h2, rfl, rfl, Nat.le_trans h4 (by decide), absVs_rel h3⟩⟩
def fGt_ (K : PySem.W.Frag) (xs : List V) : TE := fun _ H Q => ∀ a, (∀ H', SqT K H' a xs) → Q (.ref a) H
section
variable {X : Cx} {x : Str} {pos : Pos}
theorem fe_gstr {z : Str} (hg : Gl X x) (h : ∃ t, X.mg x = some (.str z t)) (hd : (x == ("__debug__" : Str)) = false := by decide) : PE X (.Name x pos) (tC (.str z)) := by
  obtain ⟨t, h⟩ := h
  exact pe_glob hg h ⟨t, rfl⟩ hd
theorem fe_gint {z : Int} (hg : Gl X x) (h : ∃ t, X.mg x = some (.int z t)) (hd : (x == ("__debug__" : Str)) = false := by decide) : PE X (.Name x pos) (tC (.int z)) := by
  obtain ⟨t, h⟩ := h
  exact pe_glob hg h ⟨t, rfl⟩ hd
theorem fe_gtup {xs : List V} (hg : Gl X x) (h : GTup X.K X.mg x xs) (hd : (x == ("__debug__" : Str)) = false := by decide) : PE X (.Name x pos) (fGt_ X.K xs) := by
  obtain ⟨a, h, hs⟩ := h
  exact pe_wk (pe_glob hg h (v := .ref a) rfl hd) fun σ H Q q => q a hs
/-- ''.join(list or tuple of texts) -/
def fJoin (K : PySem.W.Frag) : V → List V → Hp → VK → Prop := fun x vs H Q => match x, vs with
  | .str a, [.ref p] => ∃ ys : List Str, Rl K H p (ys.map V.str) ∧ (ys.map (·.length)).sum + ys.length * a.length ≤ 16777216 ∧ Q (.str (Txt.join a ys)) H
  | _, _ => False
theorem mt_fJoin : MtR X "str.join" (fJoin X.K) := by
  intro pins s σ H x xs v us Q I rx rs q
  unfold fJoin at q
  split at q
  · obtain ⟨ys, h1, h2, h3⟩ := q
    exact mt_join pins s σ H _ _ v us Q I rx rs ⟨_, _, ys, rfl, rfl, h1, h2, h3⟩
  · exact q.elim
def fLstripC : V → List V → Hp → VK → Prop := fun x vs H Q => match x, vs with
  | .str a, [.str b] => a.length ≤ sizeLine ∧ Q (.str (Txt.lstripChars a b)) H
  | _, _ => False
theorem mt_fLstripC : MtR X "str.lstrip" fLstripC := by
  intro pins s σ H x xs v us Q I rx rs q
  unfold fLstripC at q
  split at q
  · exact mt_lstripChars pins s σ H _ _ v us Q I rx rs ⟨_, _, rfl, rfl, q⟩
  · exact q.elim
end
theorem join_ones : ∀ cs : List Nat, Txt.join (S []) (cs.map fun c => S [c]) = S cs := by
  intro cs
  show (⟨_⟩ : Str) = ⟨_⟩
  congr 1
  cases cs with
  | nil => rfl
  | cons c r =>
    have go : ∀ (r : List Nat) (acc : List Nat), ((r.map fun c => S [c]).foldl (fun (acc : Array Nat) (p : Str) => acc ++ (S []).cps ++ p.cps) acc.toArray) = (acc ++ r).toArray := by
      intro r
      induction r with
      | nil => intro acc; simp
      | cons d r ih =>
        intro acc
        rw [List.map_cons, List.foldl_cons]
        have e : acc.toArray ++ (S []).cps ++ (S [d]).cps = (acc ++ [d]).toArray := by simp [S]
        rw [e, ih, List.append_assoc]
        rfl
    have := go r [c]
    simpa [S] using this
theorem drop_tw (p : Nat → Bool) : ∀ l : List Nat, l.drop (l.takeWhile p).length = l.dropWhile p
  | [] => rfl
  | c :: r => by
    rw [List.takeWhile_cons, List.dropWhile_cons]
    by_cases h : p c = true
    · rw [if_pos h, if_pos h, List.length_cons, List.drop_succ_cons, drop_tw p r]
    · rw [if_neg h, if_neg h, List.length_nil, List.drop_zero]
theorem lstrip_zero (l : List Nat) (b : Nat) : Txt.lstripChars (S l) (S [b]) = S (l.dropWhile (· == b)) := by
  have hp : ((S [b]).cps.contains : Nat → Bool) = (· == b) := by
    funext c
    simp only [S, List.contains_toArray, List.contains_cons, List.contains_nil, Bool.or_false]
  unfold Txt.lstripChars
  rw [hp]
  have ht : (stripLo (· == b) true (S l)) = (l.takeWhile (· == b)).length := rfl
  unfold Txt.stripBy
  split
  · rename_i h
    unfold stripSame at h
    have h0 : stripLo (· == b) true (S l) = 0 := by
      have := (Bool.and_eq_true_iff.mp h).1
      exact eq_of_beq this
    rw [ht] at h0
    rw [← drop_tw, h0, List.drop_zero]
  · unfold stripped
    rw [ht]
    have e : stripHi (· == b) false (S l) (l.takeWhile (· == b)).length = (S l).length := rfl
    rw [e, ← drop_tw]
    have := StrLaws.strSub_toList (S l) (l.takeWhile (· == b)).length (S l).length
    rw [← S_L (Builtin.Str.strSub _ _ _)]
    congr 1
    show (Builtin.Str.strSub _ _ _).cps.toList = _
    rw [this, S_cps, S_len]
    exact List.take_of_length_le (by rw [List.length_drop]; exact Nat.le_refl _)
end Fx

set_option Elab.async false
set_option linter.all false
set_option maxRecDepth 100000
/-! Ox: objects of the program's own classes, over Fx. -/
namespace Fx
open PySem PySem.Spec PyProof.Rows L2
/-! ### weakening within -/
section
variable {X : Cx}
/-- whatever follows may be weaker -/
def clos (t : TE) : TE := fun σ H Q => ∃ Q0 : VK, t σ H Q0 ∧ ∀ v H1, Q0 v H1 → Q v H1
def closA (t : TA) : TA := fun σ H Q => ∃ Q0, t σ H Q0 ∧ ∀ v H1, Q0 v H1 → Q v H1
theorem pe_clos {e : Expr} {t : TE} (h : PE X e t) : PE X e (clos t) := ⟨fun pins s σ H Q I ⟨Q0, h0, w⟩ => wpAny_mono (h.run pins s σ H Q0 I h0) (fun u s' ⟨v, H', I', r, q⟩ => ⟨v, H', I', r, w v H' q⟩) fun _ _ x => x⟩
theorem pa_clos {es : List Expr} {t : TA} (h : PA X es t) : PA X es (closA t) := ⟨fun pos pins s σ H Q I ⟨Q0, h0, w⟩ => wpAny_mono (h.run pos pins s σ H Q0 I h0) (fun u s' ⟨v, H', I', r, q⟩ => ⟨v, H', I', r, w v H' q⟩) fun _ _ x => x⟩
end
/-! ### heaps but for some places -/
def Keep (ps : List Addr) (H H' : Hp) : Prop := ∀ a o, a ∉ ps → H a = some o → H' a = some o
theorem Keep.refl {ps : List Addr} {H : Hp} : Keep ps H H := fun _ _ _ h => h
theorem Keep.trans {ps : List Addr} {H H1 H2 : Hp} (h : Keep ps H H1) (k : Keep ps H1 H2) : Keep ps H H2 := fun a o n e => k a o n (h a o n e)
theorem Keep.of {ps : List Addr} {H H' : Hp} (s : Same H H') : Keep ps H H' := fun a o _ e => s a o e
theorem Keep.mono {ps qs : List Addr} {H H' : Hp} (h : Keep ps H H') (m : ∀ a ∈ ps, a ∈ qs) : Keep qs H H' := fun a o n e => h a o (fun z => n (m a z)) e
theorem Keep.same {H H' : Hp} (h : Keep [] H H') : Same H H' := fun a o e => h a o (by simp) e
theorem Keep.upd {ps : List Addr} {H H' : Hp} {p : Addr} {o : HO} (h : Keep ps H H') (m : p ∈ ps) : Keep ps H (L2.upd H' p o) := fun a x n e => by
  rw [upd_ne (fun q => n (by rw [q]; exact m))]
  exact h a x n e
theorem Keep.updN {ps : List Addr} {H H' : Hp} {p : Addr} {o : HO} (h : Keep ps H H') (m : H p = none) : Keep ps H (L2.upd H' p o) := fun a x n e => by
  rw [upd_ne (ne_of_none e m)]
  exact h a x n e
/-- what the caller does not know -/
theorem Keep.drop {p : Addr} {ps : List Addr} {H H' : Hp} (h : Keep (p :: ps) H H') (m : H p = none) : Keep ps H H' := fun a x n e => h a x (by
  intro q
  rcases List.mem_cons.mp q with rfl | q
  · rw [m] at e; cases e
  · exact n q) e
/-- the new object's heap, when only it has been changed since -/
theorem mk_same {H H0 : Hp} {y : Addr} {o : HO} (s : Same H H0) (n : H y = none) : Same H (L2.upd H0 y o) := same_mut s n
theorem mk_same2 {H H0 : Hp} {y : Addr} {o o' : HO} (s : Same H H0) (n : H y = none) : Same H (L2.upd (L2.upd H0 y o) y o') := same_mut (same_mut s n) n
theorem upd2 {H : Hp} {y : Addr} {o o' : HO} : L2.upd (L2.upd H y o) y o' = L2.upd H y o' := by
  funext a
  by_cases h : a = y
  · subst h; rw [upd_same, upd_same]
  · rw [upd_ne h, upd_ne h, upd_ne h]
theorem SqL.keep {K : PySem.W.Frag} {ps : List Addr} {H H' : Hp} {a : Addr} {xs : List V} (k : Keep ps H H') (n : a ∉ ps) (h : SqL K H a xs) : SqL K H' a xs :=
  h.elim (fun h => .inl (h.elim (fun h => .inl (k _ _ n h)) fun ⟨o, h⟩ => .inr ⟨o, k _ _ n h⟩)) fun h => .inr h
/-! ### fields -/
def fFld (cs : List Addr) (f : Str) (ta : TE) : TE := fun σ H Q => ta σ H fun x H1 => match x with
  | .ref a => match H1 a with
    | some (.ins C _ fs) => C ∈ cs ∧ match fs.lookup f with
      | some v => Q v H1
      | none => False
    | _ => False
  | _ => False
def fSetF (cs : List Addr) (f : Str) (ta tv : TE) : TS := fun D σ H => tv σ H fun y H1 => ta σ H1 fun x H2 => match x with
  | .ref a => match H2 a with
    | some (.ins C dx fs) => C ∈ cs ∧ fs.length < 1000 ∧ D.nx σ (upd H2 a (.ins C dx (putF f y fs)))
    | _ => False
  | _ => False
/-- the classes that know an attribute only by their instances -/
def Plain (K : PySem.W.Frag) (cs : List Addr) (f : Str) : Prop := ∀ C ∈ cs, Cls K C ∧ NoAttr K C f
section
variable {X : Cx} {o e value : Expr} {f : Str} {pos pos' : Pos} {ta tv : TE} {cs : List Addr}
theorem fe_fld (he : PE X e ta) (hc : Plain X.K cs f) (hb : attributeBase e f X.env (eval e X.env) = eval e X.env) : PE X (.Attribute e f pos) (fFld cs f ta) := by
  refine pe_wk (pe_fld (pe_clos he) hb) fun σ H Q q => ⟨_, q, fun x H1 q => ?_⟩
  split at q
  · split at q
    · obtain ⟨m, q⟩ := q
      split at q
      · exact ⟨_, _, _, _, _, rfl, by assumption, (hc _ m).1, (hc _ m).2, by assumption, q⟩
      · exact q.elim
    · exact q.elim
  · exact q.elim
theorem fs_fld (ha : PE X o ta) (hv : PE X value tv) (hc : Plain X.K cs f) (hs : swapsWith value (some (.Attribute o f pos')) pos.line X.env = pure false) : PS X (.Assign [.Attribute o f pos'] value pos) (fSetF cs f ta tv) := by
  refine ps_wk (ps_fld (pe_clos ha) (pe_clos hv) hs) fun D σ H q => ⟨_, q, fun y H1 q => ⟨_, q, fun x H2 q => ?_⟩⟩
  split at q
  · split at q
    · exact ⟨_, _, _, _, rfl, by assumption, (hc _ q.1).1, (hc _ q.1).2, q.2.1, q.2.2⟩
    · exact q.elim
  · exact q.elim
end
/-- {} -/
def fDnew : TE := fun _ H Q => ∀ p H2, H p = none → Same H H2 → H2 p = some (.dK []) → Q (.ref p) H2
theorem fe_dnew {X : Cx} {pos : Pos} : PE X (.Dict [] [] pos) fDnew := pe_wk pe_dnewK fun σ H Q q => fun p np => q p _ np (same_new np) upd_same
theorem rl_keep {K : PySem.W.Frag} {H H' : Hp} {a : Addr} {xs : List V} (s : Same H H') (h : Rl K H a xs) : Rl K H' a xs := h.elim (fun h => .inl (s.seq h)) fun h => .inr (SqT.ext h s)
/-! ### methods, making -/
/-- a method as it stands in its class -/
structure AtM (K : PySem.W.Frag) (C : Addr) (x qual : Str) (st : Stmt) (ps : List Str) : Prop where
  ex : ∃ (f : Addr) (fd : FuncData), Fun K x qual st f fd ∧ Binds K fd ps [] ∧ Meth K C x f
structure MFact (K : PySem.W.Frag) (C : Addr) (x qual : Str) (st : Stmt) : Prop where
  ex : ∃ (f : Addr) (oc : Value) (od an : Option Addr) (sl : Array (Option Value)) (kV dc pm cd ct : Value),
    PySem.W.findIn K (.ref C) x = some (some (.ref f)) ∧ K.lookup f = some ⟨oc, od, .func (PySem.W.fnOf x qual (defArgs st) (defBody st) (defScope st) .none kV dc pm an cd ct), sl⟩ ∧
    PySem.W.codeIn K cd qual = true ∧ PySem.W.keepIn K (.ref f) = true ∧ PySem.W.isFn K (.ref f) = true
theorem MFact.of {K : PySem.W.Frag} {C : Addr} {x qual : Str} {st : Stmt} {f : Addr} {oc : Value} {od an : Option Addr} {sl : Array (Option Value)} {kV dc pm cd ct : Value}
    (a : PySem.W.findIn K (.ref C) x = some (some (.ref f))) (l : K.lookup f = some ⟨oc, od, .func (PySem.W.fnOf x qual (defArgs st) (defBody st) (defScope st) .none kV dc pm an cd ct), sl⟩)
    (c : PySem.W.codeIn K cd qual = true) (k : PySem.W.keepIn K (.ref f) = true) (i : PySem.W.isFn K (.ref f) = true) : MFact K C x qual st := ⟨f, oc, od, an, sl, kV, dc, pm, cd, ct, a, l, c, k, i⟩
theorem AtM.of {K : PySem.W.Frag} {C : Addr} {x qual : Str} {st : Stmt} {ps : List Str} (F : MFact K C x qual st)
    (hb : ∀ (kV doc pm : Value) (an : Option Addr) (cdv ct : Value) (us : List Value), us.length = ps.length → bindArgs (PySem.W.fnOf x qual (defArgs st) (defBody st) (defScope st) .none kV doc pm an cdv ct) ⟨us, []⟩ = pure (ps.zip us)) : AtM K C x qual st ps := by
  obtain ⟨f, oc, od, an, sl, kV, dc, pm, cd, ct, a, l, c, k, i⟩ := F.ex
  have F1 := fun_mk (st := st) l c k
  exact ⟨_, _, F1, F1.binds hb, ⟨a, i, k⟩⟩
/-- a method that keeps a promise (of the object and the arguments) -/
structure HasM (P : Program) (w : World) (K : PySem.W.Frag) (mg : Str → Option Value) (base : Heap) (CX : CXT) (C : Addr) (x : Str) (k : Nat) (ps : List Str) (sp : Sp) : Prop where
  ex : ∃ (f : Addr) (fd : FuncData), FnOk P w K mg base CX k f fd ps sp ∧ Binds K fd ps [] ∧ Meth K C x f
/-- a class whose making keeps a promise (of the arguments) -/
structure HasC (P : Program) (w : World) (K : PySem.W.Frag) (mg : Str → Option Value) (base : Heap) (CX : CXT) (C : Addr) (x : Str) (k : Nat) (ps : List Str) (sp : Sp) : Prop where
  ex : ∃ (f : Addr) (fd : FuncData) (sp' : Sp), FnOk P w K mg base CX k f fd ps sp' ∧ Binds K fd ps [] ∧ Mk K C f ∧ mg x = some (.ref C) ∧
    ∀ vs H Q E, sp vs H Q E → ∀ y dx H0, H y = none → Same H H0 → H0 y = some (.ins C dx []) → sp' (.ref y :: vs) H0 (fun v H2 => v = .non ∧ Q (.ref y) H2) E
section
variable {P : Program} {w : World} {K : PySem.W.Frag} {mg : Str → Option Value} {base : Heap}
theorem hasM_of {C : Addr} {x qual : Str} {st : Stmt} {N ps : List Str} {k : Nat} {sp : Sp} (A : AtM K C x qual st ps) (S : FnScope N ps (defScope st)) (len : ∀ vs H Q E, sp vs H Q E → vs.length = ps.length)
    (hbody : ∀ (cdv : Value) (f : Addr) (A : Around) (outer : List Env) (s : Shared) (H : Hp) (vs : List V) (Q : VK) (E : XK), Room k (A.deeper (envOfC qual (defScope st) s.heap.objs.size f cdv)) → sp vs H Q E →
      ∃ t, PSs (cxOf CX0 P w K mg base N qual (defScope st) f cdv A outer s H E).nox (defBody st) t ∧ t { nx := fun _ H' => Q .non H', rt := Q } (start N vs) H) : HasM P w K mg base CX0 C x (k + 1) ps sp := by
  obtain ⟨f, fd, F, B, G⟩ := A.ex
  exact ⟨f, fd, F.ok S len fun cdv A outer s H vs Q E hr h => hbody cdv f A outer s H vs Q E hr h, B, G⟩
/-- what a class is for making -/
structure MkAt (K : PySem.W.Frag) (mg : Str → Option Value) (x : Str) (C : Addr) : Prop where
  makes : PySem.W.makesIn K C = true
  kp : PySem.W.keepIn K (.ref C) = true
  at_ : mg x = some (.ref C)
theorem hasC_of {C : Addr} {x qual : Str} {st : Stmt} {N ps : List Str} {k : Nat} {sp : Sp} (M : MkAt K mg x C) (A : AtM K C "__init__" qual st ps) (S : FnScope N ps (defScope st)) (len : ∀ vs H Q E, sp vs H Q E → vs.length + 1 = ps.length)
    (hbody : ∀ (cdv : Value) (f : Addr) (A : Around) (outer : List Env) (s : Shared) (H : Hp) (vs : List V) (Q : VK) (E : XK) (y dx : Addr) (H0 : Hp), Room k (A.deeper (envOfC qual (defScope st) s.heap.objs.size f cdv)) → sp vs H Q E → H y = none → Same H H0 → H0 y = some (.ins C dx []) →
      ∃ t, PSs (cxOf CX0 P w K mg base N qual (defScope st) f cdv A outer s H0 E).nox (defBody st) t ∧ t { nx := fun _ H' => Q (.ref y) H', rt := fun v H' => v = .non ∧ Q (.ref y) H' } (start N (.ref y :: vs)) H0) : HasC P w K mg base CX0 C x (k + 1) ps sp := by
  obtain ⟨f, fd, F, B, G⟩ := A.ex
  refine ⟨f, fd, fun ws H0 Q' E => ∃ y vs H Q dx, ws = .ref y :: vs ∧ sp vs H Q E ∧ H y = none ∧ Same H H0 ∧ H0 y = some (.ins C dx []) ∧ Q' = fun v H2 => v = .non ∧ Q (.ref y) H2, ?_, B, ⟨M.makes, G.at_, G.fn, M.kp⟩, M.at_, ?_⟩
  · refine F.ok S (fun ws H0 Q' E h => ?_) fun cdv A outer s H0 ws Q' E hr h => ?_
    · obtain ⟨y, vs, H, Q, dx, rfl, h, _⟩ := h
      exact len vs H Q E h
    · obtain ⟨y, vs, H, Q, dx, rfl, h, hy, hs, h0, rfl⟩ := h
      obtain ⟨t, h1, h2⟩ := hbody cdv f A outer s H vs Q E y dx H0 hr h hy hs h0
      refine ⟨t, h1, ?_⟩
      have e : (fun (_ : L2.St) (H' : Hp) => (fun v H2 => v = V.non ∧ Q (.ref y) H2) V.non H') = fun _ H' => Q (.ref y) H' := by
        funext _ H'
        exact propext ⟨fun h => h.2, fun h => ⟨rfl, h⟩⟩
      rw [e]
      exact h2
  · intro vs H Q E h y dx H0 hy hs h0
    exact ⟨y, vs, H, Q, dx, rfl, h, hy, hs, h0, rfl⟩
end
section
variable {X : Cx} {CX : CXT} {k : Nat} {C : Addr} {x m : Str} {p pos apos : Pos} {o e : Expr} {es : List Expr} {t : TA} {ta : TE} {ps : List Str} {sp : Sp} {E : XK}
theorem fe_make (h : HasC X.prog X.w X.K X.mg X.base CX C x k ps sp) (hr : Room (k + 1) X.A) (hg : Gl X x) (hx : Passes CX X E) (ha : PA X (e :: es) t) (hd : (x == ("__debug__" : Str)) = false := by decide)
    (hs : starEach (e :: es) X.env = (false, eval e X.env) :: starEach es X.env := by rfl) (hplain : (backTo pos (starEach es X.env)).any (·.1) = false := by rfl) : PE X (.Call (.Name x p) (e :: es) [] pos) (tCall sp [] E t) := by
  obtain ⟨f, fd, sp', F, B, M, G, h⟩ := h.ex
  refine pe_wk (pe_make M F hr hg G B .nil hx (pa_clos ha) hd hs hplain) fun σ H Q q => ⟨_, q, fun vs H1 q y dx n1 n2 n3 => ?_⟩
  rw [List.append_nil] at q ⊢
  refine h vs H1 Q E q y dx _ n1 (fun b z ez => ?_) upd_same
  rw [upd_ne (ne_of_none ez n1), upd_ne (ne_of_none ez n2)]
  exact ez
theorem fe_make0 (h : HasC X.prog X.w X.K X.mg X.base CX C x k ps sp) (hr : Room (k + 1) X.A) (hg : Gl X x) (hx : Passes CX X E) (hd : (x == ("__debug__" : Str)) = false := by decide) : PE X (.Call (.Name x p) [] [] pos) (tCall sp [] E tNil) := by
  obtain ⟨f, fd, sp', F, B, M, G, h⟩ := h.ex
  refine pe_wk (pe_make0 M F hr hg G B .nil hx hd) fun σ H Q q => ?_
  show tNil σ H _
  intro y dx n1 n2 n3
  refine h [] H Q E q y dx _ n1 (fun b z ez => ?_) upd_same
  rw [upd_ne (ne_of_none ez n1), upd_ne (ne_of_none ez n2)]
  exact ez
/-- an instance of the class, without an attribute of the name -/
def isOb (C : Addr) (m : Str) : V → Hp → Prop := fun x H => match x with
  | .ref a => match H a with
    | some (.ins D _ fs) => D = C ∧ fs.lookup m = none
    | _ => False
  | _ => False
def fMeth (C : Addr) (m : Str) (sp : Sp) (E : XK) (ta : TE) (t : TA) : TE := fun σ H Q => ta σ H fun x H1 => isOb C m x H1 ∧ t σ H1 fun vs H2 => sp (x :: vs) H2 Q E
theorem fMeth_to {σ : L2.St} {H : Hp} {Q : VK} (q : fMeth C m sp E ta t σ H Q) : tMeth C m sp [] E (clos ta) t σ H Q := by
  refine ⟨_, q, fun x H1 ⟨q1, q2⟩ => ?_⟩
  unfold isOb at q1
  split at q1
  · split at q1
    · obtain ⟨rfl, q1⟩ := q1
      refine ⟨_, _, _, rfl, by assumption, q1, ?_⟩
      simp only [List.append_nil]
      exact q2
    · exact q1.elim
  · exact q1.elim
theorem fe_meth {pl : Sem Bool} (h : HasM X.prog X.w X.K X.mg X.base CX C m k ps sp) (c : Cls X.K C) (hr : Room k X.A) (hx : Passes CX X E) (he : PE X o ta) (ha : PA X (e :: es) t)
    (hst : starEach (e :: es) X.env = (false, eval e X.env) :: starEach es X.env := by rfl) (hpl : (backTo pos (starEach es X.env)).any (·.1) = false := by rfl)
    (ht : eval (.Call (.Attribute o m apos) (e :: es) [] pos) X.env = (do
      let ov ← eval o X.env
      standAt apos.atName
      let (f, first) ← holding [ov] (getMethod ov m pl)
      callWith pos f first (backTo pos (starEach (e :: es) X.env)) (backToKw pos (keywordEach [] X.env))) := by rfl) :
    PE X (.Call (.Attribute o m apos) (e :: es) [] pos) (fMeth C m sp E ta t) := by
  obtain ⟨f, fd, F, B, M⟩ := h.ex
  exact pe_wk (pe_meth (pe_clos he) c M F hr B .nil hx ha hst hpl ht) fun σ H Q q => fMeth_to q
theorem fe_meth0 {pl : Sem Bool} (h : HasM X.prog X.w X.K X.mg X.base CX C m k ps sp) (c : Cls X.K C) (hr : Room k X.A) (hx : Passes CX X E) (he : PE X o ta)
    (ht : eval (.Call (.Attribute o m apos) [] [] pos) X.env = (do
      let ov ← eval o X.env
      standAt apos.atName
      let (f, first) ← holding [ov] (getMethod ov m pl)
      callWith pos f first (backTo pos (starEach [] X.env)) (backToKw pos (keywordEach [] X.env))) := by rfl) :
    PE X (.Call (.Attribute o m apos) [] [] pos) (fMeth C m sp E ta tNil) := by
  obtain ⟨f, fd, F, B, M⟩ := h.ex
  exact pe_wk (pe_meth0 (pe_clos he) c M F hr B .nil hx ht) fun σ H Q q => fMeth_to q
end
/-! ### isinstance of own classes -/
/-- what isinstance asks of a class of the program -/
structure OCls (K : PySem.W.Frag) (C : Addr) : Prop where
  cl : Cls K C
  ci : PySem.W.findIn K (.ref C) "__class__" = some (some (.builtin "object.__class__"))
  gd : PySem.W.specialIn K (.builtin "object.__class__") "__get__" = some (some (.builtin "getset_descriptor.__get__"))
  tk : PySem.W.takesIn K (.builtin "object.__class__") = some true
  mr : PySem.W.mroIn K C (.type "object") = some true
/-- the answers of isinstance for instances of cs and plain values, at the classes ds -/
structure Kit (K : PySem.W.Frag) (cs ds : List Addr) : Prop where
  ow : ∀ C ∈ cs, OCls K C
  oo : ∀ C ∈ cs, ∀ D ∈ ds, PySem.W.kitOne K (.ref C) (.ref D) = some (decide (C = D))
  bo : ∀ n ∈ ["NoneType", "bool", "int", "str", "list", "tuple", "dict"], ∀ D ∈ ds, PySem.W.kitOne K (.type n) (.ref D) = some false
  ob : ∀ C ∈ cs, ∀ n ∈ ["bool", "int", "str", "list", "tuple", "dict"], PySem.W.kitOne K (.ref C) (.type n) = some false
/-- a value's class -/
def tyV2 (H : Hp) : V → Option Value
  | .ref a => match H a with
    | some (.ins C _ _) => some (.ref C)
    | some (.lst _) => some (.type "list")
    | some (.tup _) => some (.type "tuple")
    | some (.dK _) => some (.type "dict")
    | some (.dT _) => some (.type "dict")
    | _ => none
  | .non => some (.type "NoneType")
  | .bl _ => some (.type "bool")
  | .int _ => some (.type "int")
  | .str _ => some (.type "str")
  | _ => none
def okT (cs : List Addr) : Value → Prop
  | .ref C => C ∈ cs
  | _ => True
def kit2 (D : Addr) : Value → Bool
  | .ref C => decide (C = D)
  | _ => false
theorem ty2_kit {K : PySem.W.Frag} {cs ds : List Addr} (k : Kit K cs ds) {H : Hp} {x : V} {t : Value} (h : tyV2 H x = some t) (ok : okT cs t) : TyX K H x t ∧ ∀ D ∈ ds, PySem.W.kitOne K t (.ref D) = some (kit2 D t) := by
  unfold tyV2 at h
  split at h <;> first
    | (cases h; exact ⟨.base .non, fun D hD => k.bo "NoneType" (by decide) D hD⟩)
    | (cases h; exact ⟨.base (.bl _), fun D hD => k.bo "bool" (by decide) D hD⟩)
    | (cases h; exact ⟨.base (.int _), fun D hD => k.bo "int" (by decide) D hD⟩)
    | (cases h; exact ⟨.base (.str _), fun D hD => k.bo "str" (by decide) D hD⟩)
    | (split at h <;> first
        | (cases h; exact ⟨.base (.lst (by assumption)), fun D hD => k.bo "list" (by decide) D hD⟩)
        | (cases h; exact ⟨.base (.tup (by assumption)), fun D hD => k.bo "tuple" (by decide) D hD⟩)
        | (cases h; exact ⟨.base (.dK (by assumption)), fun D hD => k.bo "dict" (by decide) D hD⟩)
        | (cases h; exact ⟨.base (.dT (by assumption)), fun D hD => k.bo "dict" (by decide) D hD⟩)
        | (cases h
           have O := k.ow _ ok
           exact ⟨.base (.ins (by assumption) O.cl O.ci O.gd O.tk O.mr), fun D hD => k.oo _ ok D hD⟩)
        | cases h)
    | cases h
/-- isinstance(x, C), C an own class -/
def fIsiO (cs ds : List Addr) : List V → Hp → VK → Prop := fun xs H Q => match xs with
  | [x, .ref D] => ∃ t, tyV2 H x = some t ∧ okT cs t ∧ D ∈ ds ∧ Q (.bl (kit2 D t)) H
  | _ => False
theorem call_fIsiO {X : Cx} {cs ds : List Addr} (k : Kit X.K cs ds) : CallR X (.builtin "isinstance") (fIsiO cs ds) := by
  intro pins s σ H xs us Q I r h
  match xs, r, h with
  | [x, .ref D], r, h =>
    obtain ⟨t, h1, h2, h3, h4⟩ := h
    obtain ⟨g1, g2⟩ := ty2_kit k h1 h2
    exact call_isi pins s σ H _ us Q I r ⟨x, .ref D, _, _, _, rfl, .own D, g1, g2 D h3, h4⟩
/-- isinstance(x, (C, D, ..)), own classes, the tuple just made -/
def kits2 (t : Value) : List V → Bool
  | .ref D :: r => kit2 D t || kits2 t r
  | _ => false
def allIn (ds : List Addr) : List V → Prop
  | [] => True
  | .ref D :: r => D ∈ ds ∧ allIn ds r
  | _ :: _ => False
theorem kits2_any {K : PySem.W.Frag} {ds : List Addr} {t : Value} (k : ∀ D ∈ ds, PySem.W.kitOne K t (.ref D) = some (kit2 D t)) : ∀ {vs : List V}, allIn ds vs → ∃ us, Paired ClsV vs us ∧ PySem.W.kitAny K t us = some (kits2 t vs)
  | [], _ => ⟨[], .nil, kitAny_nil⟩
  | v :: r, ha => by
    cases v <;> first
      | exact ha.elim
      | (rename_i D
         obtain ⟨us, p, q⟩ := kits2_any k ha.2
         refine ⟨_, .cons (.own D) p, kitAny_cons (k D ha.1) (fun hb => ?_) (fun hb => ?_)⟩
         · rw [q, kits2, hb]; rfl
         · rw [kits2, hb]; rfl)
def fIsiP (cs ds : List Addr) : List V → Hp → VK → Prop := fun xs H Q => match xs with
  | [x, .ref p] => match H p with
    | some (.tup vs) => ∃ t, tyV2 H x = some t ∧ okT cs t ∧ allIn ds vs ∧ Q (.bl (kits2 t vs)) H
    | _ => False
  | _ => False
theorem call_fIsiP {X : Cx} {cs ds : List Addr} (k : Kit X.K cs ds) : CallR X (.builtin "isinstance") (fIsiP cs ds) := by
  intro pins s σ H xs us Q I r h
  match xs, r, h with
  | [x, .ref p], r, h =>
    dsimp only [fIsiP] at h
    split at h
    · obtain ⟨t, h1, h2, h3, h4⟩ := h
      obtain ⟨g1, g2⟩ := ty2_kit k h1 h2
      obtain ⟨ws, g3, g4⟩ := kits2_any g2 h3
      exact call_isiT pins s σ H _ us Q I r ⟨x, p, _, _, ws, _, rfl, by assumption, g3, g1, g4, h4⟩
    · exact h.elim
/-- isinstance(x, T), T a built-in class, x an instance too -/
def fIsiA (cs : List Addr) : List V → Hp → VK → Prop := fun xs H Q => match xs with
  | [x, .ty n] => ∃ t, tyV2 H x = some t ∧ match t with
    | .ref C => C ∈ cs ∧ n ∈ ["bool", "int", "str", "list", "tuple", "dict"] ∧ Q (.bl false) H
    | .type s => ∃ b, kitB s n = some b ∧ Q (.bl b) H
    | _ => False
  | _ => False
theorem call_fIsiA {X : Cx} {cs ds : List Addr} (k : Kit X.K cs ds) : CallR X (.builtin "isinstance") (fIsiA cs) := by
  intro pins s σ H xs us Q I r h
  match xs, r, h with
  | [x, .ty n], r, h =>
    obtain ⟨t, h1, h2⟩ := h
    match t, h1, h2 with
    | .ref C, h1, h2 =>
      obtain ⟨g1, _⟩ := ty2_kit k h1 (show okT cs (.ref C) from h2.1)
      exact call_isi pins s σ H _ us Q I r ⟨x, .ty n, _, _, _, rfl, .ty n, g1, k.ob C h2.1 n h2.2.1, h2.2.2⟩
    | .type s', h1, h2 =>
      obtain ⟨b, h3, h4⟩ := h2
      obtain ⟨g1, _⟩ := ty2_kit k h1 (show okT cs (.type s') from trivial)
      exact call_isi pins s σ H _ us Q I r ⟨x, .ty n, _, _, _, rfl, .ty n, g1, kit_ty h3, h4⟩
/-- x is True, x is False; x is not .. -/
def fIsB (neg : Bool) : R2 := fun x y H Q => match y with
  | .bl b => (match x with | .non => Q (.bl neg) H | .bl c => Q (.bl (if neg = true then !decide (c = b) else decide (c = b))) H | .int _ => Q (.bl neg) H | .str _ => Q (.bl neg) H | .ref _ => Q (.bl neg) H | _ => False)
  | _ => False
theorem same_bool {M : Model} {A : Around} {E : Value → Shared → Prop} {s : Shared} {x : V} {u : Value} {b : Bool} {R : Bool → Shared → Prop} (r : RelV x u)
    (h : match x with | .non => R false s | .bl c => R (decide (c = b)) s | .int _ => R false s | .str _ => R false s | .ref _ => R false s | _ => False) : wpAny M A (isSame u (.bool b)) R E s := by
  cases x <;> first
    | exact h.elim
    | (cases r
       refine wpAny_isSame_plain rfl ?_
       exact h)
    | (obtain ⟨t, rfl⟩ := r
       refine wpAny_isSame_plain rfl ?_
       exact h)
    | (cases r
       rename_i c
       refine wpAny_isSame_plain rfl ?_
       have e : (Value.bool c == Value.bool b) = decide (c = b) := by cases c <;> cases b <;> rfl
       rw [e]
       exact h)
theorem op_fIsB {X : Cx} : OpR X (compareOp .Is) (fIsB false) := by
  intro pins s σ H x y v u Q I rx ry h
  cases y <;> first
    | exact False.elim h
    | (cases ry
       show wpAny _ _ ((isSame v (Value.bool _)) >>= fun z => pure (Value.bool z)) _ _ s
       refine wpAny_bind (same_bool rx ?_)
       cases x <;> first
         | exact False.elim h
         | exact wpAny_pure (fin_bl I h rfl))
theorem op_fNotB {X : Cx} : OpR X (compareOp .IsNot) (fIsB true) := by
  intro pins s σ H x y v u Q I rx ry h
  cases y <;> first
    | exact False.elim h
    | (cases ry
       show wpAny _ _ ((isSame v (Value.bool _)) >>= fun z => pure (Value.bool (!z))) _ _ s
       refine wpAny_bind (same_bool rx ?_)
       cases x <;> first
         | exact False.elim h
         | exact wpAny_pure (fin_bl I h rfl))
/-- one of two ways -/
def fOr (r1 r2 : R2) : R2 := fun x y H Q => r1 x y H Q ∨ r2 x y H Q
theorem op_fOr {X : Cx} {f : Value → Value → Sem Value} {r1 r2 : R2} (h1 : OpR X f r1) (h2 : OpR X f r2) : OpR X f (fOr r1 r2) := fun pins s σ H x y v u Q I rx ry q => q.elim (h1 pins s σ H x y v u Q I rx ry) (h2 pins s σ H x y v u Q I rx ry)
theorem all_nil {α : Type} {P : α → Prop} : ∀ x ∈ ([] : List α), P x := fun _ h => by cases h
theorem all_cons {α : Type} {P : α → Prop} {a : α} {l : List α} (h : P a) (t : ∀ x ∈ l, P x) : ∀ x ∈ a :: l, P x := fun x m => by
  rcases List.mem_cons.mp m with rfl | m
  · exact h
  · exact t x m
/-! ### == by an own __eq__ -/
def fEqO (C : Addr) (sp : Sp) (E : XK) : R2 := fun x y H Q => match x, y with
  | .ref a, .ref b => (match H a with | some (.ins D _ _) => D = C | _ => False) ∧ (match H b with | some (.ins D _ _) => D = C | _ => False) ∧ sp [x, y] H (fun v H' => match v with | .bl _ => Q v H' | _ => False) E
  | _, _ => False
theorem op_fEqO {X : Cx} {CX : CXT} {C : Addr} {n : Nat} {ps : List Str} {sp : Sp} {E : XK} (h : HasM X.prog X.w X.K X.mg X.base CX C "__eq__" n ps sp) (hr : Room n X.A) (hx : Passes CX X E) : OpR X (compareOp .Eq) (fEqO C sp E) := by
  intro pins s σ H x y v u Q I rx ry q
  obtain ⟨f, fd, F, B, M⟩ := h.ex
  cases x <;> cases y <;> first
    | exact False.elim q
    | skip
  rename_i a b
  dsimp only [fEqO] at q
  obtain ⟨qa, qb, q⟩ := q
  split at qa
  · rename_i D1 dx1 fs1 ea
    split at qb
    · rename_i D2 dx2 fs2 eb
      subst qa
      subst qb
      cases rx
      cases ry
      obtain ⟨mA, J, _⟩ := ins_get I.hok ea
      obtain ⟨mB, J', _⟩ := ins_get I.hok eb
      obtain ⟨od, J, _⟩ := J.look
      obtain ⟨od', J', _⟩ := J'.look
      obtain ⟨m, hF⟩ := I.fr
      show wpAny (model X.prog X.w) X.A (richCompare .Eq (.ref a) (.ref b)) (EP X pins σ Q) X.xe s
      refine PySem.W.cmp_K (op := .Eq) (tb := .ref D2) hr.units0 hF I.ok.mod.kin J J'.type (by simp [PySem.W.notFirst]) M.at_ M.fn ?_
      refine wpAny_mono (run_fn (vs := [.ref a, .ref b]) F hr B .nil hx I (.cons rfl (.cons rfl .nil)) q) (fun w s' z => ?_) fun _ _ x => x
      obtain ⟨y, H', I', r, z⟩ := z
      cases y <;> first
        | exact z.elim
        | (cases r; exact ⟨.bl _, H', I', rfl, z⟩)
    · exact qb.elim
  · exact qa.elim
/-! ### what the top has written of a class -/
structure ClsFact (K : PySem.W.Frag) (C : Addr) : Prop where
  pg : PySem.W.plainGet K C Str.empty = true
  hd : PySem.W.hasDictIn K C = true
  po : PySem.W.plainOver K C = true
  sa : PySem.W.findIn K (.ref C) "__setattr__" = some (some (.builtin "object.__setattr__"))
  ci : PySem.W.findIn K (.ref C) "__class__" = some (some (.builtin "object.__class__"))
  mr : PySem.W.mroIn K C (.type "object") = some true
  mks : PySem.W.makesIn K C = true
  kp : PySem.W.keepIn K (.ref C) = true
theorem ClsFact.cls {K : PySem.W.Frag} {C : Addr} (x : ClsFact K C) : Cls K C := ⟨x.pg, x.hd, x.po, x.sa⟩
/-- what every class has of object -/
structure ObjFact (K : PySem.W.Frag) : Prop where
  gd : PySem.W.specialIn K (.builtin "object.__class__") "__get__" = some (some (.builtin "getset_descriptor.__get__"))
  tk : PySem.W.takesIn K (.builtin "object.__class__") = some true
theorem ClsFact.ocls {K : PySem.W.Frag} {C : Addr} (x : ClsFact K C) (o : ObjFact K) : OCls K C := ⟨x.cls, x.ci, o.gd, o.tk, x.mr⟩
/-! ### comprehensions -/
def Lc (J : It) (g : TG) (tt : TT) (te : TE) (vs : List Nat) (σ : L2.St) (H1 : Hp) (D : Addr) (Q : VK) : Prop := ∃ W : Nat → Nat → Hp → Prop, (∃ m, W 0 m (upd H1 D (.lst []))) ∧ ∀ i m H, W i m H →
  (J.stop i H ∧ Q (.ref D) H) ∨ (J.go i H ∧ ∃ Nx : Hp → Prop, (∀ H', Nx H' → ∃ m', m' < m ∧ W (i + 1) m' H') ∧ ∀ x H', J.yld i H x H' → g x (wipe σ vs) H' fun σ2 H2 => wipe σ2 vs = wipe σ vs ∧ tt σ2 H2 fun b H3 =>
    if b = true then te σ2 H3 fun y H4 => ∃ acc, H4 D = some (.lst acc) ∧ acc.length < sizeLine ∧ Nx (upd H4 D (.lst (acc ++ [y]))) else Nx H3)
theorem lc_ {wi : TI} {g : TG} {tt : TT} {te : TE} {vs : List Nat} {σ : L2.St} {H : Hp} {Q : VK} (h : wi σ H fun J H1 => ∀ D, H1 D = none → Lc J g tt te vs σ H1 D Q) : tLc wi g tt te vs σ H Q := h
theorem lcx_range {lo : Int} {n : Nat} {g : TG} {tt : TT} {te : TE} {vs : List Nat} {σ : L2.St} {H1 : Hp} {D : Addr} {Q : VK} (Pv : Nat → Hp → Prop) (h0 : Pv 0 (upd H1 D (.lst [])))
    (hs : ∀ i H, i < n → Pv i H → g (.int (lo + i)) (wipe σ vs) H fun σ2 H2 => wipe σ2 vs = wipe σ vs ∧ tt σ2 H2 fun b H3 =>
      if b = true then te σ2 H3 fun y H4 => ∃ acc, H4 D = some (.lst acc) ∧ acc.length < sizeLine ∧ Pv (i + 1) (upd H4 D (.lst (acc ++ [y]))) else Pv (i + 1) H3) (hd : ∀ H, Pv n H → Q (.ref D) H) : Lc (Itr lo n) g tt te vs σ H1 D Q :=
  lc_it walk_range Pv h0 (fun _ _ _ _ => trivial) (fun i x H H' hi p y => by
    obtain ⟨rfl, rfl⟩ := y
    exact hs i _ hi p) hd
theorem lcx_list {K : PySem.W.Frag} {a : Addr} {xs : List V} {g : TG} {tt : TT} {te : TE} {vs : List Nat} {σ : L2.St} {H1 : Hp} {D : Addr} {Q : VK} (Pv : Nat → Hp → Prop) (h0 : Pv 0 (upd H1 D (.lst []))) (hl : ∀ i H, i ≤ xs.length → Pv i H → SqL K H a xs)
    (hs : ∀ i x H, xs[i]? = some x → Pv i H → g x (wipe σ vs) H fun σ2 H2 => wipe σ2 vs = wipe σ vs ∧ tt σ2 H2 fun b H3 =>
      if b = true then te σ2 H3 fun y H4 => ∃ acc, H4 D = some (.lst acc) ∧ acc.length < sizeLine ∧ Pv (i + 1) (upd H4 D (.lst (acc ++ [y]))) else Pv (i + 1) H3) (hd : ∀ H, Pv xs.length H → Q (.ref D) H) : Lc (Itl K a) g tt te vs σ H1 D Q :=
  lc_it walk_list Pv h0 hl (fun i x H H' hi p y => by
    obtain ⟨rfl, e⟩ := y
    exact hs i x _ e p) hd
end Fx

set_option Elab.async false
set_option linter.all false
set_option maxRecDepth 100000
/-! Ex: exceptions of the program's own classes, over Ox. -/
namespace Fx
open PySem PySem.Spec PyProof.Rows L2
/-! ### defs that may raise -/
/-- what leaves a def, as its promise says -/
abbrev wOf (E : XK) : WX := fun cls d _ H => E cls d H
section
variable {P : Program} {w : World} {K : PySem.W.Frag} {mg : Str → Option Value} {base : Heap}
theorem tk_of {N : List Str} {qual : Str} {sc : Scope} {f : Addr} {cd : Value} {A : Around} {outer : List Env} {s : Shared} {H : Hp} {E : XK} : Takes (cxOf (L2.CX P w) P w K mg base N qual sc f cd A outer s H E) (wOf E) := takes_of rfl rfl rfl rfl
theorem hasX_of {x qual : Str} {st : Stmt} {N ps : List Str} {k : Nat} {sp : Sp} (A : At K mg x qual st ps) (S : FnScope N ps (defScope st)) (len : ∀ vs H Q E, sp vs H Q E → vs.length = ps.length)
    (hbody : ∀ (cdv : Value) (f : Addr) (A : Around) (outer : List Env) (s : Shared) (H : Hp) (vs : List V) (Q : VK) (E : XK), Room k (A.deeper (envOfC qual (defScope st) s.heap.objs.size f cdv)) → sp vs H Q E →
      ∃ t, PSs (cxOf (L2.CX P w) P w K mg base N qual (defScope st) f cdv A outer s H E) (defBody st) t ∧ t { nx := fun _ H' => Q .non H', rt := Q } (start N vs) H) : Has P w K mg base (L2.CX P w) x (k + 1) ps sp := by
  obtain ⟨f, fd, F, B, G⟩ := A.ex
  exact ⟨f, fd, F.okX S len fun cdv A outer s H vs Q E hr h => hbody cdv f A outer s H vs Q E hr h, B, G, F.kp⟩
theorem hasMX_of {C : Addr} {x qual : Str} {st : Stmt} {N ps : List Str} {k : Nat} {sp : Sp} (A : AtM K C x qual st ps) (S : FnScope N ps (defScope st)) (len : ∀ vs H Q E, sp vs H Q E → vs.length = ps.length)
    (hbody : ∀ (cdv : Value) (f : Addr) (A : Around) (outer : List Env) (s : Shared) (H : Hp) (vs : List V) (Q : VK) (E : XK), Room k (A.deeper (envOfC qual (defScope st) s.heap.objs.size f cdv)) → sp vs H Q E →
      ∃ t, PSs (cxOf (L2.CX P w) P w K mg base N qual (defScope st) f cdv A outer s H E) (defBody st) t ∧ t { nx := fun _ H' => Q .non H', rt := Q } (start N vs) H) : HasM P w K mg base (L2.CX P w) C x (k + 1) ps sp := by
  obtain ⟨f, fd, F, B, G⟩ := A.ex
  exact ⟨f, fd, F.okX S len fun cdv A outer s H vs Q E hr h => hbody cdv f A outer s H vs Q E hr h, B, G⟩
end
section
variable {X : Cx} {CX : CXT} {k : Nat} {C : Addr} {x m : Str} {p pos apos : Pos} {o e : Expr} {es : List Expr} {t : TA} {ta : TE} {ps : List Str} {sp : Sp} {W : WX}
theorem fe_callX (h : Has X.prog X.w X.K X.mg X.base (L2.CX X.prog X.w) x k ps sp) (hr : Room k X.A) (hg : Gl X x) (tk : Takes X W) (ha : PA X (e :: es) t) (hd : (x == ("__debug__" : Str)) = false := by decide)
    (hs : starEach (e :: es) X.env = (false, eval e X.env) :: starEach es X.env := by rfl) (hplain : (backTo pos (starEach es X.env)).any (·.1) = false := by rfl) : PE X (.Call (.Name x p) (e :: es) [] pos) (tCallS sp (WE W) t) := by
  obtain ⟨f, fd, F, B, G, kp⟩ := h.ex
  exact pe_callS F hr hg G kp B (fun σ => passAt tk σ) ha hd hs hplain
theorem fe_callX0 (h : Has X.prog X.w X.K X.mg X.base (L2.CX X.prog X.w) x k ps sp) (hr : Room k X.A) (hg : Gl X x) (tk : Takes X W) (hd : (x == ("__debug__" : Str)) = false := by decide) : PE X (.Call (.Name x p) [] [] pos) (tCallS sp (WE W) tNil) := by
  obtain ⟨f, fd, F, B, G, kp⟩ := h.ex
  refine ⟨fun pins s σ H Q I h => ?_⟩
  refine wpAny_Call_Name_kw (ld_glob I hg G ?_ hd)
  exact PySem.W.callWith_K0 I.kIn kp (run_fnS (us := []) F hr B (passAt tk σ) I .nil h)
theorem isOb_some {a : Addr} {H : Hp} (h : isOb C m (.ref a) H) : ∃ dx fs, H a = some (.ins C dx fs) ∧ fs.lookup m = none := by
  unfold isOb at h
  dsimp only at h
  split at h
  · obtain ⟨rfl, l⟩ := h
    exact ⟨_, _, by assumption, l⟩
  · exact h.elim
def fMethS (C : Addr) (m : Str) (sp : Sp) (E : L2.St → XK) (ta : TE) (t : TA) : TE := fun σ H Q => ta σ H fun x H1 => isOb C m x H1 ∧ t σ H1 fun vs H2 => sp (x :: vs) H2 Q (E σ)
theorem fe_methX {pl : Sem Bool} (h : HasM X.prog X.w X.K X.mg X.base (L2.CX X.prog X.w) C m k ps sp) (c : Cls X.K C) (hr : Room k X.A) (tk : Takes X W) (he : PE X o ta) (ha : PA X (e :: es) t)
    (hst : starEach (e :: es) X.env = (false, eval e X.env) :: starEach es X.env := by rfl) (hpl : (backTo pos (starEach es X.env)).any (·.1) = false := by rfl)
    (ht : eval (.Call (.Attribute o m apos) (e :: es) [] pos) X.env = (do
      let ov ← eval o X.env
      standAt apos.atName
      let (f, first) ← holding [ov] (getMethod ov m pl)
      callWith pos f first (backTo pos (starEach (e :: es) X.env)) (backToKw pos (keywordEach [] X.env))) := by rfl) :
    PE X (.Call (.Attribute o m apos) (e :: es) [] pos) (fMethS C m sp (WE W) ta t) := by
  obtain ⟨f, fd, F, B, M⟩ := h.ex
  refine ⟨fun pins s σ H Q I h => ?_⟩
  refine PySem.W.methodCall_KW (pl := pl) (thn (he.run pins s σ H _ I h) fun u s1 ⟨x, H1, I1, rx, q1, q2⟩ => ?_) ht
  match x, q1, rx, q2 with
  | .ref a, q1, rx, q2 =>
    obtain ⟨dx, fs, ea, l⟩ := isOb_some q1
    · obtain rfl : u = Value.ref a := rx
      refine getmeth_ok I1 ea c M l ?_
      refine PySem.W.callWith_K (first := [.ref a]) (h₀ := X.base) I.ok.mod.kin M.kp (thn (ha.run pos pins s1 σ H1 _ I1 q2) fun us s2 ⟨vs, H2, I2, r, q3⟩ => ⟨I2.kIn, ?_⟩) hst hpl
      exact run_fnS (us := .ref a :: us) (vs := .ref a :: vs) F hr B (passAt tk σ) I2 (.cons rfl r) q3
theorem fe_methX0 {pl : Sem Bool} (h : HasM X.prog X.w X.K X.mg X.base (L2.CX X.prog X.w) C m k ps sp) (c : Cls X.K C) (hr : Room k X.A) (tk : Takes X W) (he : PE X o ta)
    (ht : eval (.Call (.Attribute o m apos) [] [] pos) X.env = (do
      let ov ← eval o X.env
      standAt apos.atName
      let (f, first) ← holding [ov] (getMethod ov m pl)
      callWith pos f first (backTo pos (starEach [] X.env)) (backToKw pos (keywordEach [] X.env))) := by rfl) :
    PE X (.Call (.Attribute o m apos) [] [] pos) (fMethS C m sp (WE W) ta tNil) := by
  obtain ⟨f, fd, F, B, M⟩ := h.ex
  refine ⟨fun pins s σ H Q I h => ?_⟩
  refine PySem.W.methodCall_KW (pl := pl) (thn (he.run pins s σ H _ I h) fun u s1 ⟨x, H1, I1, rx, q1, q2⟩ => ?_) ht
  match x, q1, rx, q2 with
  | .ref a, q1, rx, q2 =>
    obtain ⟨dx, fs, ea, l⟩ := isOb_some q1
    · obtain rfl : u = Value.ref a := rx
      refine getmeth_ok I1 ea c M l ?_
      exact PySem.W.callWith_K0 (first := [.ref a]) I1.kIn M.kp (run_fnS (us := [.ref a]) (vs := [.ref a]) F hr B (passAt tk σ) I1 (.cons rfl .nil) q2)
end
/-! ### exception classes -/
structure ExcFact (K : PySem.W.Frag) (C : Addr) : Prop where
  cls : ∃ nm q N bs bm sn sub ab col dd k0 k1 k2 k3 k5, K.lookup C = some (excClassObj nm q C N bs bm true sn sub ab col dd k0 k1 k2 k3 k5 "ValueError.__new__") ∧ PySem.HandSPX.refsVE bm = true
  sa : PySem.W.findIn K (.ref C) "__setattr__" = some (some (.builtin "object.__setattr__"))
  ga : PySem.W.findIn K (.ref C) "__getattribute__" = some (some (.builtin "BaseException.__getattribute__"))
  gg : PySem.W.findIn K (.ref C) "__getattr__" = some none
  exC : PySem.W.subIn K (.ref C) (.type "BaseException") = some true
  tyC : PySem.W.typeIn K (.ref C) = some (.type "type")
  kC : PySem.W.keepIn K (.ref C) = true
  hdC : PySem.W.hasDictIn K C = true
  ci : PySem.W.findIn K (.ref C) "__class__" = some (some (.builtin "object.__class__"))
  mr : PySem.W.mroIn K C (.type "object") = some true
theorem ExcFact.of {K : PySem.W.Frag} {C : Addr} {nm q N bs bm sn sub ab col dd k0 k1 k2 k3 k5} (l : K.lookup C = some (excClassObj nm q C N bs bm true sn sub ab col dd k0 k1 k2 k3 k5 "ValueError.__new__")) (r : PySem.HandSPX.refsVE bm = true)
    (sa : PySem.W.findIn K (.ref C) "__setattr__" = some (some (.builtin "object.__setattr__"))) (ga : PySem.W.findIn K (.ref C) "__getattribute__" = some (some (.builtin "BaseException.__getattribute__"))) (gg : PySem.W.findIn K (.ref C) "__getattr__" = some none)
    (exC : PySem.W.subIn K (.ref C) (.type "BaseException") = some true) (tyC : PySem.W.typeIn K (.ref C) = some (.type "type")) (kC : PySem.W.keepIn K (.ref C) = true) (hdC : PySem.W.hasDictIn K C = true)
    (ci : PySem.W.findIn K (.ref C) "__class__" = some (some (.builtin "object.__class__"))) (mr : PySem.W.mroIn K C (.type "object") = some true) : ExcFact K C :=
  ⟨⟨nm, q, N, bs, bm, sn, sub, ab, col, dd, k0, k1, k2, k3, k5, l, r⟩, sa, ga, gg, exC, tyC, kC, hdC, ci, mr⟩
theorem ExcFact.oex {K : PySem.W.Frag} {C : Addr} (F : ExcFact K C) : OexC K C := ⟨F.cls, F.sa, F.exC, F.tyC, F.kC⟩
theorem ExcFact.xf {K : PySem.W.Frag} {C : Addr} (F : ExcFact K C) : XfC K C := ⟨F.ga, F.gg, F.exC, F.hdC⟩
/-- __init__ of an exception class as it stands -/
structure AtE (K : PySem.W.Frag) (C : Addr) (qual : Str) (st : Stmt) (ps : List Str) : Prop where
  ex : ∃ (f : Addr) (fd : FuncData), Fun K "__init__" qual st f fd ∧ Binds K fd ps [] ∧ PySem.W.findIn K (.ref C) "__init__" = some (some (.ref f)) ∧ PySem.W.typeIn K (.ref f) = some (.type "function")
structure EFact (K : PySem.W.Frag) (C : Addr) (qual : Str) (st : Stmt) : Prop where
  ex : ∃ (f : Addr) (oc : Value) (od an : Option Addr) (sl : Array (Option Value)) (kV dc pm cd ct : Value),
    PySem.W.findIn K (.ref C) "__init__" = some (some (.ref f)) ∧ K.lookup f = some ⟨oc, od, .func (PySem.W.fnOf "__init__" qual (defArgs st) (defBody st) (defScope st) .none kV dc pm an cd ct), sl⟩ ∧
    PySem.W.codeIn K cd qual = true ∧ PySem.W.keepIn K (.ref f) = true ∧ PySem.W.typeIn K (.ref f) = some (.type "function")
theorem EFact.of {K : PySem.W.Frag} {C : Addr} {qual : Str} {st : Stmt} {f : Addr} {oc : Value} {od an : Option Addr} {sl : Array (Option Value)} {kV dc pm cd ct : Value}
    (a : PySem.W.findIn K (.ref C) "__init__" = some (some (.ref f))) (l : K.lookup f = some ⟨oc, od, .func (PySem.W.fnOf "__init__" qual (defArgs st) (defBody st) (defScope st) .none kV dc pm an cd ct), sl⟩)
    (c : PySem.W.codeIn K cd qual = true) (k : PySem.W.keepIn K (.ref f) = true) (i : PySem.W.typeIn K (.ref f) = some (.type "function")) : EFact K C qual st := ⟨f, oc, od, an, sl, kV, dc, pm, cd, ct, a, l, c, k, i⟩
theorem AtE.of {K : PySem.W.Frag} {C : Addr} {qual : Str} {st : Stmt} {ps : List Str} (F : EFact K C qual st)
    (hb : ∀ (kV doc pm : Value) (an : Option Addr) (cdv ct : Value) (us : List Value), us.length = ps.length → bindArgs (PySem.W.fnOf "__init__" qual (defArgs st) (defBody st) (defScope st) .none kV doc pm an cdv ct) ⟨us, []⟩ = pure (ps.zip us)) : AtE K C qual st ps := by
  obtain ⟨f, oc, od, an, sl, kV, dc, pm, cd, ct, a, l, c, k, i⟩ := F.ex
  have F1 := fun_mk (st := st) l c k
  exact ⟨_, _, F1, F1.binds hb, a, i⟩
/-- what __init__ keeps: two fields -/
def spInitE (C : Addr) (n : Nat) (flds : List V → List (Str × V)) : Sp := fun ws H0 Q _ => ∃ a vs H1, ws = .ref a :: vs ∧ vs.length = n ∧ H1 a = none ∧ H0 = upd H1 a (exo a C none) ∧
  ∀ d H2, H1 d = none → d ≠ a → (∀ b o, H1 b = some o → H2 b = some o) → H2 a = some (exo a C (some d)) → H2 d = some (exd d (flds vs)) → Q .non H2
/-- an exception class whose __init__ keeps its fields -/
structure HasE (P : Program) (w : World) (K : PySem.W.Frag) (mg : Str → Option Value) (base : Heap) (C : Addr) (x : Str) (n : Nat) (flds : List V → List (Str × V)) : Prop where
  ex : ∃ (f : Addr) (fd : FuncData) (ps : List Str), FnOk P w K mg base CX0 1 f fd ps (spInitE C n flds) ∧ Binds K fd ps [] ∧ PySem.W.findIn K (.ref C) "__init__" = some (some (.ref f)) ∧ PySem.W.typeIn K (.ref f) = some (.type "function") ∧ mg x = some (.ref C) ∧ OexC K C
def two (f1 f2 : Str) : List V → List (Str × V)
  | [a, b] => [(f2, b), (f1, a)]
  | _ => []
theorem hasE2 {P : Program} {w : World} {K : PySem.W.Frag} {mg : Str → Option Value} {base : Heap} {C : Addr} {x qual f1 f2 : Str} {st : Stmt} {q1 q2 q3 q4 r1 r2 r3 r4 : Pos} (A : AtE K C qual st ["self", f1, f2]) (S : FnScope ["self", f1, f2] ["self", f1, f2] (defScope st))
    (hb : defBody st = [.Assign [.Attribute (.Name "self" q1) f1 q2] (.Name f1 q3) q4, .Assign [.Attribute (.Name "self" r1) f2 r2] (.Name f2 r3) r4])
    (F : ExcFact K C) (n1 : PySem.W.findIn K (.ref C) f1 = some none) (n2 : PySem.W.findIn K (.ref C) f2 = some none) (g : mg x = some (.ref C)) (d1 : (f1 == ("__debug__" : Str)) = false) (d2 : (f2 == ("__debug__" : Str)) = false)
    (c1 : (f1 == ("__classdict__" : Str)) = false) (c2 : (f2 == ("__classdict__" : Str)) = false) : HasE P w K mg base C x 2 (two f1 f2) := by
  obtain ⟨f, fd, Fn, B, I, Ty⟩ := A.ex
  refine ⟨f, fd, _, ?_, B, I, Ty, g, F.oex⟩
  refine Fn.ok S (fun ws H Q E h => ?_) (fun cdv A outer s H ws Q E hr h => ?_)
  · obtain ⟨a, vs, H1, rfl, hl, _⟩ := h
    show vs.length + 1 = 3
    rw [hl]
  · obtain ⟨a, vs, H1, rfl, hl, na, rfl, k⟩ := h
    match vs, hl, k with
    | [v1, v2], hl, k =>
      have v0 : Vis (defScope st) "self" := (S.par "self" (List.Mem.head _)).elim (fun z => .inl z) (fun z => .inr (.inl z))
      have vis1 : Vis (defScope st) f1 := (S.par f1 (List.Mem.tail _ (List.Mem.head _))).elim (fun z => .inl z) (fun z => .inr (.inl z))
      have vis2 : Vis (defScope st) f2 := (S.par f2 (List.Mem.tail _ (List.Mem.tail _ (List.Mem.head _)))).elim (fun z => .inl z) (fun z => .inr (.inl z))
      rw [hb]
      refine ⟨_, pss_cons (ps_ost (fe_var 0 rfl v0) (fe_var 1 rfl vis1 d1 c1)) (pss_one (ps_ost (fe_var 0 rfl v0) (fe_var 2 rfl vis2 d2 c2))), ?_⟩
      refine ⟨a, C, rfl, F.oex, n1, .inl ⟨upd_same, fun dx ndx nea => ?_⟩⟩
      have hdx : H1 dx = none := by rw [upd_ne nea] at ndx; exact ndx
      refine ⟨a, C, rfl, F.oex, n2, .inr ⟨dx, [(f1, v1)], upd_same, (upd_ne nea).trans upd_same, (show 1 ≤ 900 by decide), ?_⟩⟩
      refine k dx _ hdx nea (fun b o e => ?_) ?_ upd_same
      · rw [upd_ne (ne_of_none e hdx), upd_ne (ne_of_none e na), upd_ne (ne_of_none e hdx), upd_ne (ne_of_none e na)]
        exact e
      · rw [upd_ne (Ne.symm nea)]
        exact upd_same
/-- C(e, ..) -/
def fMkE (C : Addr) (n : Nat) (flds : List V → List (Str × V)) (ta : TA) : L2.St → Hp → XK → Prop := fun σ H Q => ta σ H fun vs H1 => vs.length = n ∧ ∀ d H2, H1 d = none → Same H1 H2 → H2 d = some (.xd (flds vs)) → Q (.ref C) (some d) H2
section
variable {X : Cx} {C : Addr} {x : Str} {n : Nat} {flds : List V → List (Str × V)} {p pos : Pos} {e : Expr} {es : List Expr} {ta : TA}
def closAX (t : TA) : TA := closA t
theorem fmk_e (h : HasE X.prog X.w X.K X.mg X.base C x n flds) (hn : n ≤ 1000) (hr : Room 2 X.A) (hg : Gl X x) (ha : PA X (e :: es) ta) (hdb : (x == ("__debug__" : Str)) = false := by decide)
    (he : starEach (e :: es) X.env = (false, eval e X.env) :: starEach es X.env := by rfl) (hpl : (backTo pos (starEach es X.env)).any (·.1) = false := by rfl) : PMk X (.Call (.Name x p) (e :: es) [] pos) (fMkE C n flds ta) := by
  obtain ⟨f, fd, ps, F, B, I, Ty, g, O⟩ := h.ex
  intro pins s σ H Q Iv q
  refine pmk_oex O I Ty F hr B .nil (fun _ _ _ _ _ _ _ h => h.elim) hg g (pa_clos ha) hdb he hpl pins s σ H Q Iv ⟨_, q, fun vs H1 q => ?_⟩
  obtain ⟨hl, q⟩ := q
  refine ⟨by omega, fun a na => ⟨a, vs, H1, by rw [List.append_nil], hl, na, rfl, fun d H2 nd ne keep ea ed => ⟨rfl, d, flds vs, ea, ed, nd, q d _ nd (fun b o eb => ?_) upd_same⟩⟩⟩
  rw [upd_ne (ne_of_none eb nd), del_ne (ne_of_none eb na)]
  exact keep b o eb
/-- raise C(e, ..) -/
def fRaise (C : Addr) (n : Nat) (flds : List V → List (Str × V)) (W : WX) (ta : TA) : TS := fun _ σ H => ta σ H fun vs H1 => vs.length = n ∧ ∀ d H2, H1 d = none → Same H1 H2 → H2 d = some (.xd (flds vs)) → W (.ref C) (some d) σ H2
theorem fs_raise {W : WX} {pos2 : Pos} (hc : X.calm = true) (tk : Takes X W) (h : HasE X.prog X.w X.K X.mg X.base C x n flds) (hn : n ≤ 1000) (hr : Room 2 X.A) (hg : Gl X x) (ha : PA X (e :: es) ta) (hdb : (x == ("__debug__" : Str)) = false := by decide)
    (he : starEach (e :: es) X.env = (false, eval e X.env) :: starEach es X.env := by rfl) (hpl : (backTo pos (starEach es X.env)).any (·.1) = false := by rfl) : PS X (.Raise (some (.Call (.Name x p) (e :: es) [] pos)) none pos2) (fRaise C n flds W ta) :=
  ps_raise hc tk (fmk_e h hn hr hg ha hdb he hpl)
end
/-- the way out of a def: an exception of class C with two fields -/
def Out (C : Addr) (H : Hp) (fs : List (Str × V)) (E : XK) : Prop := ∀ d H2, H d = none → Same H H2 → H2 d = some (.xd fs) → E (.ref C) (some d) H2
theorem Out.same {C : Addr} {H H1 : Hp} {fs : List (Str × V)} {E : XK} (h : Out C H fs E) (s : Same H H1) : Out C H1 fs E := fun d H2 nd s2 e => h d H2 (by
  cases q : H d with
  | none => rfl
  | some o => rw [s _ _ q] at nd; cases nd) (s.trans s2) e
/-! ### the suite -/
/-- e.f, e the caught one -/
def fXf (a : Addr) (cls : Value) (d : Option Addr) (cs : List Addr) (f : Str) (te : TE) : TE := fun σ H Q => te σ H fun x H1 => x = .ref a ∧ match cls, d with
  | .ref C, some dd => C ∈ cs ∧ match H1 dd with
    | some (.xd fs) => match fs.lookup f with
      | some v => Q v H1
      | none => False
    | _ => False
  | _, _ => False
def XPlain (K : PySem.W.Frag) (cs : List Addr) (f : Str) : Prop := ∀ C ∈ cs, XfC K C ∧ PySem.W.findIn K (.ref C) f = some none
theorem fe_xf {X : Cx} {a : Addr} {cs : List Addr} {oe : Obj} {cls : Value} {d : Option Addr} {pn : List (Addr × Obj)} {e : Expr} {te : TE} {pos : Pos} {n : Str} (T : XPlain X.K cs n)
    (hz : Zc cls d oe) (hf : ∃ vs, oe.data = .fields vs) (he : PE (X.suite a ((a, oe) :: pn)) e te) (hb : attributeBase e n X.env (eval e X.env) = eval e X.env) :
    PE (X.suite a ((a, oe) :: pn)) (.Attribute e n pos) (fXf a cls d cs n te) := by
  refine ⟨fun pins s σ H Q I h => ?_⟩
  refine attr_of hb (thn (he.run pins s σ H _ I h) fun u s1 hh => ?_)
  obtain ⟨x, H1, I1, rx, ex, q⟩ := hh
  subst ex
  obtain rfl : u = Value.ref a := rx
  split at q
  · rename_i C dd
    obtain ⟨m, q⟩ := q
    split at q
    · rename_i fs ea
      split at q
      · rename_i v l
        obtain ⟨ha, _⟩ := I1.pin (a, oe) (List.mem_append_left _ List.mem_cons_self)
        obtain ⟨vs, hd⟩ := hf
        have hx : ObjOk X.prog X.w H1 s1.heap dd (.xd fs) := I1.hok dd _ ea
        obtain ⟨mA, hns, hr⟩ := hx
        obtain ⟨od, ho, hl⟩ := lookIn_ns hns
        obtain ⟨u, hu, ru⟩ := RelO.some_of (v := v) (o := mA n) (by rw [← l]; exact hr n)
        have J : PySem.W.InstAt s1.heap a oe C (some od) := ⟨ha, hz.1, by unfold PySem.W.notCls; rw [hd] <;> rfl, by rw [hz.2]; exact ho⟩
        exact HandSPX.exc_get I1.kIn J (T C m).1.ga (T C m).1.gg (T C m).1.exC (PySem.W.findObj_own (T C m).1.hdC (T C m).2 rfl (by rw [hl, hu])) (handed_of ru) ⟨v, H1, I1.tok _, ru, q⟩
      · exact q.elim
    · exact q.elim
  · exact q.elim
/-- isinstance(e, C), e the caught one -/
structure XKit (K : PySem.W.Frag) (cs ds : List Addr) : Prop where
  f : ∀ C ∈ cs, ExcFact K C
  ob : ObjFact K
  k : ∀ C ∈ cs, ∀ D ∈ ds, ∃ b, PySem.W.kitOne K (.ref C) (.ref D) = some b
def fIsE (K : PySem.W.Frag) (a : Addr) (cls : Value) (d : Option Addr) (cs : List Addr) : List V → Hp → VK → Prop := fun xs H Q => match xs with
  | [x, .ref D] => x = .ref a ∧ (match cls with | .ref C => C ∈ cs | _ => False) ∧ (match d with | none => True | some dd => match H dd with | some (.xd _) => True | _ => False) ∧ ∃ b, PySem.W.kitOne K cls (.ref D) = some b ∧ Q (.bl b) H
  | _ => False
theorem call_fIsE {X : Cx} {a : Addr} {cls : Value} {d : Option Addr} {cs : List Addr} {oe : Obj} {pn : List (Addr × Obj)} (F : ∀ C ∈ cs, ExcFact X.K C) (ob : ObjFact X.K) (hz : Zc cls d oe) (hf : ∃ vs, oe.data = .fields vs) :
    CallR (X.suite a ((a, oe) :: pn)) (.builtin "isinstance") (fIsE X.K a cls d cs) := by
  intro pins s σ H xs us Q I r h
  match xs, r, h with
  | [x, .ref D], r, h =>
    obtain ⟨rfl, hc, hd, b, e, q⟩ := h
    match cls, hc, hz, e with
    | .ref C, hc, hz, e =>
      cases r with
      | cons rx rr =>
        cases rr with
        | cons rt rr =>
          cases rr
          cases rx
          cases rt
          obtain ⟨hget, _⟩ := I.pin (a, oe) (List.mem_append.mpr (.inl List.mem_cons_self))
          obtain ⟨vs, hv⟩ := hf
          have FC := F C hc
          have hcl : (PySem.W.clsIn X.K C).isSome = true := by
            obtain ⟨cd, hcd, _⟩ := PySem.W.any_some FC.hdC
            rw [hcd]; rfl
          have hJ : ∃ od, PySem.W.InstAt s.heap a oe C od := by
            cases d with
            | none =>
              refine ⟨none, hget, hz.1, ?_, ?_⟩
              · unfold PySem.W.notCls; rw [hv] <;> rfl
              · rw [hz.2]; trivial
            | some dd =>
              dsimp only at hd
              split at hd
              · rename_i fs ea
                have hx : ObjOk X.prog X.w H s.heap dd (.xd fs) := I.hok dd _ ea
                obtain ⟨mA, hns, hr⟩ := hx
                obtain ⟨od, ho, hl⟩ := lookIn_ns hns
                exact ⟨some od, hget, hz.1, by unfold PySem.W.notCls; rw [hv] <;> rfl, by rw [hz.2]; exact ho⟩
              · exact hd.elim
          obtain ⟨od, J⟩ := hJ
          exact PySem.W.kia_one (PySem.W.kitx_exc hcl FC.ga FC.gg FC.exC FC.ci ob.gd ob.tk FC.mr) I.kIn J e (fun z => nomatch z) fun tk => ⟨.bl b, H, I.kept (t' := tk) fun _ _ z => z, rfl, q⟩
/-! ### parts that are never reached -/
section
variable {X : Cx}
def fDead : TE := fun _ _ _ => False
def sDead : TS := fun _ _ _ => False
theorem pe_dead {e : Expr} : PE X e fDead := ⟨fun _ _ _ _ _ _ h => h.elim⟩
theorem ps_dead {st : Stmt} : PS X st sDead := ⟨fun _ _ _ _ _ _ h => h.elim⟩
/-! ### truth by value -/
def fTru (K : PySem.W.Frag) (ta : TE) : TT := fun σ H Q => ta σ H fun x H1 => match x with
  | .non => Q false H1
  | .bl b => Q b H1
  | .int i => Q (!decide (i = 0)) H1
  | .str z => z.length ≤ sizeLine ∧ Q (!decide (z.length = 0)) H1
  | .ref p => ∃ xs, Rl K H1 p xs ∧ Q (!xs.isEmpty) H1
  | _ => False
theorem pt_fTru {a : Expr} {ta : TE} (ha : PE X a ta) (he : ∀ whole, isTrue a X.env whole = (do let v ← whole; standAt a.pos; holding [v] (truthy v))) : PT X a (fTru X.K ta) := by
  refine pt_wk (pt_truth (pe_clos ha) he) fun σ H Q q => ⟨_, q, fun x H1 q => ?_⟩
  split at q
  · exact ⟨_, rfl, q⟩
  · exact ⟨_, rfl, q⟩
  · refine ⟨_, rfl, ?_⟩
    rename_i i
    have e : (i != 0) = !decide (i = 0) := by by_cases h : i = 0 <;> simp [h]
    rw [e]; exact q
  · refine ⟨_, ⟨q.1, rfl⟩, ?_⟩
    rename_i z
    have e : ((z.length : Int) != 0) = !decide (z.length = 0) := by by_cases h : z.length = 0 <;> simp [h]
    rw [e]; exact q.2
  · obtain ⟨xs, r, q⟩ := q
    rcases r with r | r
    · exact ⟨_, .inl ⟨xs, r, rfl⟩, q⟩
    · exact ⟨_, .inr (.inl ⟨xs, r, rfl⟩), q⟩
  · exact q.elim
/-! ### f-strings -/
def fFmt (te : TE) : TE := fun σ H Q => te σ H fun x H1 => match x with
  | .str y => y.length ≤ sizeLine ∧ Q (.str y) H1
  | .int i => i.natAbs.log2 < 1920 ∧ Q (.str (toString i)) H1
  | _ => False
theorem fe_fmt {e : Expr} {te : TE} {pos : Pos} (he : PE X e te) : PE X (.FormattedValue e (-1) none pos) (fFmt te) := pe_wk (pe_fmt (pe_clos he)) fun σ H Q q => ⟨_, q, fun x H1 q => by
  split at q
  · exact .inl ⟨_, rfl, q⟩
  · exact .inr ⟨_, rfl, q⟩
  · exact q.elim⟩
inductive PF (X : Cx) : List Expr → List TE → Prop where
  | nil : PF X [] []
  | cons {e : Expr} {t : TE} {es : List Expr} {ts : List TE} (h : PE X e t) (r : PF X es ts) : PF X (e :: es) (t :: ts)
theorem PF_nil : PF X [] [] := .nil
theorem pf_cons {e : Expr} {t : TE} {es : List Expr} {ts : List TE} (h : PE X e t) (r : PF X es ts) : PF X (e :: es) (t :: ts) := .cons h r
def fJs : List TE → Str → L2.St → Hp → (Str → Hp → Prop) → Prop
  | [], acc, _, H, Q => Q acc H
  | t :: ts, acc, σ, H, Q => t σ H fun x H1 => match x with
    | .str y => (acc ++ y).length ≤ sizeLine ∧ fJs ts (acc ++ y) σ H1 Q
    | _ => False
theorem pf_pj {es : List Expr} {ts : List TE} (h : PF X es ts) : PJ X es (ts.map clos) := by
  induction h with
  | nil => exact .nil
  | cons h r ih => exact .cons (pe_clos h) ih
theorem fJs_to : ∀ {ts : List TE} {acc : Str} {σ : L2.St} {H : Hp} {Q : Str → Hp → Prop}, fJs ts acc σ H Q → tJs (ts.map clos) acc σ H Q
  | [], _, _, _, _, h => h
  | t :: ts, acc, σ, H, Q, h => ⟨_, h, fun x H1 q => by
    split at q
    · exact ⟨_, rfl, q.1, fJs_to q.2⟩
    · exact q.elim⟩
def fJoined (ts : List TE) : TE := fun σ H Q => fJs ts Str.empty σ H fun out H1 => Q (.str out) H1
theorem fe_joined {v1 v2 : Expr} {rest : List Expr} {ts : List TE} {pos : Pos} (h : PF X (v1 :: v2 :: rest) ts) : PE X (.JoinedStr (v1 :: v2 :: rest) pos) (fJoined ts) := by
  have h2 := pf_pj h
  exact pe_wk (pe_joined h2) fun σ H Q q => fJs_to q
/-- // by any divisor but 0 -/
def fDivZ : R2 := fun x y H Q => match x, y with
  | .int i, .int j => (j ≠ 0 ∧ j.natAbs.log2 < 9000) ∧ Q (.int (Int.fdiv i j)) H
  | _, _ => False
theorem op_fDivZ : OpR X (binaryOp .FloorDiv) fDivZ := by
  intro pins s σ H x y v u Q I rx ry h
  match x, y, rx, ry, h with
  | .int i, .int j, ⟨t, e⟩, ⟨t', e'⟩, ⟨hc, q⟩ =>
    subst e e'
    exact floordiv_int hc.1 ⟨.int _, H, I.tok _, ⟨_, rfl⟩, q⟩ (.inl (PyProof.noPylong_of_log2 hc.2))
end
theorem WE_wOf {E : XK} {σ : L2.St} : WE (wOf E) σ = E := rfl
/-! ### dicts of the module, text keys -/
def EntOk (K : PySem.W.Frag) (d : Addr) : Str × Option V → Prop
  | (z, none) => PySem.W.nsIn K d z = some none
  | (z, some v) => ∃ u, PySem.W.nsIn K d z = some (some u) ∧ RelV v u
theorem ent_none {K : PySem.W.Frag} {d : Addr} {z : Str} (h : PySem.W.nsIn K d z = some none) : EntOk K d (z, none) := h
theorem ent_str {K : PySem.W.Frag} {d : Addr} {z x : Str} {t : Tok} (h : PySem.W.nsIn K d z = some (some (.str x t))) : EntOk K d (z, some (.str x)) := ⟨_, h, _, rfl⟩
theorem ent_int {K : PySem.W.Frag} {d : Addr} {z : Str} {x : Int} {t : Tok} (h : PySem.W.nsIn K d z = some (some (.int x t))) : EntOk K d (z, some (.int x)) := ⟨_, h, _, rfl⟩
structure DAt (K : PySem.W.Frag) (w : World) (d : Addr) (ks : List (Str × Option V)) : Prop where
  ex : ∃ es n, KDict K w d es n
  en : ∀ p ∈ ks, EntOk K d p
def GDict (K : PySem.W.Frag) (w : World) (mg : Str → Option Value) (x : Str) (ks : List (Str × Option V)) : Prop := ∃ d, mg x = some (.ref d) ∧ DAt K w d ks
structure GDictF (K : PySem.W.Frag) (w : World) (x : Str) (ks : List (Str × Option V)) : Prop where
  ex : ∃ d, PySem.W.nsIn K mainGlobals x = some (some (.ref d)) ∧ DAt K w d ks
theorem GDictF.of {K : PySem.W.Frag} {w : World} {x : Str} {ks : List (Str × Option V)} {d : Addr} {es : Array DictEntry} {n : Nat} (h1 : PySem.W.nsIn K mainGlobals x = some (some (.ref d))) (h2 : K.lookup d = some ⟨.type "dict", none, .dict es n, #[]⟩)
    (h3 : PySem.W.KeysLit w.params es.toList) (h4 : (d == sysModules) = false) (h5 : ∀ p ∈ ks, EntOk K d p) : GDictF K w x ks := ⟨d, h1, ⟨es, n, h2, h3, h4⟩, h5⟩
theorem GDictF.get {K : PySem.W.Frag} {w : World} {mg : Str → Option Value} {x : Str} {ks : List (Str × Option V)} {h : Heap} (X : K.In h) (G : h.Ns mainGlobals mg) (F : GDictF K w x ks) : GDict K w mg x ks := by
  obtain ⟨d, h1, h2⟩ := F.ex
  exact ⟨d, PySem.W.mg_of X G h1, h2⟩
theorem ent_at {K : PySem.W.Frag} {w : World} {d : Addr} {z : Str} {o : Option V} : ∀ {ks : List (Str × Option V)}, (∀ p ∈ ks, EntOk K d p) → ks.lookup z = some o → EntOk K d (z, o)
  | [], _, h => by cases h
  | (y, p) :: ks, hk, h => by
    rw [List.lookup_cons] at h
    split at h
    · rename_i e
      cases h
      have e' := eq_of_beq e
      subst e'
      exact hk _ (List.mem_cons_self ..)
    · exact ent_at (w := w) (fun q hq => hk q (List.mem_cons_of_mem _ hq)) h
def fGd_ (K : PySem.W.Frag) (w : World) (ks : List (Str × Option V)) : TE := fun _ H Q => ∀ d, DAt K w d ks → Q (.ref d) H
section
variable {X : Cx}
theorem fe_gdict {x : Str} {pos : Pos} {ks : List (Str × Option V)} (hg : Gl X x) (h : GDict X.K X.w X.mg x ks) (hd : (x == ("__debug__" : Str)) = false := by decide) : PE X (.Name x pos) (fGd_ X.K X.w ks) := by
  obtain ⟨d, h, hs⟩ := h
  exact pe_wk (pe_glob hg h (v := .ref d) rfl hd) fun σ H Q q => q d hs
/-- z in D, D a dict of the module -/
def fInD (K : PySem.W.Frag) (w : World) (neg : Bool) : R2 := fun x y H Q => match x, y with
  | .str z, .ref d => ∃ ks o, DAt K w d ks ∧ ks.lookup z = some o ∧ Q (.bl (if neg = true then !o.isSome else o.isSome)) H
  | _, _ => False
theorem op_fInD : OpR X (compareOp .In) (fInD X.K X.w false) := by
  intro pins s σ H x y v u Q I rx ry h
  match x, y, rx, ry, h with
  | .str z, .ref d, rx, ry, ⟨ks, o, D, e, q⟩ =>
    obtain ⟨es, n, kd⟩ := D.ex
    have en := ent_at (w := X.w) D.en e
    cases o with
    | none => exact op_in_kd kd pins s σ H _ _ v u Q I rx ry ⟨z, none, rfl, rfl, en, q⟩
    | some v =>
      obtain ⟨u0, e0, _⟩ := en
      exact op_in_kd kd pins s σ H _ _ _ u Q I rx ry ⟨z, some u0, rfl, rfl, e0, q⟩
theorem op_fNotInD : OpR X (compareOp .NotIn) (fInD X.K X.w true) := by
  intro pins s σ H x y v u Q I rx ry h
  match x, y, rx, ry, h with
  | .str z, .ref d, rx, ry, ⟨ks, o, D, e, q⟩ =>
    obtain ⟨es, n, kd⟩ := D.ex
    have en := ent_at (w := X.w) D.en e
    cases o with
    | none => exact op_notIn_kd kd pins s σ H _ _ v u Q I rx ry ⟨z, none, rfl, rfl, en, q⟩
    | some v =>
      obtain ⟨u0, e0, _⟩ := en
      exact op_notIn_kd kd pins s σ H _ _ _ u Q I rx ry ⟨z, some u0, rfl, rfl, e0, q⟩
/-- D[z], D a dict of the module -/
def fIxD (K : PySem.W.Frag) (w : World) : R2 := fun x y H Q => match x, y with
  | .ref d, .str z => ∃ ks v, DAt K w d ks ∧ ks.lookup z = some (some v) ∧ Q v H
  | _, _ => False
theorem ix_fxD : IxR X (fIxD X.K X.w) := by
  intro e1 e2 pins s σ H x y v u Q I rx ry h hs
  match x, y, rx, ry, h with
  | .ref d, .str z, rx, ry, ⟨ks, r, D, e, q⟩ =>
    obtain ⟨es, n, kd⟩ := D.ex
    obtain ⟨u0, e0, r0⟩ := ent_at (w := X.w) D.en e
    exact ix_kdict e1 e2 pins s σ H (.ref d) (.str z) v u Q I rx ry ⟨d, z, r, rfl, rfl, ⟨es, n, u0, kd.at_, kd.lit, e0, r0⟩, q⟩ hs
end
/-! ### scalars as data -/
def dV : V → PyData
  | .non => .none
  | .bl b => .bool b
  | .int i => .int i
  | .str z => .str z
  | _ => .none
def scV : V → Bool
  | .non => true
  | .bl _ => true
  | .int _ => true
  | .str _ => true
  | _ => false
theorem dpAll_sc {K : PySem.W.Frag} {H : Hp} : ∀ {xs : List V}, xs.all scV = true → DpAll K H xs (xs.map dV)
  | [], _ => .nil
  | x :: xs, h => by
    rw [List.all_cons, Bool.and_eq_true] at h
    refine .cons ?_ (dpAll_sc h.2)
    obtain ⟨h1, _⟩ := h
    cases x <;> first
      | exact .non
      | exact .bl _
      | exact .int _
      | exact .str _
      | (exact absurd h1 (by decide))
      | (cases h1)
theorem all_okd {xs : List V} (h : xs.all scV = true) : PyData.plainAll (xs.map dV) = true ∧ PyData.depthAll (xs.map dV) = 0 := by
  induction xs with
  | nil => exact ⟨rfl, rfl⟩
  | cons x xs ih =>
    rw [List.all_cons, Bool.and_eq_true] at h
    obtain ⟨i1, i2⟩ := ih h.2
    obtain ⟨h1, _⟩ := h
    have : (dV x).plain = true ∧ (dV x).depth = 0 := by cases x <;> first | exact ⟨rfl, rfl⟩ | cases h1
    rw [List.map_cons, PyData.plainAll, PyData.depthAll, this.1, this.2, i1, i2]
    exact ⟨rfl, rfl⟩
theorem tup_okd {xs : List V} (h : xs.all scV = true) : okd (.tuple (xs.map dV)) = true := by
  obtain ⟨h1, h2⟩ := all_okd h
  unfold okd
  rw [Bool.and_eq_true]
  exact ⟨by rw [PyData.plain]; exact h1, decide_eq_true (by rw [PyData.depth, h2]; decide)⟩
theorem lst_okd {xs : List V} (h : xs.all scV = true) : okd (.list (xs.map dV)) = true := by
  obtain ⟨h1, h2⟩ := all_okd h
  unfold okd
  rw [Bool.and_eq_true]
  exact ⟨by rw [PyData.plain]; exact h1, decide_eq_true (by rw [PyData.depth, h2]; decide)⟩
theorem tup_eqv {xs : List V} (h : xs.all scV = true) : PyData.eqv (.tuple (xs.map dV)) (.tuple (xs.map dV)) = true := SeqAt.eqv_refl_plain _ (by rw [PyData.plain]; exact (all_okd h).1)
theorem lst_eqv {xs : List V} (h : xs.all scV = true) : PyData.eqv (.list (xs.map dV)) (.list (xs.map dV)) = true := SeqAt.eqv_refl_plain _ (by rw [PyData.plain]; exact (all_okd h).1)
/-- two tuples of the same scalars are equal -/
theorem tup_same {K : PySem.W.Frag} {H : Hp} {p q : Addr} {xs : List V} (hp : SqT K H p xs) (hq : SqT K H q xs) (h : xs.all scV = true) {R : Bool → Prop} (k : R true) :
    ∃ d, Dp K H (.ref p) d ∧ ∃ e, Dp K H (.ref q) e ∧ okd d = true ∧ okd e = true ∧ R (PyData.eqv d e) :=
  ⟨_, .tup hp (dpAll_sc h), _, .tup hq (dpAll_sc h), tup_okd h, tup_okd h, by rw [tup_eqv h]; exact k⟩
theorem lst_same {K : PySem.W.Frag} {H : Hp} {p q : Addr} {xs : List V} (hp : SqL K H p xs) (hq : SqL K H q xs) (h : xs.all scV = true) {R : Bool → Prop} (k : R true) :
    ∃ d, Dp K H (.ref p) d ∧ ∃ e, Dp K H (.ref q) e ∧ okd d = true ∧ okd e = true ∧ R (PyData.eqv d e) :=
  ⟨_, .lst hp (dpAll_sc h), _, .lst hq (dpAll_sc h), lst_okd h, lst_okd h, by rw [lst_eqv h]; exact k⟩
end Fx

set_option Elab.async false
set_option linter.all false
set_option maxRecDepth 100000
/-! Tb: dicts whose keys are tuples of scalars (None and truth values among them), over Ex. -/
namespace Fx
open PySem PySem.Spec PyProof.Rows L2
def leafK : V → NestedKey
  | .bl b => .num (if b = true then 1 else 0)
  | .int i => .num i
  | .str z => .text z
  | _ => .none
/-- a tuple of scalars as a key -/
def tupK (xs : List V) : NestedKey := .tup (xs.map leafK)
abbrev NEnt := NestedKey × Addr × V
abbrev PU : List NEnt → List (NestedKey × Addr × Value) → Prop := Paired fun e u => e.1 = u.1 ∧ e.2.1 = u.2.1 ∧ RelV e.2.2 u.2.2
def atN (es : List NEnt) (k : NestedKey) : Option V := (es.find? fun e => decide (e.1 = k)).map (·.2.2)
def putN (es : List NEnt) (k : NestedKey) (a : Addr) (v : V) : List NEnt := if (atN es k).isSome = true then es.map (fun e => if e.1 = k then (e.1, e.2.1, v) else e) else es ++ [(k, a, v)]
def dropN (es : List NEnt) (k : NestedKey) : List NEnt := es.filter fun e => decide (e.1 ≠ k)
theorem PU.at {es : List NEnt} {us : List (NestedKey × Addr × Value)} (h : PU es us) (k : NestedKey) : RelO (atN es k) ((atKey us k).map (·.2)) := by
  induction h with
  | nil => exact True.intro
  | @cons p q ps qs h t ih =>
    obtain ⟨h1, h2, h3⟩ := h
    by_cases e : p.1 = k
    · have e' : q.1 = k := h1.symm.trans e
      have a : atN (p :: ps) k = some p.2.2 := by simp [atN, List.find?_cons, e]
      have b : atKey (q :: qs) k = some q.2 := by simp [atKey, List.find?_cons, e']
      rw [a, b]; exact h3
    · have e' : ¬ q.1 = k := fun z => e (h1.trans z)
      have a : atN (p :: ps) k = atN ps k := by simp [atN, List.find?_cons, e]
      have b : atKey (q :: qs) k = atKey qs k := by simp [atKey, List.find?_cons, e']
      rw [a, b]; exact ih
theorem PU.put {es : List NEnt} {us : List (NestedKey × Addr × Value)} (h : PU es us) (k : NestedKey) (a : Addr) {v : V} {u : Value} (rv : RelV v u) : PU (putN es k a v) (storedH us k a u) := by
  have e : (atN es k).isSome = (atKey us k).isSome := by rw [(h.at k).isSome_eq, Option.isSome_map]
  unfold putN storedH
  rw [e]
  by_cases q : (atKey us k).isSome = true
  · rw [if_pos q, if_pos q]
    clear q e
    induction h with
    | nil => exact .nil
    | @cons p q ps qs h t ih =>
      rw [List.map_cons, List.map_cons]
      refine .cons ?_ ih
      obtain ⟨h1, h2, h3⟩ := h
      unfold putAt
      by_cases e : p.1 = k
      · rw [if_pos e, if_pos (h1.symm.trans e)]; exact ⟨h1, h2, rv⟩
      · rw [if_neg e, if_neg (fun z => e (h1.trans z))]; exact ⟨h1, h2, h3⟩
  · rw [if_neg q, if_neg q]
    exact Paired.snoc h ⟨rfl, rfl, rv⟩
theorem PU.drop {es : List NEnt} {us : List (NestedKey × Addr × Value)} (h : PU es us) (k : NestedKey) : PU (dropN es k) (withoutH us k) := by
  unfold dropN withoutH
  induction h with
  | nil => exact .nil
  | @cons p q ps qs h t ih =>
    obtain ⟨h1, h2, h3⟩ := h
    rw [List.filter_cons, List.filter_cons]
    by_cases e : p.1 = k
    · have a : ¬ decide (p.1 ≠ k) = true := by simp [e]
      have b : ¬ decide (q.1 ≠ k) = true := by simp [h1.symm.trans e]
      rw [if_neg a, if_neg b]; exact ih
    · have e' : ¬ q.1 = k := fun z => e (h1.trans z)
      have a : decide (p.1 ≠ k) = true := by simp [e]
      have b : decide (q.1 ≠ k) = true := by simp [e']
      rw [if_pos a, if_pos b]; exact .cons ⟨h1, h2, h3⟩ ih
theorem putN_len (es : List NEnt) (k : NestedKey) (a : Addr) (v : V) : (putN es k a v).length ≤ es.length + 1 := by
  unfold putN
  split
  · rw [List.length_map]; omega
  · rw [List.length_append, List.length_cons, List.length_nil]; omega
/-- such a dict -/
def nkO (w : World) (d : Addr) (es : List NEnt) : HO := .ext fun h => es.length ≤ sizeLine ∧ (d == sysModules) = false ∧ ∃ us, PU es us ∧ ∃ o en ep, h.get? d = some o ∧ o.ExactDict ∧ o.data = .dict en ep ∧
  en.toList = us.map (fun u => (⟨u.1.hash w, .ref u.2.1, u.2.2⟩ : DictEntry)) ∧ (us.map (·.1)).Nodup
theorem nkO_ne_tup {w : World} {d : Addr} {es : List NEnt} {xs : List V} : nkO w d es ≠ .tup xs := fun z => by
  have z' : HO.ext _ = HO.tup xs := z
  cases z'
/-- the key's own tuple -/
def KeyT (H : Hp) (k : NestedKey) (a : Addr) : Prop := ∃ xs, H a = some (.tup xs) ∧ xs.all scV = true ∧ k = tupK xs
structure DN (w : World) (H : Hp) (d : Addr) (es : List NEnt) : Prop where
  rd : Rd H d (nkO w d es)
  ks : ∀ e ∈ es, KeyT H e.1 e.2.1
theorem KeyT.mono {H H' : Hp} {k : NestedKey} {a : Addr} (h : KeyT H k a) (s : ∀ b xs, H b = some (.tup xs) → H' b = some (.tup xs)) : KeyT H' k a := h.imp fun _ ⟨e, r⟩ => ⟨s _ _ e, r⟩
section
variable {P : Program} {w : World} {H : Hp} {h : Heap} {a d : Addr} {es : List NEnt}
theorem nested_leaf {x : V} {u : Value} (r : RelV x u) (hs : scV x = true) : NestedIs h (leafK x) u := by
  cases x <;> first
    | (cases r; exact .none)
    | (cases r; exact .bool rfl)
    | (obtain ⟨t, rfl⟩ := r; exact .int _ t)
    | (obtain ⟨t, rfl⟩ := r; exact .text _ t)
    | cases hs
theorem nested_all : ∀ {xs : List V} {us : List Value}, Vals xs us → xs.all scV = true → NestedAll h (xs.map leafK) us
  | _, _, .nil, _ => .nil
  | _, _, .cons r t, hs => by
    rw [List.all_cons, Bool.and_eq_true] at hs
    exact .cons (nested_leaf r hs.1) (nested_all t hs.2)
theorem leaf_depth (x : V) : (leafK x).depth = 0 := by cases x <;> rfl
theorem leaf_depths : ∀ xs : List V, NestedKey.depthAll (xs.map leafK) = 0
  | [] => rfl
  | x :: xs => by rw [List.map_cons, NestedKey.depthAll, leaf_depth, leaf_depths xs]; rfl
theorem KeyT.is {k : NestedKey} (ok : HOk P w H h) (e : KeyT H k a) : (nestedKind P w).is h k a := by
  obtain ⟨xs, e, hs, rfl⟩ := e
  obtain ⟨_, its, r, o, h1, h2, n, h3⟩ := (show ObjOk P w H h a (.tup xs) from ok a _ e)
  refine ⟨.tup h1 h2 h3 (by simpa using nested_all r hs), ?_⟩
  show NestedKey.depthAll (xs.map leafK) + 1 ≤ 8
  rw [leaf_depths]; decide
theorem DN.of (D : DN w H d es) (ok : HOk P w H h) : es.length ≤ sizeLine ∧ (d == sysModules) = false ∧ ∃ us, PU es us ∧ h.DictOfH (nestedKind P w) d us := by
  have x : ObjOk P w H h d (nkO w d es) := D.rd.ok ok
  obtain ⟨⟨z, hd, us, r, o, en, ep, h1, h2, h3, h4, h5⟩, _⟩ := x
  refine ⟨z, hd, us, r, o, en, ep, h1, h2, h3, h4, ?_, h5⟩
  intro x hx
  have all : ∀ {l : List NEnt} {m : List (NestedKey × Addr × Value)}, PU l m → (∀ e ∈ l, KeyT H e.1 e.2.1) → ∀ x ∈ m, (nestedKind P w).is h x.1 x.2.1 := by
    intro l m q
    induction q with
    | nil => intro _ x hx; exact nomatch hx
    | @cons p q ps qs hq t ih =>
      intro hk x hx
      rcases List.mem_cons.mp hx with e | hx
      · subst e
        have := (hk p (List.mem_cons_self ..)).is ok
        rw [hq.1, hq.2.1] at this
        exact this
      · exact ih (fun e he => hk e (List.mem_cons_of_mem _ he)) x hx
  exact all r D.ks x hx
theorem nkO_ok {us : List (NestedKey × Addr × Value)} (z : es.length ≤ sizeLine) (hd : (d == sysModules) = false) (r : PU es us) (dd : h.DictOfH (nestedKind P w) d us) : ObjOk P w H h d (nkO w d es) := by
  obtain ⟨o, en, ep, h1, h2, h3, h4, _, h5⟩ := dd
  exact ⟨⟨z, hd, us, r, o, en, ep, h1, h2, h3, h4, h5⟩, ⟨o, h1⟩, fun g1 g2 ⟨_, _, us', r', o', en', ep', k1, k2, k3, k4, k5⟩ k => ⟨z, hd, us', r', o', en', ep', k _ k1, k2, k3, k4, k5⟩⟩
end
section
variable {X : Cx} {pins : List (Addr × Obj)} {σ : L2.St} {H : Hp} {s : Shared} {d q : Addr} {es : List NEnt} {xs : List V} {A : Around} {E : Value → Shared → Prop}
theorem room_n (hu : A.units + 64 < cLine) : (nestedKind X.prog X.w).room A.in1 := by
  show A.units + 1 + 8 < cLine
  omega
theorem n_getItem {v : V} {Q : Value → Shared → Prop} (hu : A.units + 64 < cLine) (I : Inv X pins σ H s) (D : DN X.w H d es) (hq : KeyT H (tupK xs) q) (e : atN es (tupK xs) = some v) (h : ∀ w' s', Inv X pins σ H s' → RelV v w' → Q w' s') :
    wpAny (model X.prog X.w) A (getItem (.ref d) (.ref q)) Q E s := by
  obtain ⟨z, hd, us, r, dd⟩ := D.of I.hok
  obtain ⟨w', hw, rw'⟩ := RelO.some_of (v := v) (o := (atKey us (tupK xs)).map (·.2)) (by rw [← e]; exact r.at _)
  obtain ⟨p, hp, hp2⟩ := Option.map_eq_some_iff.mp hw
  refine wpAny_getItem_heap (room_n hu) (hq.is I.hok) dd hp ?_
  rw [hp2]
  exact h w' _ (I.tok _) rw'
theorem n_in {Q : Value → Shared → Prop} (hu : A.units + 64 < cLine) (I : Inv X pins σ H s) (D : DN X.w H d es) (hq : KeyT H (tupK xs) q) (h : ∀ s', Inv X pins σ H s' → Q (.bool (atN es (tupK xs)).isSome) s') :
    wpAny (model X.prog X.w) A (compareOp .In (.ref q) (.ref d)) Q E s := by
  obtain ⟨z, hd, us, r, dd⟩ := D.of I.hok
  refine wpAny_in_heap (room_n hu) (hq.is I.hok) hd dd ?_
  have qq := (r.at (tupK xs)).isSome_eq
  rw [Option.isSome_map] at qq
  rw [← qq]
  exact h _ (I.tok _)
theorem n_setItem {v : V} {u : Value} {Q : Unit → Shared → Prop} (hu : A.units + 64 < cLine) (I : Inv X pins σ H s) (D : DN X.w H d es) (e0 : H d = some (nkO X.w d es)) (hq : KeyT H (tupK xs) q) (hl : es.length < sizeLine) (rv : RelV v u)
    (h : ∀ s', Inv X pins σ (upd H d (nkO X.w d (putN es (tupK xs) q v))) s' → Q () s') : wpAny (model X.prog X.w) A (setItem (.ref d) (.ref q) u) Q E s := by
  obtain ⟨z, hd, us, r, dd⟩ := D.of I.hok
  have hz : us.length ≤ sizeLine := by rw [← Paired.length r]; exact z
  refine wpAny_setItem_heap (hsz := hz) (room_n hu) (hq.is I.hok) dd fun h' dd' hs => h _ ?_
  have he : ∃ q, h'.get? d = some q := let ⟨q, _, _, hq, _⟩ := dd'; ⟨q, hq⟩
  exact d_write I (by rw [e0]; exact True.intro) hs he (nkO_ok (Nat.le_trans (putN_len ..) hl) hd (r.put _ _ rv) dd')
theorem n_delItem {Q : Unit → Shared → Prop} (hu : A.units + 64 < cLine) (I : Inv X pins σ H s) (D : DN X.w H d es) (e0 : H d = some (nkO X.w d es)) (hq : KeyT H (tupK xs) q) (e : (atN es (tupK xs)).isSome = true)
    (h : ∀ s', Inv X pins σ (upd H d (nkO X.w d (dropN es (tupK xs)))) s' → Q () s') : wpAny (model X.prog X.w) A (delItem (.ref d) (.ref q)) Q E s := by
  obtain ⟨z, hd, us, r, dd⟩ := D.of I.hok
  have hz : us.length ≤ sizeLine := by rw [← Paired.length r]; exact z
  have qq := (r.at (tupK xs)).isSome_eq
  rw [Option.isSome_map, e] at qq
  obtain ⟨p, hp⟩ := Option.isSome_iff_exists.mp qq.symm
  refine wpAny_delItem_heap (hsz := hz) (room_n hu) (hq.is I.hok) hd dd hp fun h' dd' hs => h _ ?_
  have he : ∃ q, h'.get? d = some q := let ⟨q, _, _, hq, _⟩ := dd'; ⟨q, hq⟩
  exact d_write I (by rw [e0]; exact True.intro) hs he (nkO_ok (Nat.le_trans (List.length_filter_le _ _) z) hd (r.drop _) dd')
end
/-! ### readings and rules -/
def isKey (H : Hp) (q : Addr) (xs : List V) : Prop := H q = some (.tup xs) ∧ xs.all scV = true
theorem isKey.t {H : Hp} {q : Addr} {xs : List V} (h : isKey H q xs) : KeyT H (tupK xs) q := ⟨xs, h.1, h.2, rfl⟩
def fGetN (w : World) (td ty : TE) : TE := fun σ H Q => td σ H fun x H1 => ty σ H1 fun y H2 => match x, y with
  | .ref d, .ref q => ∃ es xs v, DN w H2 d es ∧ isKey H2 q xs ∧ atN es (tupK xs) = some v ∧ Q v H2
  | _, _ => False
def fInN (w : World) (ty td : TE) : TE := fun σ H Q => ty σ H fun y H1 => td σ H1 fun x H2 => match x, y with
  | .ref d, .ref q => ∃ es xs, DN w H2 d es ∧ isKey H2 q xs ∧ Q (.bl (atN es (tupK xs)).isSome) H2
  | _, _ => False
def sPutN (w : World) (td ty tv : TE) : TS := fun D σ H => tv σ H fun v H1 => td σ H1 fun x H2 => ty σ H2 fun y H3 => match x, y with
  | .ref d, .ref q => ∃ es xs, DN w H3 d es ∧ H3 d = some (nkO w d es) ∧ isKey H3 q xs ∧ es.length < sizeLine ∧ D.nx σ (upd H3 d (nkO w d (putN es (tupK xs) q v)))
  | _, _ => False
def sDelN (w : World) (td ty : TE) : TS := fun D σ H => td σ H fun x H1 => ty σ H1 fun y H2 => match x, y with
  | .ref d, .ref q => ∃ es xs, DN w H2 d es ∧ H2 d = some (nkO w d es) ∧ isKey H2 q xs ∧ (atN es (tupK xs)).isSome = true ∧ D.nx σ (upd H2 d (nkO w d (dropN es (tupK xs))))
  | _, _ => False
def fNewN (w : World) : TE := fun _ H Q => ∀ p H2, H p = none → Same H H2 → H2 p = some (nkO w p []) → Q (.ref p) H2
def fLenN (w : World) : List V → Hp → VK → Prop := fun xs H Q => match xs with
  | [.ref d] => ∃ es, DN w H d es ∧ Q (.int es.length) H
  | _ => False
section
variable {X : Cx} {o i e value : Expr} {pos pos' tpos : Pos} {td ty tv : TE}
theorem pe_getN {w : World} (hw : X.w = w) (hu : X.A.units + 64 < cLine) (ho : PE X o td) (hi : PE X i ty) (hs : NoSl i) : PE X (.Subscript o i pos) (fGetN w td ty) := by
  subst hw
  refine ⟨fun pins s σ H Q I h => ?_⟩
  refine subD_of PySem.F.slot_dict_getitem.lookup hs (thn (ho.run pins s σ H _ I h) fun u s1 ⟨x, H1, I1, rx, q1⟩ => thn (hi.run pins s1 σ H1 _ I1 q1) fun iv s2 ⟨y, H2, I2, ry, q2⟩ => ?_)
  match x, y, rx, ry, q2 with
  | .ref d, .ref q, rx, ry, ⟨es, xs, v, D, kq, ev, q2⟩ =>
    obtain rfl : u = Value.ref d := rx
    obtain rfl : iv = Value.ref q := ry
    obtain ⟨_, _, us, _, dd⟩ := D.of I2.hok
    exact ⟨dd.typeIs, n_getItem hu I2 D kq.t ev fun w' s3 I3 rw' => ⟨v, H2, I3, rw', q2⟩⟩
theorem pc_inN {w : World} (hw : X.w = w) (hu : X.A.units + 64 < cLine) (hi : PE X i ty) (ho : PE X o td) : PC X .In i o (fInN w ty td) := by
  subst hw
  refine ⟨fun pins s σ H Q I h => ?_⟩
  refine thn (hi.run pins s σ H _ I h) fun iv s1 ⟨y, H1, I1, ry, q1⟩ => thn (ho.run pins s1 σ H1 _ I1 q1) fun u s2 ⟨x, H2, I2, rx, q2⟩ => ?_
  match x, y, rx, ry, q2 with
  | .ref d, .ref q, rx, ry, ⟨es, xs, D, kq, q2⟩ =>
    obtain rfl : u = Value.ref d := rx
    obtain rfl : iv = Value.ref q := ry
    exact n_in hu I2 D kq.t fun s3 I3 => ⟨.bl _, H2, I3, rfl, q2⟩
theorem ps_putN {w : World} (hw : X.w = w) (hu : X.A.units + 64 < cLine) (ho : PE X o td) (hi : PE X i ty) (hv : PE X value tv) (hs : swapsWith value (some (.Subscript o i pos')) pos.line X.env = pure false) :
    PS X (.Assign [.Subscript o i pos'] value pos) (sPutN w td ty tv) := by
  subst hw
  refine ⟨fun pins s σ H D I h => ?_⟩
  refine wpAny_Assign_Subscript (thn (hv.run pins s σ H _ I h) fun r s1 ⟨v, H1, I1, rv, q1⟩ => thn (ho.run pins s1 σ H1 _ I1 q1) fun u s2 ⟨x, H2, I2, rx, q2⟩ => thn (hi.run pins s2 σ H2 _ I2 q2) fun iv s3 ⟨y, H3, I3, ry, q3⟩ => ?_) hs
  match x, y, rx, ry, q3 with
  | .ref d, .ref q, rx, ry, ⟨es, xs, Dn, e0, kq, hl, q3⟩ =>
    obtain rfl : u = Value.ref d := rx
    obtain rfl : iv = Value.ref q := ry
    exact n_setItem hu I3 Dn e0 kq.t hl rv fun s4 I4 => ⟨σ, _, I4, q3⟩
theorem ps_delN {w : World} (hw : X.w = w) (hu : X.A.units + 64 < cLine) (ho : PE X o td) (hi : PE X i ty) : PS X (.Delete [.Subscript o i tpos] pos) (sDelN w td ty) := by
  subst hw
  refine ⟨fun pins s σ H D I h => ?_⟩
  refine wpAny_Delete (wpAny_deleteEach_cons (wpAny_delete_Subscript (thn (ho.run pins s σ H _ I h) fun u s1 ⟨x, H1, I1, rx, q1⟩ => thn (hi.run pins s1 σ H1 _ I1 q1) fun iv s2 ⟨y, H2, I2, ry, q2⟩ => ?_)))
  match x, y, rx, ry, q2 with
  | .ref d, .ref q, rx, ry, ⟨es, xs, Dn, e0, kq, l, q2⟩ =>
    obtain rfl : u = Value.ref d := rx
    obtain rfl : iv = Value.ref q := ry
    exact n_delItem hu I2 Dn e0 kq.t l fun s3 I3 => wpAny_deleteEach_nil ⟨σ, _, I3, q2⟩
theorem pe_newN {w : World} (hw : X.w = w) : PE X (.Dict [] [] pos) (fNewN w) := by
  subst hw
  refine ⟨fun pins s σ H Q I h => ?_⟩
  refine wpAny_Dict_empty ?_
  have hf : H s.heap.objs.size = none := I.hok.fresh (Nat.le_refl _)
  refine ⟨.ref s.heap.objs.size, upd H s.heap.objs.size (nkO X.w s.heap.objs.size []), I.laid (t' := s.toks) (fun b u e => Heap.get?_push_of_some _ e) (Nat.le_refl _) ?_, rfl, h _ _ hf (same_new hf) upd_same⟩
  exact nkO_ok (us := []) (Nat.zero_le _) (beq_eq_false_iff_ne.mpr (Ne.symm (Nat.ne_of_lt I.big))) .nil (Heap.DictOfH.new _)
theorem call_fLenN {w : World} (hw : X.w = w) : CallR X (.builtin "len") (fLenN w) := by
  subst hw
  intro pins s σ H xs us Q I r h
  match xs, r, h with
  | [.ref d], r, ⟨es, D, q⟩ =>
    obtain ⟨u, rfl, rx⟩ := vals1 r
    obtain rfl : u = .ref d := rx
    obtain ⟨z, hd, ys, rel, dd⟩ := D.of I.hok
    have hl : es.length = ys.length := Paired.length rel
    refine call_len_dictH hd dd (by rw [← hl]; rw [sizeLine_eq] at z; omega) ?_
    rw [← hl]
    exact ⟨.int ((es.length : Nat) : Int), H, I.tok _, ⟨_, rfl⟩, q⟩
end
/-! ### its keys, walked (the dict locked) -/
def Itn (w : World) (d : Addr) (o : Obj) (es : List NEnt) : It :=
  ⟨fun i H => H d = some (.frz o (nkO w d es)) ∧ i < es.length, fun i H x H' => H' = H ∧ ∃ e, es[i]? = some e ∧ x = .ref e.2.1, fun i H => H d = some (.frz o (nkO w d es)) ∧ es.length ≤ i⟩
theorem Inv.frzN {X : Cx} {pins : List (Addr × Obj)} {σ : L2.St} {H : Hp} {s : Shared} {d : Addr} {o : Obj} {es : List NEnt} (I : Inv X pins σ H s) (h : H d = some (.frz o (nkO X.w d es))) :
    (d == sysModules) = false ∧ s.heap.get? d = some o ∧ o.ExactDict ∧ ∃ (en : Array DictEntry) (ep : Nat), o.data = .dict en ep ∧ en.size = es.length ∧
      ∀ (i : Nat) (e : NEnt), es[i]? = some e → ∃ (x : DictEntry), en[i]? = some x ∧ x.key = .ref e.2.1 := by
  obtain ⟨hd, ⟨z, hs, us, r, o', en, ep, ho, hx, hdt, he, _⟩, _⟩ := I.hok d _ h
  rw [hd] at ho
  cases ho
  refine ⟨hs, hd, hx, en, ep, hdt, ?_, fun i e hi => ?_⟩
  · have l1 : en.toList.length = us.length := by rw [he, List.length_map]
    have l2 : es.length = us.length := Paired.length r
    rw [Array.length_toList] at l1
    omega
  · obtain ⟨b, hb, e1, e2, _⟩ := paired_get r hi
    refine ⟨⟨b.1.hash X.w, .ref b.2.1, b.2.2⟩, ?_, by rw [e2]⟩
    rw [← Array.getElem?_toList, he, List.getElem?_map, hb]
    rfl
theorem turn_keysN {P : Program} {w : World} {K : PySem.W.Frag} {tg : Expr} {d : Addr} {o : Obj} {en : Array DictEntry} {ep : Nat} {es : List NEnt} (it : Addr) (hod : o.data = .dict en ep) : Turn P w K tg (Itn w d o es) [it] it (fun i h => h.IsKeyIter it d i es.length ep) where
  mem := by simp
  obj := fun i h st b hb => by
    have e : b = it := by simpa using hb
    subst e
    obtain ⟨oi, e, c, dd⟩ := st
    exact ⟨oi, e, fun v z => by rw [dd] at z; cases z⟩
  keep := fun i h h' st k => st.at fun oi e => k it (by simp) oi e
  item := by
    intro X hP hw hK hc i pins s σ H E I hf st hg
    subst hP hw hK
    obtain ⟨hd, hi⟩ := hg
    obtain ⟨f0, f1, f2, f3, f4, f5⟩ := hf it (by simp)
    obtain ⟨hs, hgd, hx, es', ep', hdt, hsz, ent⟩ := Inv.frzN I hd
    obtain ⟨rfl, rfl⟩ := dict_ep hod hdt
    obtain ⟨e, he⟩ : ∃ p, es[i]? = some p := ⟨es[i], List.getElem?_eq_getElem hi⟩
    obtain ⟨x, hen, hkey⟩ := ent i e he
    refine next_key_item st hgd hdt hsz hen fun h' st' sb => ?_
    have I1 : Inv X pins σ H { s with heap := h' } := I.turned (t' := s.toks) (fun b ob hb e => (sb.2 b hb).trans e) f0 f1 f3 f4 f5
    obtain ⟨oi, e', c, dd⟩ := id st'
    exact ⟨x.key, rfl, go_of (s := { s with heap := h' }) e' c dd (by decide) ⟨.ref e.2.1, H, I1, hkey, ⟨rfl, e, he, rfl⟩, st', fun b hb => (hf b hb).1⟩⟩
  done := by
    intro X hP hw hK hc i pins s σ H E I hf st hg
    subst hP hw hK
    obtain ⟨hd, hi⟩ := hg
    obtain ⟨f0, f1, f2, f3, f4, f5⟩ := hf it (by simp)
    obtain ⟨hs, hgd, hx, es', ep', hdt, hsz, ent⟩ := Inv.frzN I hd
    obtain ⟨rfl, rfl⟩ := dict_ep hod hdt
    exact next_key_end (I.ok.hd hc) st hgd hdt hsz hi fun h' eb => ⟨rfl, I.turned (t' := s.toks) (fun b ob hb e => eb b ob hb e) f0 f1 f3 f4 f5⟩
  self := fun A i s Q E st h => by
    refine wpAny_pyIter_slot st.typeIs F.slot_dict_keyiterator_iter (wpAny_call_entry F.slot_dict_keyiterator_iter st.typeIs F.entry_dict_keyiterator_iter ?_ (F.args_dict_keyiterator_iter_1 _))
    show wpAny _ _ (ret (.ref it)) _ _ s
    exact wpAny_pure ⟨_, rfl, "dict_keyiterator", _, st.typeIs, F.slot_dict_keyiterator_next.lookup, h⟩
def iKeysN (w : World) (td : TE) : TI := fun σ H R => td σ H fun x H1 => match x with
  | .ref d => ∃ o es, H1 d = some (.frz o (nkO w d es)) ∧ R (Itn w d o es) H1
  | _ => False
theorem walk_keysN {w : World} {d : Addr} {o : Obj} {es : List NEnt} : Walk (Itn w d o es) es.length (fun H => H d = some (.frz o (nkO w d es))) (fun i H x H' => H' = H ∧ ∃ e, es[i]? = some e ∧ x = .ref e.2.1) :=
  ⟨fun _ _ hi q => ⟨q, hi⟩, fun _ q => ⟨q, Nat.le_refl _⟩, fun _ _ _ _ _ _ y => y⟩
section
variable {X : Cx} {tg e : Expr} {td : TE}
theorem pi_keysN {w : World} (hw : X.w = w) (he : PE X e td) : PI X tg e (iKeysN w td) := by
  subst hw
  refine ⟨fun pins s σ H R I h => ?_⟩
  refine thn (he.run pins s σ H _ I h) fun u s1 ⟨x, H1, I1, rx, q⟩ => ?_
  match x, rx, q with
  | .ref d, rx, ⟨o, es, hd, q⟩ =>
    obtain rfl : u = Value.ref d := rx
    obtain ⟨hs, hgd, hx, en, ep, hdt, hsz, ent⟩ := Inv.frzN I1 hd
    refine iter_keys hs hgd hx hdt (pi_one (tk := s1.toks) I1 _ (turn_keysN _ hdt) ⟨_, Heap.get?_push_size _ rfl, rfl, ?_⟩ q)
    rw [hsz] <;> rfl
end
theorem lcx_keysN {w : World} {d0 : Addr} {o : Obj} {es : List NEnt} {g : TG} {tt : TT} {te : TE} {vs : List Nat} {σ : L2.St} {H1 : Hp} {D : Addr} {Q : VK} (Pv : Nat → Hp → Prop) (h0 : Pv 0 (upd H1 D (.lst []))) (hl : ∀ i H, i ≤ es.length → Pv i H → H d0 = some (.frz o (nkO w d0 es)))
    (hs : ∀ i x H, es[i]? = some x → Pv i H → g (.ref x.2.1) (wipe σ vs) H fun σ2 H2 => wipe σ2 vs = wipe σ vs ∧ tt σ2 H2 fun b H3 =>
      if b = true then te σ2 H3 fun y H4 => ∃ acc, H4 D = some (.lst acc) ∧ acc.length < sizeLine ∧ Pv (i + 1) (upd H4 D (.lst (acc ++ [y]))) else Pv (i + 1) H3) (hd : ∀ H, Pv es.length H → Q (.ref D) H) : Lc (Itn w d0 o es) g tt te vs σ H1 D Q :=
  lc_it walk_keysN Pv h0 hl (fun i x H H' hi p y => by
    obtain ⟨rfl, e, he, rfl⟩ := y
    exact hs i e _ he p) hd
/-! ### properties -/
structure HasP (P : Program) (w : World) (K : PySem.W.Frag) (mg : Str → Option Value) (base : Heap) (CX : CXT) (C : Addr) (x : Str) (k : Nat) (ps : List Str) (sp : Sp) : Prop where
  ex : ∃ (p g : Addr) (fd : FuncData), PropOf K C x p g ∧ FnOk P w K mg base CX k g fd ps sp ∧ Binds K fd ps []
/-- a property's getter as it stands -/
structure AtP (K : PySem.W.Frag) (C : Addr) (x qual : Str) (st : Stmt) (ps : List Str) : Prop where
  ex : ∃ (p g : Addr) (fd : FuncData), Fun K x qual st g fd ∧ Binds K fd ps [] ∧ PropOf K C x p g
structure PFact (K : PySem.W.Frag) (C : Addr) (x qual : Str) (st : Stmt) : Prop where
  ex : ∃ (p f : Addr) (oc : Value) (od an : Option Addr) (sl : Array (Option Value)) (kV dc pm cd ct : Value),
    PropOf K C x p f ∧ K.lookup f = some ⟨oc, od, .func (PySem.W.fnOf x qual (defArgs st) (defBody st) (defScope st) .none kV dc pm an cd ct), sl⟩ ∧ PySem.W.codeIn K cd qual = true ∧ PySem.W.keepIn K (.ref f) = true
theorem PFact.of {K : PySem.W.Frag} {C : Addr} {x qual : Str} {st : Stmt} {p f : Addr} {oc : Value} {od an : Option Addr} {sl : Array (Option Value)} {kV dc pm cd ct : Value} {rest : List Value}
    (a : PySem.W.findIn K (.ref C) x = some (some (.ref p))) (g : PySem.W.specialIn K (.ref p) "__get__" = some (some (.builtin "property.__get__"))) (t : PySem.W.takesIn K (.ref p) = some true) (r : PySem.W.recIn K p "property" = some (.ref f :: rest))
    (l : K.lookup f = some ⟨oc, od, .func (PySem.W.fnOf x qual (defArgs st) (defBody st) (defScope st) .none kV dc pm an cd ct), sl⟩)
    (c : PySem.W.codeIn K cd qual = true) (k : PySem.W.keepIn K (.ref f) = true) : PFact K C x qual st := ⟨p, f, oc, od, an, sl, kV, dc, pm, cd, ct, ⟨a, g, t, rest, r⟩, l, c, k⟩
theorem AtP.of {K : PySem.W.Frag} {C : Addr} {x qual : Str} {st : Stmt} {ps : List Str} (F : PFact K C x qual st)
    (hb : ∀ (kV doc pm : Value) (an : Option Addr) (cdv ct : Value) (us : List Value), us.length = ps.length → bindArgs (PySem.W.fnOf x qual (defArgs st) (defBody st) (defScope st) .none kV doc pm an cdv ct) ⟨us, []⟩ = pure (ps.zip us)) : AtP K C x qual st ps := by
  obtain ⟨p, f, oc, od, an, sl, kV, dc, pm, cd, ct, pr, l, c, k⟩ := F.ex
  have F1 := fun_mk (st := st) l c k
  exact ⟨_, _, _, F1, F1.binds hb, pr⟩
theorem hasP_of {P : Program} {w : World} {K : PySem.W.Frag} {mg : Str → Option Value} {base : Heap} {C : Addr} {x qual : Str} {st : Stmt} {N ps : List Str} {k : Nat} {sp : Sp} (A : AtP K C x qual st ps) (S : FnScope N ps (defScope st)) (len : ∀ vs H Q E, sp vs H Q E → vs.length = ps.length)
    (hbody : ∀ (cdv : Value) (f : Addr) (A : Around) (outer : List Env) (s : Shared) (H : Hp) (vs : List V) (Q : VK) (E : XK), Room k (A.deeper (envOfC qual (defScope st) s.heap.objs.size f cdv)) → sp vs H Q E →
      ∃ t, PSs (cxOf CX0 P w K mg base N qual (defScope st) f cdv A outer s H E).nox (defBody st) t ∧ t { nx := fun _ H' => Q .non H', rt := Q } (start N vs) H) : HasP P w K mg base CX0 C x (k + 1) ps sp := by
  obtain ⟨p, f, fd, F, B, G⟩ := A.ex
  exact ⟨p, f, fd, G, F.ok S len fun cdv A outer s H vs Q E hr h => hbody cdv f A outer s H vs Q E hr h, B⟩
def fProp (C : Addr) (sp : Sp) (E : XK) (ta : TE) : TE := fun σ H Q => ta σ H fun x H1 => match x with
  | .ref a => match H1 a with
    | some (.ins D _ _) => D = C ∧ sp [.ref a] H1 Q E
    | _ => False
  | _ => False
theorem fe_prop {X : Cx} {CX : CXT} {k : Nat} {C : Addr} {x : Str} {ps : List Str} {sp : Sp} {E : XK} {e : Expr} {pos : Pos} {ta : TE} (h : HasP X.prog X.w X.K X.mg X.base CX C x k ps sp) (c : Cls X.K C) (hr : Room (k + 1) X.A) (hx : Passes CX X.nox E) (he : PE X e ta)
    (hab : attributeBase e x X.env (eval e X.env) = eval e X.env) : PE X (.Attribute e x pos) (fProp C sp E ta) := by
  obtain ⟨p, g, fd, hp, F, B⟩ := h.ex
  refine pe_wk (pe_prop (pe_clos he) c hp F hr B .nil hx hab) fun σ H Q q => ⟨_, q, fun y H1 q1 => ?_⟩
  match y, q1 with
  | .ref a, q1 =>
    dsimp only at q1
    split at q1
    · obtain ⟨h1, q2⟩ := q1
      rename_i D dx fs ea
      subst h1
      exact ⟨_, _, _, rfl, ea, q2⟩
    · exact q1.elim
end Fx

set_option Elab.async false
set_option linter.all false
set_option maxRecDepth 100000
/-! Mr: list methods, dicts with text keys, exceptions as values, by value, over Tb. -/
namespace Fx
open PySem PySem.Spec PyProof.Rows L2
section
variable {X : Cx}
/-! ### list methods -/
def fPop : V → List V → Hp → VK → Prop := fun x vs H Q => match x, vs with
  | .ref l, [] => match H l with
    | some (.lst xs) => ∃ y, xs[xs.length - 1]? = some y ∧ Q y (upd H l (.lst xs.dropLast))
    | _ => False
  | _, _ => False
theorem mt_fPop : MtR X "list.pop" fPop := by
  intro pins s σ H x xs v us Q I rx rs h
  unfold fPop at h
  split at h
  · split at h
    · obtain ⟨y, h1, h2⟩ := h
      exact mt_pop pins s σ H _ _ v us Q I rx rs ⟨_, _, y, rfl, rfl, by assumption, h1, h2⟩
    · exact h.elim
  · exact h.elim
def fPopAt : V → List V → Hp → VK → Prop := fun x vs H Q => match x, vs with
  | .ref l, [.int i] => match H l with
    | some (.lst xs) => ∃ k y, ixN xs.length i = some k ∧ xs[k]? = some y ∧ xs.length ≤ 100000 ∧ Q y (upd H l (.lst (xs.eraseIdx k)))
    | _ => False
  | _, _ => False
theorem mt_fPopAt : MtR X "list.pop" fPopAt := by
  intro pins s σ H x xs v us Q I rx rs h
  unfold fPopAt at h
  split at h
  · split at h
    · obtain ⟨k, y, h1, h2, h4, h3⟩ := h
      obtain ⟨e, _, lo, hi⟩ := ixN_seq h1
      exact mt_popAt pins s σ H _ _ v us Q I rx rs ⟨_, _, _, k, y, rfl, rfl, by assumption, by omega, by omega, e, h2, h3⟩
    · exact h.elim
  · exact h.elim
def fReverse : V → List V → Hp → VK → Prop := fun x vs H Q => match x, vs with
  | .ref l, [] => match H l with
    | some (.lst xs) => Q .non (upd H l (.lst xs.reverse))
    | _ => False
  | _, _ => False
theorem mt_fReverse : MtR X "list.reverse" fReverse := by
  intro pins s σ H x xs v us Q I rx rs h
  unfold fReverse at h
  split at h
  · split at h
    · exact mt_reverse pins s σ H _ _ v us Q I rx rs ⟨_, _, rfl, rfl, by assumption, h⟩
    · exact h.elim
  · exact h.elim
def fExtend : V → List V → Hp → VK → Prop := fun x vs H Q => match x, vs with
  | .ref l, [.ref b] => match H l, H b with
    | some (.lst xs), some (.lst zs) => xs.length + zs.length ≤ sizeLine ∧ Q .non (upd H l (.lst (xs ++ zs)))
    | _, _ => False
  | _, _ => False
theorem mt_fExtend : MtR X "list.extend" fExtend := by
  intro pins s σ H x xs v us Q I rx rs h
  unfold fExtend at h
  split at h
  · split at h
    · exact mt_extend pins s σ H _ _ v us Q I rx rs ⟨_, _, _, _, rfl, rfl, by assumption, by assumption, h⟩
    · exact h.elim
  · exact h.elim
def fInsert : V → List V → Hp → VK → Prop := fun x vs H Q => match x, vs with
  | .ref l, [.int i, y] => match H l with
    | some (.lst xs) => xs.length < sizeLine ∧ 0 ≤ i ∧ i < 2 ^ 63 ∧ Q .non (upd H l (.lst (xs.take i.toNat ++ [y] ++ xs.drop i.toNat)))
    | _ => False
  | _, _ => False
theorem mt_fInsert : MtR X "list.insert" fInsert := by
  intro pins s σ H x xs v us Q I rx rs h
  unfold fInsert at h
  split at h
  · split at h
    · exact mt_insert pins s σ H _ _ v us Q I rx rs ⟨_, _, _, _, rfl, rfl, by assumption, h⟩
    · exact h.elim
  · exact h.elim
/-! ### dicts with text (and number) keys -/
def keyV : V → Option Key
  | .int i => some (.inl i)
  | .str z => some (.inr z)
  | _ => none
theorem keyV_kV {x : V} {k : Key} (h : keyV x = some k) : x = kV k := by
  cases x <;> first
    | (cases h; rfl)
    | cases h
def fGetK (td ty : TE) : TE := fun σ H Q => td σ H fun x H1 => ty σ H1 fun y H2 => match x, keyV y with
  | .ref a, some k => ∃ kvs v, Rd H2 a (.dK kvs) ∧ valV kvs k = some v ∧ Q v H2
  | _, _ => False
def fInK (neg : Bool) (ty td : TE) : TE := fun σ H Q => ty σ H fun y H1 => td σ H1 fun x H2 => match x, keyV y with
  | .ref a, some k => ∃ kvs, Rd H2 a (.dK kvs) ∧ Q (.bl (if neg = true then !(valV kvs k).isSome else (valV kvs k).isSome)) H2
  | _, _ => False
def sPutK (td ty tv : TE) : TS := fun D σ H => tv σ H fun v H1 => td σ H1 fun x H2 => ty σ H2 fun y H3 => match x, keyV y with
  | .ref a, some k => ∃ kvs, H3 a = some (.dK kvs) ∧ kvs.length < sizeLine ∧ D.nx σ (upd H3 a (.dK (putK kvs k v)))
  | _, _ => False
def sDelK (td ty : TE) : TS := fun D σ H => td σ H fun x H1 => ty σ H1 fun y H2 => match x, keyV y with
  | .ref a, some k => ∃ kvs, H2 a = some (.dK kvs) ∧ (valV kvs k).isSome = true ∧ D.nx σ (upd H2 a (.dK (dropK kvs k)))
  | _, _ => False
section
variable {o i value : Expr} {pos pos' tpos : Pos} {td ty tv : TE}
theorem pe_getK (hu : X.A.units + 1 < cLine) (ho : PE X o td) (hi : PE X i ty) (hs : NoSl i) : PE X (.Subscript o i pos) (fGetK td ty) :=
  pe_wk (pe_dget hu (pe_clos ho) (pe_clos hi) hs) fun σ H Q q => ⟨_, q, fun x H1 q => ⟨_, q, fun y H2 q => by
    split at q
    · obtain ⟨kvs, v, r, hv, q⟩ := q
      exact ⟨_, v, rfl, .inl ⟨kvs, _, r, keyV_kV (by assumption), hv.symm⟩, q⟩
    · exact q.elim⟩⟩
theorem pc_wk {op : CmpOp} {a b : Expr} {t t' : TE} (h : PC X op a b t) (w : ∀ σ H Q, t' σ H Q → t σ H Q) : PC X op a b t' := ⟨fun pins s σ H Q I q => h.run pins s σ H Q I (w σ H Q q)⟩
theorem pc_inK (hu : X.A.units + 1 < cLine) (hi : PE X i ty) (ho : PE X o td) : PC X .In i o (fInK false ty td) :=
  pc_wk (pc_din hu (pe_clos hi) (pe_clos ho)) fun σ H Q q => ⟨_, q, fun y H1 q => ⟨_, q, fun x H2 q => by
    split at q
    · obtain ⟨kvs, r, q⟩ := q
      exact ⟨_, _, rfl, .inl ⟨kvs, _, r, keyV_kV (by assumption), rfl⟩, q⟩
    · exact q.elim⟩⟩
theorem pc_notinK (hu : X.A.units + 1 < cLine) (hi : PE X i ty) (ho : PE X o td) : PC X .NotIn i o (fInK true ty td) :=
  pc_wk (pc_dnotin hu (pe_clos hi) (pe_clos ho)) fun σ H Q q => ⟨_, q, fun y H1 q => ⟨_, q, fun x H2 q => by
    split at q
    · obtain ⟨kvs, r, q⟩ := q
      exact ⟨_, _, rfl, .inl ⟨kvs, _, r, keyV_kV (by assumption), rfl⟩, q⟩
    · exact q.elim⟩⟩
theorem ps_putK (hu : X.A.units + 1 < cLine) (ho : PE X o td) (hi : PE X i ty) (hv : PE X value tv) (hs : swapsWith value (some (.Subscript o i pos')) pos.line X.env = pure false) :
    PS X (.Assign [.Subscript o i pos'] value pos) (sPutK td ty tv) :=
  ps_wk (ps_dput hu (pe_clos ho) (pe_clos hi) (pe_clos hv) hs) fun D σ H q => ⟨_, q, fun v H1 q => ⟨_, q, fun x H2 q => ⟨_, q, fun y H3 q => by
    split at q
    · obtain ⟨kvs, h1, h2, q⟩ := q
      exact ⟨_, _, rfl, .inl ⟨kvs, _, h1, keyV_kV (by assumption), h2, rfl⟩, q⟩
    · exact q.elim⟩⟩⟩
theorem ps_delK (ho : PE X o td) (hi : PE X i ty) : PS X (.Delete [.Subscript o i tpos] pos) (sDelK td ty) :=
  ps_wk (ps_ddel (pe_clos ho) (pe_clos hi)) fun D σ H q => ⟨_, q, fun x H1 q => ⟨_, q, fun y H2 q => by
    split at q
    · obtain ⟨kvs, h1, h2, q⟩ := q
      exact ⟨_, kvs, _, rfl, h1, keyV_kV (by assumption), h2, q⟩
    · exact q.elim⟩⟩
end
/-- list(d): the keys -/
def fListD : List V → Hp → VK → Prop := fun xs H Q => match xs with
  | [.ref a] => ∃ kvs, Rd H a (.dK kvs) ∧ ∀ p H1, H p = none → Same H H1 → H1 p = some (.lst (kvs.map fun kv => kV kv.1)) → Q (.ref p) H1
  | _ => False
theorem call_fListD (hc : X.calm = true) : CallR X (.type "list") fListD := by
  intro pins s σ H xs us Q I r h
  match xs, r, h with
  | [.ref a], r, ⟨kvs, h1, h2⟩ => exact call_listD hc pins s σ H _ us Q I r ⟨a, kvs, rfl, h1, fun p np => h2 p _ np (same_new np) upd_same⟩
/-! ### exceptions as values -/
def fMkV (C : Addr) (n : Nat) (flds : List V → List (Str × V)) (ta : TA) : TE := fun σ H Q => ta σ H fun vs H1 => vs.length = n ∧ ∀ a d H2, H1 a = none → H1 d = none → Same H1 H2 → H2 a = some (exo a C (some d)) → H2 d = some (exd d (flds vs)) → Q (.ref a) H2
theorem fe_mkV {C : Addr} {x : Str} {n : Nat} {flds : List V → List (Str × V)} {p pos : Pos} {e : Expr} {es : List Expr} {ta : TA} (h : HasE X.prog X.w X.K X.mg X.base C x n flds) (hn : n ≤ 1000) (hr : Room 2 X.A) (hg : Gl X x) (ha : PA X (e :: es) ta) (hdb : (x == ("__debug__" : Str)) = false := by decide)
    (he : starEach (e :: es) X.env = (false, eval e X.env) :: starEach es X.env := by rfl) (hpl : (backTo pos (starEach es X.env)).any (·.1) = false := by rfl) : PE X (.Call (.Name x p) (e :: es) [] pos) (fMkV C n flds ta) := by
  obtain ⟨f, fd, ps, F1, hb, iC, tI, hm, T⟩ := h.ex
  refine ⟨fun pins s σ H Q I h => ?_⟩
  obtain ⟨nm, q, N, bs, bm, sn, sub, ab, col, dd, k0, k1, k2, k3, k5, hC, hbm⟩ := T.cls
  refine wpAny_Call_Name_kw (ld_glob I hg hm ?_ hdb)
  refine PySem.W.callWith_K (h₀ := X.base) I.ok.mod.kin T.kC (thn (ha.run pos pins s σ H _ I h) fun us s1 ⟨vs, H1, I1, r1, hz, q1⟩ => ⟨I1.kIn, ?_⟩) he hpl
  show wpAny _ _ (call (.ref C) us) _ _ _
  obtain ⟨hp, g, dr, tk, os⟩ := s1
  have hsz : hp.objs.size ≤ hp.objs.size + 1 := Nat.le_succ _
  have hn1 : H1 (hp.objs.size + 1) = none := I1.hok.fresh hsz
  have hq : spInitE C n flds (V.ref (hp.objs.size + 1) :: vs) (upd H1 (hp.objs.size + 1) (exo (hp.objs.size + 1) C none)) (fun v H2 => v = .non ∧ Q (.ref (hp.objs.size + 1)) H2) (fun _ _ _ => False) :=
    ⟨_, vs, H1, rfl, hz, hn1, rfl, fun d H2 nd ne keep ea ed => ⟨rfl, q1 _ d H2 hn1 nd keep ea ed⟩⟩
  have kk : ∀ b o, hp.get? b = some o → ((hp.push (PySem.W.kdv_tup us)).push (PySem.HandSPX.excO C hp.objs.size)).get? b = some o := fun b o e => Heap.get?_push_of_some _ (Heap.get?_push_of_some _ e)
  have hget : ((hp.push (PySem.W.kdv_tup us)).push (PySem.HandSPX.excO C hp.objs.size)).get? (hp.objs.size + 1) = some (PySem.HandSPX.excO C hp.objs.size) := by heap_get
  have I2 : Inv X pins σ (upd H1 (hp.objs.size + 1) (exo (hp.objs.size + 1) C none)) ⟨(hp.push (PySem.W.kdv_tup us)).push (PySem.HandSPX.excO C hp.objs.size), g, dr, tk, os⟩ :=
    I1.laid (t' := tk) (a := hp.objs.size + 1) (o := exo (hp.objs.size + 1) C none) (h' := (hp.push (PySem.W.kdv_tup us)).push (PySem.HandSPX.excO C hp.objs.size)) kk hsz (exo_ok hget)
  have r2 : Vals (V.ref (hp.objs.size + 1) :: vs) (Value.ref (hp.objs.size + 1) :: us) := .cons rfl r1
  have hl : (Value.ref (hp.objs.size + 1) :: us).length = ps.length := by
    have e := r2.length
    rw [F1.len _ _ _ _ hq] at e
    exact e.symm
  have hus : us.length ≤ sizeLine := by
    rw [← Paired.length r1, sizeLine_eq]
    omega
  have hb' := hb ⟨(hp.push (PySem.W.kdv_tup us)).push (PySem.HandSPX.excO C hp.objs.size), g, dr, tk, os⟩ (Value.ref (hp.objs.size + 1) :: us) I2.kIn (by rw [List.append_nil]; exact hl)
  rw [List.append_nil] at hb'
  refine wpAny_call (PySem.HandSPX.call_own F.excBase_ValueError (fun Y => PySem.HandSPX.refsVE_contains Y bm hbm) (I1.kIn _ _ hC) (PySem.W.looks_findIn I1.kIn iC) (fun self => PySem.W.bind_fn I1.kIn self tI) hus
    (codeAny_mono (F1.run _ X.stack _ _ ⟨Value.ref (hp.objs.size + 1) :: us, []⟩ (Value.ref (hp.objs.size + 1) :: us) _ _ (fun _ _ _ => False) (hr.make C us []) (I2.env0.make C us []) hb' r2 hq) fun r s' hq' => ?_))
  cases r with
  | error er => exact hq'.elim
  | ok fl =>
    cases fl with
    | ret u =>
      obtain ⟨v, H', I3, rv, ev, q3⟩ := I2.after hq'
      subst ev
      exact ⟨rv, ⟨V.ref (hp.objs.size + 1), H', I3, rfl, q3⟩⟩
    | next => exact False.elim hq'
    | brk => exact False.elim hq'
    | cont => exact False.elim hq'
/-- an exception of class C with these fields, held -/
def IsExo (H : Hp) (a C : Addr) (fs : List (Str × V)) : Prop := ∃ d, H a = some (exo a C (some d)) ∧ H d = some (exd d fs)
theorem IsExo.same {H H' : Hp} {a C : Addr} {fs : List (Str × V)} (h : IsExo H a C fs) (s : Same H H') : IsExo H' a C fs := h.imp fun _ ⟨x, y⟩ => ⟨s _ _ x, s _ _ y⟩
theorem exo_inst {pins : List (Addr × Obj)} {σ : L2.St} {H : Hp} {s : Shared} {a C : Addr} {fs : List (Str × V)} (I : Inv X pins σ H s) (h : IsExo H a C fs) : ∃ (oe od : Obj) (mA : Str → Option Value), PySem.W.InstAt s.heap a oe C (some od) ∧ (∀ f, RelO (fs.lookup f) (mA f)) ∧ (∀ f, PySem.W.lookIn f od = some (mA f)) := by
  obtain ⟨d, e1, e2⟩ := h
  obtain ⟨t1, he⟩ := exo_at I.hok e1
  obtain ⟨mA, hns, rel⟩ := exd_at I.hok e2
  obtain ⟨od, ho, hl⟩ := lookIn_ns hns
  exact ⟨_, od, mA, ⟨he, rfl, rfl, ho⟩, rel, hl⟩
/-- e.f of such -/
def fXo (K : PySem.W.Frag) (cs : List Addr) (f : Str) (te : TE) : TE := fun σ H Q => te σ H fun x H1 => match x with
  | .ref a => ∃ C fs v, C ∈ cs ∧ IsExo H1 a C fs ∧ fs.lookup f = some v ∧ Q v H1
  | _ => False
theorem fe_xo {cs : List Addr} {e : Expr} {te : TE} {pos : Pos} {n : Str} (T : XPlain X.K cs n) (he : PE X e te) (hb : attributeBase e n X.env (eval e X.env) = eval e X.env) : PE X (.Attribute e n pos) (fXo X.K cs n te) := by
  refine ⟨fun pins s σ H Q I h => ?_⟩
  refine attr_of hb (thn (he.run pins s σ H _ I h) fun u s1 hh => ?_)
  obtain ⟨x, H1, I1, rx, q⟩ := hh
  match x, rx, q with
  | .ref a, rx, ⟨C, fs, v, m, hx, l, q⟩ =>
    obtain rfl : u = Value.ref a := rx
    obtain ⟨oe, od, mA, J, rel, hl⟩ := exo_inst I1 hx
    obtain ⟨u, hu, ru⟩ := RelO.some_of (v := v) (o := mA n) (by rw [← l]; exact rel n)
    exact HandSPX.exc_get I1.kIn J (T C m).1.ga (T C m).1.gg (T C m).1.exC (PySem.W.findObj_own (T C m).1.hdC (T C m).2 rfl (by rw [hl, hu])) (handed_of ru) ⟨v, H1, I1.tok _, ru, q⟩
/-- isinstance(e, C) of such -/
def fIsX (K : PySem.W.Frag) (cs : List Addr) : List V → Hp → VK → Prop := fun xs H Q => match xs with
  | [.ref a, .ref D] => ∃ C fs, C ∈ cs ∧ IsExo H a C fs ∧ ∃ b, PySem.W.kitOne K (.ref C) (.ref D) = some b ∧ Q (.bl b) H
  | _ => False
theorem call_fIsX {cs : List Addr} (F : ∀ C ∈ cs, ExcFact X.K C) (ob : ObjFact X.K) : CallR X (.builtin "isinstance") (fIsX X.K cs) := by
  intro pins s σ H xs us Q I r h
  match xs, r, h with
  | [.ref a, .ref D], r, ⟨C, fs, m, hx, b, e, q⟩ =>
    obtain ⟨u1, u2, rfl, r1, r2⟩ := vals2 r
    cases r1
    cases r2
    have FC := F C m
    have hcl : (PySem.W.clsIn X.K C).isSome = true := by
      obtain ⟨cd, hcd, _⟩ := PySem.W.any_some FC.hdC
      rw [hcd]; rfl
    obtain ⟨oe, od, mA, J, rel, hl⟩ := exo_inst I hx
    exact PySem.W.kia_one (PySem.W.kitx_exc hcl FC.ga FC.gg FC.exC FC.ci ob.gd ob.tk FC.mr) I.kIn J e (fun z => nomatch z) fun tk => ⟨.bl b, H, I.kept (t' := tk) fun _ _ z => z, rfl, q⟩
end
end Fx

set_option Elab.async false
set_option linter.all false
set_option maxRecDepth 100000
/-! Dk: displays of dicts with text keys, walks over their keys, by value, over Mr. -/
namespace Fx
open PySem PySem.Spec PyProof.Rows L2
/-! ### {"a": v, ..} -/
def fPairs : List (Key × TE) → L2.St → Hp → (List (Key × V) → Hp → Prop) → Prop
  | [], _, H, Q => Q [] H
  | (k, tv) :: r, σ, H, Q => tv σ H fun y H1 => fPairs r σ H1 fun ps H2 => Q ((k, y) :: ps) H2
abbrev FPs (X : Cx) (pos : Pos) (keys : List (Option Expr)) (values : List Expr) (trs : List (Key × TE)) : Prop := PPs X pos keys values (trs.map fun p => (tC (kV p.1), clos p.2))
theorem fps_nil {X : Cx} {pos : Pos} : FPs X pos [] [] [] := pps_nil
theorem fps_cons {X : Cx} {pos : Pos} {x : Str} {j : Nat} {p : Pos} {v : Expr} {ks : List (Option Expr)} {vs : List Expr} {tv : TE} {trs : List (Key × TE)} (hv : PE X v tv) (hr : FPs X pos ks vs trs) :
    FPs X pos (some (.Constant (.str x) j p) :: ks) (v :: vs) ((.inr x, tv) :: trs) := pps_cons pe_str (pe_clos hv) hr
theorem fPairs_t : ∀ {trs : List (Key × TE)} {σ : L2.St} {H : Hp} {R : List (Key × V) → Hp → Prop} {Q : List (V × V) → Hp → Prop}, fPairs trs σ H R → (∀ kvs H2, kvs.map (·.1) = trs.map (·.1) → R kvs H2 → Q (kvs.map fun kv => (kV kv.1, kv.2)) H2) → tPairs (trs.map fun p => (tC (kV p.1), clos p.2)) σ H Q
  | [], σ, H, R, Q, h, w => w [] H rfl h
  | (k, tv) :: r, σ, H, R, Q, h, w => ⟨_, h, fun y H1 q => fPairs_t q fun kvs H2 e z => w ((k, y) :: kvs) H2 (by rw [List.map_cons, List.map_cons, e]) z⟩
theorem mergeK_nd : ∀ (kvs acc : List (Key × V)), ((acc ++ kvs).map (·.1)).Nodup → mergeK acc kvs = acc ++ kvs
  | [], acc, _ => (List.append_nil acc).symm
  | p :: r, acc, h => by
    have hn : ¬ (acc.any fun kv => decide (kv.1 = p.1)) = true := by
      intro z
      obtain ⟨q, hq, e⟩ := List.any_eq_true.mp z
      have e := of_decide_eq_true e
      rw [List.map_append, List.nodup_append] at h
      exact h.2.2 _ (List.mem_map_of_mem hq) _ (List.mem_map_of_mem (List.mem_cons_self ..)) e
    have e1 : putK acc p.1 p.2 = acc ++ [p] := by unfold putK; rw [if_neg hn]
    show mergeK (putK acc p.1 p.2) r = _
    rw [e1, mergeK_nd r (acc ++ [p]) (by rw [List.append_assoc]; exact h), List.append_assoc]; rfl
def fDisp (trs : List (Key × TE)) : TE := fun σ H Q => ∀ p H0, H p = none → Same H H0 → H0 p = some (.dK []) → fPairs trs σ H0 fun kvs H2 => H2 p = some (.dK []) ∧ ∀ H3, H3 = upd H2 p (.dK kvs) → Q (.ref p) H3
theorem fe_disp {X : Cx} {pos : Pos} {keys : List (Option Expr)} {values : List Expr} {trs : List (Key × TE)} (h : FPs X pos keys values trs) (hn : (trs.map (·.1)).Nodup) (hall : keys.all (·.isSome) = true) (hl : keys.length = values.length) (h0 : keys ≠ [])
    (h15 : keys.length ≤ 15) (ht : trs.length ≤ 15) : PE X (.Dict keys values pos) (fDisp trs) :=
  pe_wk (pe_disp h hall hl h0 h15) fun σ H Q q p np => fPairs_t (q p _ np (same_new np) upd_same) fun kvs H2 e z => ⟨z.1, kvs, rfl, by
    have : kvs.length = trs.length := by have := congrArg List.length e; simpa using this
    omega, z.2 _ (by rw [mergeK_nd kvs [] (by rw [List.nil_append, e]; exact hn), List.nil_append])⟩
/-! ### for k in d -/
def iKeysK (td : TE) : TI := fun σ H R => td σ H fun x H1 => match x with
  | .ref d => ∃ o kvs, H1 d = some (.frz o (.dK kvs)) ∧ R (Itk d o kvs) H1
  | _ => False
theorem pi_keysK {X : Cx} {tg e : Expr} {td : TE} (he : PE X e td) : PI X tg e (iKeysK td) :=
  ⟨fun pins s σ H R I h => (pi_keys (pe_clos he)).run pins s σ H R I ⟨_, h, fun x H1 q => by
    match x, q with
    | .ref d, ⟨o, kvs, hd, q⟩ => exact ⟨d, o, rfl, .inl ⟨kvs, hd, q⟩⟩⟩⟩
theorem lcx_keysK {d0 : Addr} {o : Obj} {kvs : List (Key × V)} {g : TG} {tt : TT} {te : TE} {vs : List Nat} {σ : L2.St} {H1 : Hp} {D : Addr} {Q : VK} (Pv : Nat → Hp → Prop) (h0 : Pv 0 (upd H1 D (.lst []))) (hl : ∀ i H, i ≤ kvs.length → Pv i H → H d0 = some (.frz o (.dK kvs)))
    (hs : ∀ i k v H, kvs[i]? = some (k, v) → Pv i H → g (kV k) (wipe σ vs) H fun σ2 H2 => wipe σ2 vs = wipe σ vs ∧ tt σ2 H2 fun b H3 =>
      if b = true then te σ2 H3 fun y H4 => ∃ acc, H4 D = some (.lst acc) ∧ acc.length < sizeLine ∧ Pv (i + 1) (upd H4 D (.lst (acc ++ [y]))) else Pv (i + 1) H3) (hd : ∀ H, Pv kvs.length H → Q (.ref D) H) : Lc (Itk d0 o kvs) g tt te vs σ H1 D Q :=
  lc_it walk_keys Pv h0 hl (fun i x H H' hi p y => by
    obtain ⟨rfl, k, v, he, rfl⟩ := y
    exact hs i k v _ he p) hd
end Fx

set_option Elab.async false
set_option linter.all false
set_option maxRecDepth 100000
/-! Fk: one of two ways to read an expression (a method of several classes), copies of dicts. -/
namespace Fx
open PySem PySem.Spec PyProof.Rows L2
def tEither (t1 t2 : TE) : TE := fun σ H Q => t1 σ H Q ∨ t2 σ H Q
theorem pe_either {X : Cx} {e : Expr} {t1 t2 : TE} (h1 : PE X e t1) (h2 : PE X e t2) : PE X e (tEither t1 t2) := ⟨fun pins s σ H Q I q => q.elim (h1.run pins s σ H Q I) (h2.run pins s σ H Q I)⟩
/-- dict(d): a copy -/
def fDictD : List V → Hp → VK → Prop := fun xs H Q => match xs with
  | [.ref a] => ∃ kvs, Rd H a (.dK kvs) ∧ ∀ p H1, H p = none → Same H H1 → H1 p = some (.dK kvs) → Q (.ref p) H1
  | _ => False
theorem call_fDictD {X : Cx} : CallR X (.type "dict") fDictD := by
  intro pins s σ H xs us Q I r h
  match xs, r, h with
  | [.ref a], r, ⟨kvs, h1, h2⟩ =>
    obtain ⟨u, eu, rx⟩ := vals1 r
    subst eu
    cases rx
    exact d_copyOf I h1 fun p s' np I' => ⟨.ref p, _, I', rfl, h2 p _ np (same_new np) upd_same⟩
end Fx
namespace Fx
open PySem PySem.Spec PyProof.Rows L2
section
variable {X : Cx} {K : PySem.W.Frag}
theorem ix_fxK (h : X.K = K) : IxR X (fIx K) := h ▸ ix_fx
theorem call_fLenK (h : X.K = K) : CallR X (.builtin "len") (fLen K) := h ▸ call_fLen
theorem op_fAddK (h : X.K = K) : OpR X (binaryOp .Add) (fAdd K) := h ▸ op_fAdd
theorem sl_fxK (h : X.K = K) : SlR X (fSl K) := h ▸ sl_fx
theorem op_fEqK (hu : X.A.units + 64 < cLine) (h : X.K = K) : OpR X (compareOp .Eq) (fEq K false) := h ▸ op_fEq hu
theorem op_fNeK (hu : X.A.units + 64 < cLine) (h : X.K = K) : OpR X (compareOp .NotEq) (fEq K true) := h ▸ op_fNe hu
theorem op_fInK' (h : X.K = K) : OpR X (compareOp .In) (fIn K false) := h ▸ op_fIn
end
end Fx

set_option Elab.async false
set_option linter.all false
set_option maxRecDepth 100000
set_option maxHeartbeats 1000000
namespace My
open PySem L2 Fx
local macro_rules | `(tactic| walk_at "fx") => `(tactic| try simp only [L2.start, List.map_cons, List.map_nil, List.length_cons, List.length_nil, Nat.reduceAdd, Nat.reduceSub, List.reduceReplicate, List.cons_append, List.nil_append, List.append_nil,
  tSeq, fVar, tVar, tC, tOp, tUn, tCons, tNil, fTup, fLst, tAsg, gName, tRet, tRetN, tDrop, tNext, tIf, tAnd, tOr, tNot, tTest, tB, tAug, tChain, tNotV, tAndV, tOrV, tSl, tPart, tNoPart, tCB, tCall, fBM, fBM0, tBreak, tCont, gTup, gCons, gNil,
  fAdd, fSub, fMul, fDiv, fMod, fNeg, fLt, fLe, fGt, fGe, fIx, fSl, fLen, fInt, fStr, fAbs, fMax, fMin, fOrd, fIsN, fNotN, fIsi, fListOf, isLst, isStr, isDct, fAppend, fS1, fJoin, fLstripC, fIAdd, fISub, fSet, tyOf, fEq, scal, fIn, iRng1, iRng2, iList, iTup, iStr, gSub, fGt_,
  List.getElem?_cons_zero, List.getElem?_cons_succ, List.set_cons_zero, List.set_cons_succ, upd_same, S_cps, S_len, L_S, one_list, flatV,
  V.int.injEq, V.str.injEq, V.bl.injEq, V.ref.injEq, Option.some.injEq, List.cons.injEq, exists_eq_left', exists_eq_left, exists_and_left, ex2, and_true, true_and, decide_eq_true_eq, Bool.not_eq_true', decide_eq_false_iff_not, Bool.false_eq_true, Bool.true_eq_false, Int.zero_add, Int.toNat_natCast, if_true, if_false, ite_true, ite_false, reduceIte, Int.reduceLT, Int.reduceLE, Int.reduceNeg, Int.reduceAdd, Nat.reduceLT, Nat.reduceLeDiff, Bool.not_true, Bool.not_false, kitBv, kitBs, not_true_eq_false, not_false_eq_true, Bool.or_false, Bool.false_or, Bool.or_true, Bool.true_or])
local macro_rules | `(tactic| walk_at "fx0") => `(tactic| try dsimp only [cxOf, Cx.nox, Cx.wish])
local macro_rules | `(tactic| walk_at "mul") => `(tactic| first | exact mul_left (by decide) (by decide) | exact mul_right (by decide) (by decide) | exact mul_left (by omega) (by omega) | exact mul_right (by omega) (by omega))
local macro_rules | `(tactic| walk_at "rm") => `(tactic| first | decide | exact Nat.le_refl _ | omega)
set_option hygiene false in
local macro_rules | `(tactic| walk_at "ox") => `(tactic| try simp only [WE_wOf, two, fTru, fLenD, fDisp, fPairs, iKeysK, fGetK, fInK, sPutK, sDelK, keyV, fListD, fDictD, fMkV, fXo, fIsX, fPop, fPopAt, fReverse, fExtend, fInsert, fGetN, fInN, sPutN, sDelN, fNewN, fLenN, iKeysN, fProp, fRaise, fXf, fIsE, fMethS, tCallS, fFmt, fJs, fJoined, fDivZ, fGd_, fInD, fIxD, WE, wOf, fDead, sDead, upd2, wipe, tYes, fIsB, beq_self_eq_true, List.not_mem_nil, or_false, false_or, fDnew, T.ne, fFld, fSetF, fMeth, isOb, fIsiO, fIsiP, fIsiA, tyV2, okT, kit2, kits2, allIn, putF, List.lookup_cons, List.lookup_nil, keyEq, List.mem_cons, true_or, or_true, L2.start, List.map_cons, List.map_nil, List.length_cons, List.length_nil, Nat.reduceAdd, Nat.reduceSub, List.reduceReplicate, List.cons_append, List.nil_append, List.append_nil,
  tSeq, fVar, tVar, tC, tOp, tUn, tCons, tNil, fTup, fLst, tAsg, gName, tRet, tRetN, tDrop, tNext, tIf, tAnd, tOr, tNot, tTest, tB, tAug, tChain, tNotV, tAndV, tOrV, tSl, tPart, tNoPart, tCB, tCall, fBM, fBM0, tBreak, tCont, gTup, gCons, gNil,
  fAdd, fSub, fMul, fDiv, fMod, fNeg, fLt, fLe, fGt, fGe, fIx, fSl, fLen, fInt, fStr, fAbs, fMax, fMin, fOrd, fIsN, fNotN, fIsi, fListOf, isLst, isStr, isDct, fAppend, fS1, fJoin, fLstripC, fIAdd, fISub, fSet, tyOf, fEq, scal, fIn, iRng1, iRng2, iList, iTup, iStr, gSub, fGt_,
  List.getElem?_cons_zero, List.getElem?_cons_succ, List.set_cons_zero, List.set_cons_succ, upd_same, S_cps, S_len, L_S, one_list, flatV,
  V.int.injEq, V.str.injEq, V.bl.injEq, V.ref.injEq, Option.some.injEq, List.cons.injEq, exists_eq_left', exists_eq_left, exists_and_left, ex2, and_true, true_and, decide_eq_true_eq, Bool.not_eq_true', decide_eq_false_iff_not, Bool.false_eq_true, Bool.true_eq_false, Int.zero_add, Int.toNat_natCast, if_true, if_false, ite_true, ite_false, reduceIte, Int.reduceLT, Int.reduceLE, Int.reduceNeg, Int.reduceAdd, Nat.reduceLT, Nat.reduceLeDiff, Bool.not_true, Bool.not_false, kitBv, kitBs, not_true_eq_false, not_false_eq_true, Bool.or_false, Bool.false_or, Bool.or_true, Bool.true_or])
set_option hygiene false in
local macro_rules | `(tactic| walk_at "oxs") => `(tactic| simp only [tIfS, WE_wOf, two, fTru, fLenD, fDisp, fPairs, iKeysK, fGetK, fInK, sPutK, sDelK, keyV, fListD, fDictD, fMkV, fXo, fIsX, fPop, fPopAt, fReverse, fExtend, fInsert, fGetN, fInN, sPutN, sDelN, fNewN, fLenN, iKeysN, fProp, fRaise, fXf, fIsE, fMethS, tCallS, fFmt, fJs, fJoined, fDivZ, fGd_, fInD, fIxD, WE, wOf, fDead, sDead,  reduceCtorEq, upd2, wipe, tYes, fIsB, beq_self_eq_true, List.not_mem_nil, or_false, false_or, fDnew, T.ne, fFld, fSetF, fMeth, isOb, fIsiO, fIsiP, fIsiA, tyV2, okT, kit2, kits2, allIn, putF, List.lookup_cons, List.lookup_nil, keyEq, List.mem_cons, true_or, or_true, L2.start, List.map_cons, List.map_nil, List.length_cons, List.length_nil, Nat.reduceAdd, Nat.reduceSub, List.reduceReplicate, List.cons_append, List.nil_append, List.append_nil,
  tSeq, fVar, tVar, tC, tOp, tUn, tCons, tNil, fTup, fLst, tAsg, gName, tRet, tRetN, tDrop, tNext, tIf, tAnd, tOr, tNot, tTest, tB, tAug, tChain, tNotV, tAndV, tOrV, tSl, tPart, tNoPart, tCB, tCall, fBM, fBM0, tBreak, tCont, gTup, gCons, gNil,
  fAdd, fSub, fMul, fDiv, fMod, fNeg, fLt, fLe, fGt, fGe, fIx, fSl, fLen, fInt, fStr, fAbs, fMax, fMin, fOrd, fIsN, fNotN, fIsi, fListOf, isLst, isStr, isDct, fAppend, fS1, fJoin, fLstripC, fIAdd, fISub, fSet, tyOf, fEq, scal, fIn, iRng1, iRng2, iList, iTup, iStr, gSub, fGt_,
  List.getElem?_cons_zero, List.getElem?_cons_succ, List.set_cons_zero, List.set_cons_succ, upd_same, S_cps, S_len, L_S, one_list, flatV,
  V.int.injEq, V.str.injEq, V.bl.injEq, V.ref.injEq, Option.some.injEq, List.cons.injEq, exists_eq_left', exists_eq_left, exists_and_left, ex2, and_true, true_and, decide_eq_true_eq, Bool.not_eq_true', decide_eq_false_iff_not, Bool.false_eq_true, Bool.true_eq_false, Int.zero_add, Int.toNat_natCast, if_true, if_false, ite_true, ite_false, reduceIte, Int.reduceLT, Int.reduceLE, Int.reduceNeg, Int.reduceAdd, Nat.reduceLT, Nat.reduceLeDiff, Bool.not_true, Bool.not_false, kitBv, kitBs, not_true_eq_false, not_false_eq_true, Bool.or_false, Bool.false_or, Bool.or_true, Bool.true_or])

def topS (i : Nat) : Stmt := PySem.Challenge.pw_livequill_k29_iterators.main.body.getD i (.Pass ⟨0, 0, 0, 0⟩)
abbrev s_ScriptError___init__ : Stmt := inClass (topS 3) 0
theorem sc_ScriptError___init__ : FnScope ["self", "kind", "message"] ["self", "kind", "message"] (defScope s_ScriptError___init__) := ⟨rfl, rfl, rfl, by decide +kernel, rfl, by decide +kernel, by decide +kernel⟩
abbrev s_Ref___init__ : Stmt := inClass (topS 5) 0
theorem sc_Ref___init__ : FnScope ["self", "number"] ["self", "number"] (defScope s_Ref___init__) := ⟨rfl, rfl, rfl, by decide +kernel, rfl, by decide +kernel, by decide +kernel⟩
abbrev s_Ref___eq__ : Stmt := inClass (topS 5) 1
theorem sc_Ref___eq__ : FnScope ["self", "other"] ["self", "other"] (defScope s_Ref___eq__) := ⟨rfl, rfl, rfl, by decide +kernel, rfl, by decide +kernel, by decide +kernel⟩
abbrev s_Builtin___init__ : Stmt := inClass (topS 6) 0
theorem sc_Builtin___init__ : FnScope ["self", "name"] ["self", "name"] (defScope s_Builtin___init__) := ⟨rfl, rfl, rfl, by decide +kernel, rfl, by decide +kernel, by decide +kernel⟩
abbrev s_Builtin___eq__ : Stmt := inClass (topS 6) 1
theorem sc_Builtin___eq__ : FnScope ["self", "other"] ["self", "other"] (defScope s_Builtin___eq__) := ⟨rfl, rfl, rfl, by decide +kernel, rfl, by decide +kernel, by decide +kernel⟩
abbrev s_key_of : Stmt := topS 8
theorem sc_key_of : FnScope ["value"] ["value"] (defScope s_key_of) := ⟨rfl, rfl, rfl, by decide +kernel, rfl, by decide +kernel, by decide +kernel⟩
abbrev s_Parts___init__ : Stmt := inClass (topS 9) 0
theorem sc_Parts___init__ : FnScope ["self", "held"] ["self", "held"] (defScope s_Parts___init__) := ⟨rfl, rfl, rfl, by decide +kernel, rfl, by decide +kernel, by decide +kernel⟩
abbrev s_Parts_fork : Stmt := inClass (topS 9) 1
theorem sc_Parts_fork : FnScope ["self"] ["self"] (defScope s_Parts_fork) := ⟨rfl, rfl, rfl, by decide +kernel, rfl, by decide +kernel, by decide +kernel⟩
abbrev s_Table___init__ : Stmt := inClass (topS 10) 0
theorem sc_Table___init__ : FnScope ["self"] ["self"] (defScope s_Table___init__) := ⟨rfl, rfl, rfl, by decide +kernel, rfl, by decide +kernel, by decide +kernel⟩
abbrev s_Table_many : Stmt := inClass (topS 10) 1
theorem sc_Table_many : FnScope ["self"] ["self"] (defScope s_Table_many) := ⟨rfl, rfl, rfl, by decide +kernel, rfl, by decide +kernel, by decide +kernel⟩
abbrev s_Table_has : Stmt := inClass (topS 10) 2
theorem sc_Table_has : FnScope ["self", "key"] ["self", "key"] (defScope s_Table_has) := ⟨rfl, rfl, rfl, by decide +kernel, rfl, by decide +kernel, by decide +kernel⟩
abbrev s_Table_value_of : Stmt := inClass (topS 10) 3
theorem sc_Table_value_of : FnScope ["self", "key"] ["self", "key"] (defScope s_Table_value_of) := ⟨rfl, rfl, rfl, by decide +kernel, rfl, by decide +kernel, by decide +kernel⟩
abbrev s_Table_put : Stmt := inClass (topS 10) 4
theorem sc_Table_put : FnScope ["self", "key", "value"] ["self", "key", "value"] (defScope s_Table_put) := ⟨rfl, rfl, rfl, by decide +kernel, rfl, by decide +kernel, by decide +kernel⟩
abbrev s_Table_take_out : Stmt := inClass (topS 10) 5
theorem sc_Table_take_out : FnScope ["self", "key"] ["self", "key"] (defScope s_Table_take_out) := ⟨rfl, rfl, rfl, by decide +kernel, rfl, by decide +kernel, by decide +kernel⟩
abbrev s_Table_pairs : Stmt := inClass (topS 10) 6
theorem sc_Table_pairs : FnScope ["self", "at"] ["self"] (defScope s_Table_pairs) := ⟨rfl, rfl, rfl, by decide +kernel, rfl, by decide +kernel, by decide +kernel⟩
abbrev s_Table_fork : Stmt := inClass (topS 10) 7
theorem sc_Table_fork : FnScope ["self", "double", "key", "value"] ["self"] (defScope s_Table_fork) := ⟨rfl, rfl, rfl, by decide +kernel, rfl, by decide +kernel, by decide +kernel⟩
abbrev s_Instance___init__ : Stmt := inClass (topS 11) 0
theorem sc_Instance___init__ : FnScope ["self", "owner"] ["self", "owner"] (defScope s_Instance___init__) := ⟨rfl, rfl, rfl, by decide +kernel, rfl, by decide +kernel, by decide +kernel⟩
abbrev s_Instance_fork : Stmt := inClass (topS 11) 1
theorem sc_Instance_fork : FnScope ["self", "double"] ["self"] (defScope s_Instance_fork) := ⟨rfl, rfl, rfl, by decide +kernel, rfl, by decide +kernel, by decide +kernel⟩
abbrev s_Kin___init__ : Stmt := inClass (topS 12) 0
theorem sc_Kin___init__ : FnScope ["self", "name", "parent"] ["self", "name", "parent"] (defScope s_Kin___init__) := ⟨rfl, rfl, rfl, by decide +kernel, rfl, by decide +kernel, by decide +kernel⟩
abbrev s_Kin_fork : Stmt := inClass (topS 12) 1
theorem sc_Kin_fork : FnScope ["self", "double"] ["self"] (defScope s_Kin_fork) := ⟨rfl, rfl, rfl, by decide +kernel, rfl, by decide +kernel, by decide +kernel⟩
abbrev s_Cursor___init__ : Stmt := inClass (topS 13) 0
theorem sc_Cursor___init__ : FnScope ["self", "rest"] ["self", "rest"] (defScope s_Cursor___init__) := ⟨rfl, rfl, rfl, by decide +kernel, rfl, by decide +kernel, by decide +kernel⟩
abbrev s_Cursor_fork : Stmt := inClass (topS 13) 1
theorem sc_Cursor_fork : FnScope ["self"] ["self"] (defScope s_Cursor_fork) := ⟨rfl, rfl, rfl, by decide +kernel, rfl, by decide +kernel, by decide +kernel⟩
abbrev s_thing_of : Stmt := topS 15
theorem sc_thing_of : FnScope ["store", "value"] ["store", "value"] (defScope s_thing_of) := ⟨rfl, rfl, rfl, by decide +kernel, rfl, by decide +kernel, by decide +kernel⟩
abbrev s_kind_of : Stmt := topS 16
theorem sc_kind_of : FnScope ["store", "value", "thing"] ["store", "value"] (defScope s_kind_of) := ⟨rfl, rfl, rfl, by decide +kernel, rfl, by decide +kernel, by decide +kernel⟩
abbrev s_is_key : Stmt := topS 17
theorem sc_is_key : FnScope ["value"] ["value"] (defScope s_is_key) := ⟨rfl, rfl, rfl, by decide +kernel, rfl, by decide +kernel, by decide +kernel⟩
abbrev s_Store___init__ : Stmt := inClass (topS 21) 0
theorem sc_Store___init__ : FnScope ["self", "lines"] ["self", "lines"] (defScope s_Store___init__) := ⟨rfl, rfl, rfl, by decide +kernel, rfl, by decide +kernel, by decide +kernel⟩
abbrev s_Store_make : Stmt := inClass (topS 21) 1
theorem sc_Store_make : FnScope ["self", "thing"] ["self", "thing"] (defScope s_Store_make) := ⟨rfl, rfl, rfl, by decide +kernel, rfl, by decide +kernel, by decide +kernel⟩
abbrev s_Store_at : Stmt := inClass (topS 21) 2
theorem sc_Store_at : FnScope ["self", "ref"] ["self", "ref"] (defScope s_Store_at) := ⟨rfl, rfl, rfl, by decide +kernel, rfl, by decide +kernel, by decide +kernel⟩
abbrev s_Store_fork : Stmt := inClass (topS 21) 3
theorem sc_Store_fork : FnScope ["self", "double", "thing"] ["self"] (defScope s_Store_fork) := ⟨rfl, rfl, rfl, by decide +kernel, rfl, by decide +kernel, by decide +kernel⟩
abbrev s_check_parts : Stmt := topS 23
theorem sc_check_parts : FnScope ["count"] ["count"] (defScope s_check_parts) := ⟨rfl, rfl, rfl, by decide +kernel, rfl, by decide +kernel, by decide +kernel⟩
abbrev s_checked_key : Stmt := topS 25
theorem sc_checked_key : FnScope ["i"] ["i"] (defScope s_checked_key) := ⟨rfl, rfl, rfl, by decide +kernel, rfl, by decide +kernel, by decide +kernel⟩
abbrev s_put_key : Stmt := topS 26
theorem sc_put_key : FnScope ["table", "key", "value"] ["table", "key", "value"] (defScope s_put_key) := ⟨rfl, rfl, rfl, by decide +kernel, rfl, by decide +kernel, by decide +kernel⟩
abbrev s_make_list : Stmt := topS 27
theorem sc_make_list : FnScope ["store", "values"] ["store", "values"] (defScope s_make_list) := ⟨rfl, rfl, rfl, by decide +kernel, rfl, by decide +kernel, by decide +kernel⟩
abbrev s_make_map : Stmt := topS 28
theorem sc_make_map : FnScope ["store", "pairs", "table", "key", "value"] ["store", "pairs"] (defScope s_make_map) := ⟨rfl, rfl, rfl, by decide +kernel, rfl, by decide +kernel, by decide +kernel⟩
abbrev s_make_cursor : Stmt := topS 29
theorem sc_make_cursor : FnScope ["store", "x", "thing", "at", "pair"] ["store", "x"] (defScope s_make_cursor) := ⟨rfl, rfl, rfl, by decide +kernel, rfl, by decide +kernel, by decide +kernel⟩
abbrev s_next_of : Stmt := topS 30
theorem sc_next_of : FnScope ["store", "ref", "cursor", "first"] ["store", "ref"] (defScope s_next_of) := ⟨rfl, rfl, rfl, by decide +kernel, rfl, by decide +kernel, by decide +kernel⟩
abbrev s_law_cell : Stmt := topS 32
theorem sc_law_cell : FnScope ["script", "k"] ["script", "k"] (defScope s_law_cell) := ⟨rfl, rfl, rfl, by decide +kernel, rfl, by decide +kernel, by decide +kernel⟩
abbrev s_law_begin : Stmt := topS 33
theorem sc_law_begin : FnScope ["script", "k"] ["script", "k"] (defScope s_law_begin) := ⟨rfl, rfl, rfl, by decide +kernel, rfl, by decide +kernel, by decide +kernel⟩
abbrev s_law_draw : Stmt := topS 34
theorem sc_law_draw : FnScope ["state", "many", "k", "cell", "prime", "mixed", "digit"] ["state", "many"] (defScope s_law_draw) := ⟨rfl, rfl, rfl, by decide +kernel, rfl, by decide +kernel, by decide +kernel⟩
abbrev s_law_pick : Stmt := topS 35
theorem sc_law_pick : FnScope ["state", "row"] ["state", "row"] (defScope s_law_pick) := ⟨rfl, rfl, rfl, by decide +kernel, rfl, by decide +kernel, by decide +kernel⟩
abbrev s_law_source : Stmt := topS 36
theorem sc_law_source : FnScope ["store", "state", "kind", "row", "text", "k", "keys", "key"] ["store", "state"] (defScope s_law_source) := ⟨rfl, rfl, rfl, by decide +kernel, rfl, by decide +kernel, by decide +kernel⟩
abbrev s_law_same : Stmt := topS 37
theorem sc_law_same : FnScope ["told", "due", "k"] ["told", "due"] (defScope s_law_same) := ⟨rfl, rfl, rfl, by decide +kernel, rfl, by decide +kernel, by decide +kernel⟩
abbrev s_law_spoilt : Stmt := topS 38
theorem sc_law_spoilt : FnScope ["store", "value", "state", "thing"] ["store", "value", "state"] (defScope s_law_spoilt) := ⟨rfl, rfl, rfl, by decide +kernel, rfl, by decide +kernel, by decide +kernel⟩
abbrev s_law_refused : Stmt := topS 39
theorem sc_law_refused : FnScope ["store", "many", "value", "kind", "told", "e"] ["store"] (defScope s_law_refused) := ⟨rfl, rfl, rfl, by decide +kernel, rfl, by decide +kernel, by decide +kernel⟩
abbrev s_law : Stmt := topS 40
theorem sc_law : FnScope ["script", "state", "store", "rows", "k", "value", "due", "many", "ref", "row", "kind", "double", "told"] ["script"] (defScope s_law) := ⟨rfl, rfl, rfl, by decide +kernel, rfl, by decide +kernel, by decide +kernel⟩
structure Cs where
  Ref : Addr
  Builtin : Addr
  Parts : Addr
  Table : Addr
  Instance : Addr
  Kin : Addr
  Cursor : Addr
  Store : Addr
  LivequillError : Addr
  ScriptError : Addr
theorem keyEq : (("__eq__" : Str) == "name") = false ∧ ¬ (("__eq__" : Str) = "name") ∧ (("__eq__" : Str) == "number") = false ∧ ¬ (("__eq__" : Str) = "number") ∧ (("__init__" : Str) == "_rows") = false ∧ ¬ (("__init__" : Str) = "_rows") ∧ (("__init__" : Str) == "held") = false ∧ ¬ (("__init__" : Str) = "held") ∧ (("__init__" : Str) == "lines") = false ∧ ¬ (("__init__" : Str) = "lines") ∧ (("__init__" : Str) == "methods") = false ∧ ¬ (("__init__" : Str) = "methods") ∧ (("__init__" : Str) == "name") = false ∧ ¬ (("__init__" : Str) = "name") ∧ (("__init__" : Str) == "named") = false ∧ ¬ (("__init__" : Str) = "named") ∧ (("__init__" : Str) == "number") = false ∧ ¬ (("__init__" : Str) = "number") ∧ (("__init__" : Str) == "output") = false ∧ ¬ (("__init__" : Str) = "output") ∧ (("__init__" : Str) == "owner") = false ∧ ¬ (("__init__" : Str) = "owner") ∧ (("__init__" : Str) == "parent") = false ∧ ¬ (("__init__" : Str) = "parent") ∧ (("__init__" : Str) == "rest") = false ∧ ¬ (("__init__" : Str) = "rest") ∧ (("__init__" : Str) == "taken") = false ∧ ¬ (("__init__" : Str) = "taken") ∧ (("__init__" : Str) == "things") = false ∧ ¬ (("__init__" : Str) = "things") ∧ (("at" : Str) == "lines") = false ∧ ¬ (("at" : Str) = "lines") ∧ (("at" : Str) == "output") = false ∧ ¬ (("at" : Str) = "output") ∧ (("at" : Str) == "taken") = false ∧ ¬ (("at" : Str) = "taken") ∧ (("at" : Str) == "things") = false ∧ ¬ (("at" : Str) = "things") ∧ (("fork" : Str) == "_rows") = false ∧ ¬ (("fork" : Str) = "_rows") ∧ (("fork" : Str) == "held") = false ∧ ¬ (("fork" : Str) = "held") ∧ (("fork" : Str) == "lines") = false ∧ ¬ (("fork" : Str) = "lines") ∧ (("fork" : Str) == "methods") = false ∧ ¬ (("fork" : Str) = "methods") ∧ (("fork" : Str) == "name") = false ∧ ¬ (("fork" : Str) = "name") ∧ (("fork" : Str) == "named") = false ∧ ¬ (("fork" : Str) = "named") ∧ (("fork" : Str) == "output") = false ∧ ¬ (("fork" : Str) = "output") ∧ (("fork" : Str) == "owner") = false ∧ ¬ (("fork" : Str) = "owner") ∧ (("fork" : Str) == "parent") = false ∧ ¬ (("fork" : Str) = "parent") ∧ (("fork" : Str) == "rest") = false ∧ ¬ (("fork" : Str) = "rest") ∧ (("fork" : Str) == "taken") = false ∧ ¬ (("fork" : Str) = "taken") ∧ (("fork" : Str) == "things") = false ∧ ¬ (("fork" : Str) = "things") ∧ (("has" : Str) == "_rows") = false ∧ ¬ (("has" : Str) = "_rows") ∧ (("kind" : Str) == "message") = false ∧ ¬ (("kind" : Str) = "message") ∧ (("lines" : Str) == "output") = false ∧ ¬ (("lines" : Str) = "output") ∧ (("lines" : Str) == "taken") = false ∧ ¬ (("lines" : Str) = "taken") ∧ (("lines" : Str) == "things") = false ∧ ¬ (("lines" : Str) = "things") ∧ (("make" : Str) == "lines") = false ∧ ¬ (("make" : Str) = "lines") ∧ (("make" : Str) == "output") = false ∧ ¬ (("make" : Str) = "output") ∧ (("make" : Str) == "taken") = false ∧ ¬ (("make" : Str) = "taken") ∧ (("make" : Str) == "things") = false ∧ ¬ (("make" : Str) = "things") ∧ (("many" : Str) == "_rows") = false ∧ ¬ (("many" : Str) = "_rows") ∧ (("message" : Str) == "kind") = false ∧ ¬ (("message" : Str) = "kind") ∧ (("methods" : Str) == "name") = false ∧ ¬ (("methods" : Str) = "name") ∧ (("methods" : Str) == "parent") = false ∧ ¬ (("methods" : Str) = "parent") ∧ (("name" : Str) == "methods") = false ∧ ¬ (("name" : Str) = "methods") ∧ (("name" : Str) == "parent") = false ∧ ¬ (("name" : Str) = "parent") ∧ (("named" : Str) == "owner") = false ∧ ¬ (("named" : Str) = "owner") ∧ (("output" : Str) == "lines") = false ∧ ¬ (("output" : Str) = "lines") ∧ (("output" : Str) == "taken") = false ∧ ¬ (("output" : Str) = "taken") ∧ (("output" : Str) == "things") = false ∧ ¬ (("output" : Str) = "things") ∧ (("owner" : Str) == "named") = false ∧ ¬ (("owner" : Str) = "named") ∧ (("pairs" : Str) == "_rows") = false ∧ ¬ (("pairs" : Str) = "_rows") ∧ (("parent" : Str) == "methods") = false ∧ ¬ (("parent" : Str) = "methods") ∧ (("parent" : Str) == "name") = false ∧ ¬ (("parent" : Str) = "name") ∧ (("put" : Str) == "_rows") = false ∧ ¬ (("put" : Str) = "_rows") ∧ (("take_out" : Str) == "_rows") = false ∧ ¬ (("take_out" : Str) = "_rows") ∧ (("taken" : Str) == "lines") = false ∧ ¬ (("taken" : Str) = "lines") ∧ (("taken" : Str) == "output") = false ∧ ¬ (("taken" : Str) = "output") ∧ (("taken" : Str) == "things") = false ∧ ¬ (("taken" : Str) = "things") ∧ (("things" : Str) == "lines") = false ∧ ¬ (("things" : Str) = "lines") ∧ (("things" : Str) == "output") = false ∧ ¬ (("things" : Str) = "output") ∧ (("things" : Str) == "taken") = false ∧ ¬ (("things" : Str) = "taken") ∧ (("value_of" : Str) == "_rows") = false ∧ ¬ (("value_of" : Str) = "_rows") := by (repeat' apply And.intro) <;> decide +kernel
--!raised ScriptError
--!raises check_parts checked_key put_key make_list make_map make_cursor
--!none range len int isinstance bool list tuple str abs min max dict
structure Txt (K : PySem.W.Frag) (mg : Str → Option Value) (c : Cs) : Prop where
  no_abs : mg "abs" = none
  no_bool : mg "bool" = none
  no_dict : mg "dict" = none
  no_int : mg "int" = none
  no_isinstance : mg "isinstance" = none
  no_len : mg "len" = none
  no_list : mg "list" = none
  no_max : mg "max" = none
  no_min : mg "min" = none
  no_range : mg "range" = none
  no_str : mg "str" = none
  no_tuple : mg "tuple" = none
  g_ERROR : ∃ t, mg "ERROR" = some (.str "Error" t)
  g_MOST_PARTS : ∃ t, mg "MOST_PARTS" = some (.int 1000 t)
  mg_Ref : mg "Ref" = some (.ref c.Ref)
  cl_Ref : Cls K c.Ref
  mk_Ref : MkAt K mg "Ref" c.Ref
  mg_Builtin : mg "Builtin" = some (.ref c.Builtin)
  cl_Builtin : Cls K c.Builtin
  mk_Builtin : MkAt K mg "Builtin" c.Builtin
  mg_Parts : mg "Parts" = some (.ref c.Parts)
  cl_Parts : Cls K c.Parts
  mk_Parts : MkAt K mg "Parts" c.Parts
  mg_Table : mg "Table" = some (.ref c.Table)
  cl_Table : Cls K c.Table
  mk_Table : MkAt K mg "Table" c.Table
  mg_Instance : mg "Instance" = some (.ref c.Instance)
  cl_Instance : Cls K c.Instance
  mk_Instance : MkAt K mg "Instance" c.Instance
  mg_Kin : mg "Kin" = some (.ref c.Kin)
  cl_Kin : Cls K c.Kin
  mk_Kin : MkAt K mg "Kin" c.Kin
  mg_Cursor : mg "Cursor" = some (.ref c.Cursor)
  cl_Cursor : Cls K c.Cursor
  mk_Cursor : MkAt K mg "Cursor" c.Cursor
  mg_Store : mg "Store" = some (.ref c.Store)
  cl_Store : Cls K c.Store
  mk_Store : MkAt K mg "Store" c.Store
  pl__rows : Plain K [c.Table] "_rows"
  pl_held : Plain K [c.Parts] "held"
  pl_lines : Plain K [c.Store] "lines"
  pl_methods : Plain K [c.Kin] "methods"
  pl_name : Plain K [c.Builtin, c.Kin] "name"
  pl_named : Plain K [c.Instance] "named"
  pl_number : Plain K [c.Ref] "number"
  pl_output : Plain K [c.Store] "output"
  pl_owner : Plain K [c.Instance] "owner"
  pl_parent : Plain K [c.Kin] "parent"
  pl_rest : Plain K [c.Cursor] "rest"
  pl_taken : Plain K [c.Store] "taken"
  pl_things : Plain K [c.Store] "things"
  xpl_kind : XPlain K [c.ScriptError] "kind"
  xpl_message : XPlain K [c.ScriptError] "message"
  xf : ∀ C ∈ [c.LivequillError, c.ScriptError], ExcFact K C
  mg_LivequillError : mg "LivequillError" = some (.ref c.LivequillError)
  mg_ScriptError : mg "ScriptError" = some (.ref c.ScriptError)
  xn_kind_ScriptError : PySem.W.findIn K (.ref c.ScriptError) "kind" = some none
  xn_message_ScriptError : PySem.W.findIn K (.ref c.ScriptError) "message" = some none
  em_ScriptError_ScriptError : PySem.W.exmOne K (.ref c.ScriptError) (.ref c.ScriptError) = some true
  ob : ObjFact K
  kit : Kit K [c.Ref, c.Builtin, c.Parts, c.Table, c.Instance, c.Kin, c.Cursor, c.Store] [c.Ref, c.Parts, c.Table, c.Instance, c.Kin, c.Builtin]
  ne : (c.Ref = c.Builtin) = False ∧ (c.Ref = c.Parts) = False ∧ (c.Ref = c.Table) = False ∧ (c.Ref = c.Instance) = False ∧ (c.Ref = c.Kin) = False ∧ (c.Ref = c.Cursor) = False ∧ (c.Ref = c.Store) = False ∧ (c.Builtin = c.Ref) = False ∧ (c.Builtin = c.Parts) = False ∧ (c.Builtin = c.Table) = False ∧ (c.Builtin = c.Instance) = False ∧ (c.Builtin = c.Kin) = False ∧ (c.Builtin = c.Cursor) = False ∧ (c.Builtin = c.Store) = False ∧ (c.Parts = c.Ref) = False ∧ (c.Parts = c.Builtin) = False ∧ (c.Parts = c.Table) = False ∧ (c.Parts = c.Instance) = False ∧ (c.Parts = c.Kin) = False ∧ (c.Parts = c.Cursor) = False ∧ (c.Parts = c.Store) = False ∧ (c.Table = c.Ref) = False ∧ (c.Table = c.Builtin) = False ∧ (c.Table = c.Parts) = False ∧ (c.Table = c.Instance) = False ∧ (c.Table = c.Kin) = False ∧ (c.Table = c.Cursor) = False ∧ (c.Table = c.Store) = False ∧ (c.Instance = c.Ref) = False ∧ (c.Instance = c.Builtin) = False ∧ (c.Instance = c.Parts) = False ∧ (c.Instance = c.Table) = False ∧ (c.Instance = c.Kin) = False ∧ (c.Instance = c.Cursor) = False ∧ (c.Instance = c.Store) = False ∧ (c.Kin = c.Ref) = False ∧ (c.Kin = c.Builtin) = False ∧ (c.Kin = c.Parts) = False ∧ (c.Kin = c.Table) = False ∧ (c.Kin = c.Instance) = False ∧ (c.Kin = c.Cursor) = False ∧ (c.Kin = c.Store) = False ∧ (c.Cursor = c.Ref) = False ∧ (c.Cursor = c.Builtin) = False ∧ (c.Cursor = c.Parts) = False ∧ (c.Cursor = c.Table) = False ∧ (c.Cursor = c.Instance) = False ∧ (c.Cursor = c.Kin) = False ∧ (c.Cursor = c.Store) = False ∧ (c.Store = c.Ref) = False ∧ (c.Store = c.Builtin) = False ∧ (c.Store = c.Parts) = False ∧ (c.Store = c.Table) = False ∧ (c.Store = c.Instance) = False ∧ (c.Store = c.Kin) = False ∧ (c.Store = c.Cursor) = False
section
variable {P : Program} {w : World} {K : PySem.W.Frag} {mg : Str → Option Value} {base : Heap} {c : Cs}
/-- the law's own state: a number, a place, the script; H0: the heap at the law's start -/
structure Dr (K : PySem.W.Frag) (H0 : Hp) (s sc : Addr) (ns : List Int) (H : Hp) : Prop where
  st : ∃ a k : Int, H s = some (.lst [.int a, .int k, .ref sc]) ∧ 0 ≤ a ∧ 0 ≤ k
  sq : SqL K H0 sc (ns.map V.int)
  sm : Same H0 H
  nw : H0 s = none
  le : ns.length ≤ 63
theorem same_keep {H0 H H' : Hp} {ps : List Addr} (s : Same H0 H) (k : Keep ps H H') (n : ∀ q ∈ ps, H0 q = none) : Same H0 H' := fun a o e => k a o (fun m => by rw [n a m] at e; cases e) (s a o e)
theorem Dr.keep {H0 : Hp} {s sc : Addr} {ns : List Int} {ps : List Addr} {H H' : Hp} (d : Dr K H0 s sc ns H) (k : Keep ps H H') (n1 : s ∉ ps) (n2 : ∀ q ∈ ps, H0 q = none) : Dr K H0 s sc ns H' := by
  obtain ⟨a, j, e, h1, h2⟩ := d.st
  exact ⟨⟨a, j, k _ _ n1 e, h1, h2⟩, d.sq, same_keep d.sm k n2, d.nw, d.le⟩
theorem Dr.same {H0 : Hp} {s sc : Addr} {ns : List Int} {H H' : Hp} (d : Dr K H0 s sc ns H) (k : Same H H') : Dr K H0 s sc ns H' := d.keep (Keep.of (ps := []) k) (by simp) (fun _ h => by cases h)
def spCell (K : PySem.W.Frag) : Sp := fun vs H Q _ => match vs with
  | [.ref a, .int k] => ∃ ns : List Int, SqL K H a (ns.map V.int) ∧ ns.length ≤ 63 ∧ 0 ≤ k ∧ ∀ v : Int, Q (.int v) H
  | _ => False
theorem ok_cell (A : At K mg "_law_cell" "_law_cell" s_law_cell ["script", "k"]) (T : Txt K mg c) : Has P w K mg base CX0 "_law_cell" 1 ["script", "k"] (spCell K) := by
  have Sc := sc_law_cell
  refine has_of A Sc (fun vs H Q E h => ?_) (fun cdv f A outer s H vs Q E hr h => ?_)
  · unfold spCell at h; split at h; rfl; cases h
  · unfold spCell at h
    split at h
    · rename_i a k
      obtain ⟨ns, hS, hn, h0, kk⟩ := h
      refine ⟨_, (pss_cons (ps_if (pt_cmpR op_fLt (fe_var 1) (pe_callB call_fLen (by rfl) T.no_len (by decide +kernel) (pa_cons (fe_var 0) pa_nil)) (nomark _)) (pss_one (ps_ret (pe_ix ix_fx (fe_var 0) (fe_var 1) (fun _ _ => rfl)))) pss_nil)
      (pss_one (ps_ret pe_int))), ?_⟩
      walk_at "fx0"
      walk_at "fx"
      refine ifs_ ?_
      walk_at "fx"
      refine ⟨_, .inl hS, ?_⟩
      rw [List.length_map]
      split
      · rename_i hlt
        obtain ⟨z, ez⟩ := at_ints (ns := ns) (i := k) h0 hlt
        exact ⟨_, .inl hS, _, ez, kk z⟩
      · exact kk 0
    · cases h
def spBegin (K : PySem.W.Frag) : Sp := fun vs H Q _ => match vs with
  | [.ref a, .int k] => 0 ≤ k ∧ ∀ s H1, H s = none → Same H H1 → H1 s = some (.lst [.int 0, .int k, .ref a]) → Q (.ref s) H1
  | _ => False
theorem ok_begin (A : At K mg "_law_begin" "_law_begin" s_law_begin ["script", "k"]) (T : Txt K mg c) : Has P w K mg base CX0 "_law_begin" 1 ["script", "k"] (spBegin K) := by
  have Sc := sc_law_begin
  refine has_of A Sc (fun vs H Q E h => ?_) (fun cdv f A outer s H vs Q E hr h => ?_)
  · unfold spBegin at h; split at h; rfl; cases h
  · unfold spBegin at h
    split at h
    · rename_i a k
      obtain ⟨h0, kk⟩ := h
      refine ⟨_, (pss_one (ps_ret (fe_lst (pa_cons pe_int (pa_cons (fe_var 1) (pa_cons (fe_var 0) pa_nil)))))), ?_⟩
      walk_at "fx0"
      walk_at "fx"
      exact kk
    · cases h
def spDraw (K : PySem.W.Frag) : Sp := fun vs H Q _ => match vs with
  | [.ref s, .int m] => ∃ H0 sc ns, Dr K H0 s sc ns H ∧ 0 < m ∧ m < 1000000000000000000000000000000 ∧ ∀ H1 (d : Int), Keep [s] H H1 → Dr K H0 s sc ns H1 → 0 ≤ d → d < m → Q (.int d) H1
  | _ => False
theorem big_mul {i : Int} (h0 : 0 ≤ i) (h : i < 2 ^ 100) : IntMulOk i i := by
  have b : Builtin.Int.intBits i ≤ 128 := by
    unfold Builtin.Int.intBits
    by_cases hz : i = 0
    · subst hz; decide
    · rw [if_neg (by simpa using hz)]
      have : i.natAbs.log2 < 100 := (Nat.log2_lt (by omega)).mpr (by omega)
      omega
  exact IntMulOk.of_le b b (by decide)
theorem ok_draw (A : At K mg "_law_draw" "_law_draw" s_law_draw ["state", "many"]) (T : Txt K mg c) (H_law_cell : Has P w K mg base CX0 "_law_cell" 1 ["script", "k"] (spCell K)) : Has P w K mg base CX0 "_law_draw" 2 ["state", "many"] (spDraw K) := by
  have Sc := sc_law_draw
  refine has_of A Sc (fun vs H Q E h => ?_) (fun cdv f A outer s H vs Q E hr h => ?_)
  · unfold spDraw at h; split at h; rfl; cases h
  · unfold spDraw at h
    split at h
    · rename_i st m
      obtain ⟨H0, sc, ns, D, h0, h1, kk⟩ := h
      obtain ⟨x, k, es, hx, hk⟩ := D.st
      refine ⟨_, (pss_cons (ps_if (pt_cmpR op_fLt (pe_ix ix_fx (fe_var 0) pe_int (fun _ _ => rfl)) (fe_var 1) (nomark _)) (pss_cons (ps_set (i := 2) Sc.nd rfl (.inl rfl) (pe_ix ix_fx (fe_var 0) pe_int (fun _ _ => rfl)))
      (pss_cons (ps_set (i := 3) Sc.nd rfl (.inl rfl) (fe_call H_law_cell (hr.mono (by walk_at "rm")) (by rfl) pass0 (pa_cons (pe_ix ix_fx (fe_var 0) pe_int (fun _ _ => rfl)) (pa_cons (fe_var 2) pa_nil))))
      (pss_cons (ps_set (i := 4) Sc.nd rfl (.inl rfl) pe_int)
      (pss_cons (ps_asg (pe_op op_fAdd (fe_var 2) pe_int) (pg_sub (fe_var 0) pe_int set_fx))
      (pss_cons (ps_asg (pe_callB call_fAbs (by rfl) T.no_abs (by decide +kernel) (pa_cons (fe_var 3) pa_nil)) (pg_sub (fe_var 0) pe_int set_fx))
      (pss_one (ps_if (pt_chain op_fLt op_fLt (pe_un un_fNeg pe_int) (fe_var 3) pe_int) (pss_cons (ps_set (i := 5) Sc.nd rfl (.inl rfl) (pe_op op_fMod (pe_callTy call_fInt (by rfl) T.no_int (by decide +kernel) (pa_cons (pe_op op_fAdd (pe_op op_fMul (fe_var 3) pe_int) (pe_op op_fMul (pe_op op_fAdd (fe_var 2) pe_int) pe_int)) pa_nil)) (fe_var 4)))
      (pss_one (ps_asg (pe_op op_fAdd (pe_op op_fMod (pe_callTy call_fInt (by rfl) T.no_int (by decide +kernel) (pa_cons (pe_op op_fAdd (pe_op op_fAdd (pe_op op_fMul (fe_var 5) (fe_var 5)) (pe_op op_fMul pe_int (fe_var 5))) (fe_var 2)) pa_nil)) (fe_var 4)) (fe_var 4)) (pg_sub (fe_var 0) pe_int set_fx)))) pss_nil))))))) pss_nil)
      (pss_cons (ps_set (i := 6) Sc.nd rfl (.inl rfl) (pe_op op_fMod (pe_callTy call_fInt (by rfl) T.no_int (by decide +kernel) (pa_cons (pe_ix ix_fx (fe_var 0) pe_int (fun _ _ => rfl)) pa_nil)) (fe_var 1)))
      (pss_cons (ps_asg (pe_op op_fDiv (pe_ix ix_fx (fe_var 0) pe_int (fun _ _ => rfl)) (fe_var 1)) (pg_sub (fe_var 0) pe_int set_fx))
      (pss_one (ps_ret (fe_var 6)))))), ?_⟩
      walk_at "fx0"
      walk_at "fx"
      refine cut_ fun N hN => ifs_ ?_
      walk_at "fx"
      refine ⟨_, rl_l es, _, atI_nat (j := 0) rfl, ?_⟩
      walk_at "fx"
      have fin : ∀ (y : Int) (k' : Int) (v2 v3 v4 v5 : Option V) (H1 : Hp), Keep [st] H H1 → H1 st = some (.lst [.int y, .int k', .ref sc]) → 0 ≤ y → 0 ≤ k' → N [some (.ref st), some (.int m), v2, v3, v4, v5, none] H1 := by
        intro y k' v3 v4 v5 v6 H1 kp e1 g0 g1
        refine hN _ _ ?_
        walk_at "fx"
        refine ⟨_, rl_l e1, _, atI_nat (j := 0) rfl, h0, _, rl_l e1, _, atI_nat (j := 0) rfl, wide_div (b := 100) h0 (by omega) (by decide) (by decide), ?_⟩
        rw [e1]
        refine ⟨0, rfl, ?_⟩
        have kp2 : Keep [st] H (upd H1 st (.lst ([V.int y, .int k', .ref sc].set 0 (.int (y / m))))) := kp.upd (by simp)
        exact kk _ _ kp2 ⟨⟨y / m, k', upd_same, Int.ediv_nonneg g0 (by omega), g1⟩, D.sq, same_keep D.sm kp2 (by intro q hq; rw [List.mem_singleton.mp hq]; exact D.nw), D.nw, D.le⟩ (emod_lo y h0) (emod_hi y h0)
      split
      · refine ⟨_, rl_l es, _, atI_nat (j := 1) rfl, _, rl_l es, _, atI_nat (j := 2) rfl, ?_⟩
        unfold spCell
        refine ⟨ns, D.sm.seq D.sq, D.le, hk, fun v => ?_⟩
        walk_at "fx"
        simp only [es]
        walk_at "fx"
        refine ⟨1, rfl, 0, rfl, ?_⟩
        refine ifs_ ?_
        walk_at "fx"
        have kp : Keep [st] H (upd (upd H st (.lst [.int x, .int (k + 1), .ref sc])) st (.lst [.int (if v < 0 then -v else v), .int (k + 1), .ref sc])) := (Keep.refl.upd (by simp)).upd (by simp)
        have ha : 0 ≤ (if v < 0 then -v else v) := by split <;> omega
        split
        · split
          · have g0 := emod_lo (v * 2654435761 + (k + 1) * 6700417) (m := 618970019642690137449562111) (by decide)
            have g1 := emod_hi (v * 2654435761 + (k + 1) * 6700417) (m := 618970019642690137449562111) (by decide)
            generalize (v * 2654435761 + (k + 1) * 6700417) % 618970019642690137449562111 = y at g0 g1
            have g2 := emod_lo (y * y + 7 * y + k) (m := 618970019642690137449562111) (by decide)
            refine ⟨by walk_at "mul", by walk_at "mul", big_mul g0 (by omega), by walk_at "mul", 0, rfl, ?_⟩
            exact fin _ (k + 1) _ _ _ _ _ (kp.upd (by simp)) upd_same (by omega) (by omega)
          · exact fin _ (k + 1) _ _ _ _ _ kp upd_same ha (by omega)
        · exact fin _ (k + 1) _ _ _ _ _ kp upd_same ha (by omega)
      · exact fin x k _ _ _ _ H Keep.refl es hx hk
    · cases h
end

section
variable {P : Program} {w : World} {K : PySem.W.Frag} {mg : Str → Option Value} {base : Heap} {c : Cs}
def spPick (K : PySem.W.Frag) : Sp := fun vs H Q _ => match vs with
  | [.ref s, .ref r] => ∃ H0 sc ns xs, Dr K H0 s sc ns H ∧ (∀ H1, Keep [s] H H1 → Rl K H1 r xs) ∧ 0 < xs.length ∧ xs.length ≤ 100000 ∧ ∀ H1 v, Keep [s] H H1 → Dr K H0 s sc ns H1 → v ∈ xs → Q v H1
  | _ => False
theorem ok_pick (A : At K mg "_law_pick" "_law_pick" s_law_pick ["state", "row"]) (T : Txt K mg c) (H_law_draw : Has P w K mg base CX0 "_law_draw" 2 ["state", "many"] (spDraw K)) : Has P w K mg base CX0 "_law_pick" 3 ["state", "row"] (spPick K) := by
  have Sc := sc_law_pick
  refine has_of A Sc (fun vs H Q E h => ?_) (fun cdv f A outer s H vs Q E hr h => ?_)
  · unfold spPick at h; split at h; rfl; cases h
  · unfold spPick at h
    split at h
    · rename_i st r
      obtain ⟨H0, sc, ns, xs, D, hr1, h0, h1, kk⟩ := h
      refine ⟨_, (pss_one (ps_ret (pe_ix ix_fx (fe_var 1) (fe_call H_law_draw (hr.mono (by walk_at "rm")) (by rfl) pass0 (pa_cons (fe_var 0) (pa_cons (pe_callB call_fLen (by rfl) T.no_len (by decide +kernel) (pa_cons (fe_var 1) pa_nil)) pa_nil))) (fun _ _ => rfl)))), ?_⟩
      walk_at "fx0"
      walk_at "fx"
      refine ⟨_, hr1 H Keep.refl, ?_⟩
      unfold spDraw
      refine ⟨H0, sc, ns, D, by omega, by omega, fun H1 d kp D1 d0 d1 => ?_⟩
      obtain ⟨v, hv, ev⟩ := at_vs (xs := xs) d0 d1
      exact ⟨_, hr1 H1 kp, v, ev, kk H1 v kp D1 hv⟩
    · cases h
end

section
variable {P : Program} {w : World} {K : PySem.W.Frag} {mg : Str → Option Value} {base : Heap} {c : Cs}
def spMk_Ref (K : PySem.W.Frag) (c : Cs) : Sp := fun vs H Q _ => match vs with
  | [v_number] => ∀ y dx H1, H y = none → Same H H1 → H1 y = some (.ins c.Ref dx [("number", v_number)]) → Q (.ref y) H1
  | _ => False
theorem mk_Ref (A : AtM K c.Ref "__init__" "Ref.__init__" s_Ref___init__ ["self", "number"]) (T : Txt K mg c) : HasC P w K mg base CX0 c.Ref "Ref" 1 ["self", "number"] (spMk_Ref K c) := by
  have Sc := sc_Ref___init__
  refine hasC_of T.mk_Ref A Sc (fun vs H Q E h => ?_) (fun cdv f A outer s H vs Q E y dx H0 hr h hy hs h0 => ?_)
  · unfold spMk_Ref at h; split at h; rfl; cases h
  · unfold spMk_Ref at h
    split at h
    · rename_i v_number
      refine ⟨_, (pss_one (fs_fld (fe_var 0) (fe_var 1) T.pl_number rfl)), ?_⟩
      walk_at "fx0"
      walk_at "ox"
      simp only [h0]
      walk_at "ox"
      first
        | exact h y dx _ hy (mk_same hs hy) upd_same
        | exact ⟨by decide, h y dx _ hy (mk_same hs hy) upd_same⟩
    · cases h
def spMk_Builtin (K : PySem.W.Frag) (c : Cs) : Sp := fun vs H Q _ => match vs with
  | [v_name] => ∀ y dx H1, H y = none → Same H H1 → H1 y = some (.ins c.Builtin dx [("name", v_name)]) → Q (.ref y) H1
  | _ => False
theorem mk_Builtin (A : AtM K c.Builtin "__init__" "Builtin.__init__" s_Builtin___init__ ["self", "name"]) (T : Txt K mg c) : HasC P w K mg base CX0 c.Builtin "Builtin" 1 ["self", "name"] (spMk_Builtin K c) := by
  have Sc := sc_Builtin___init__
  refine hasC_of T.mk_Builtin A Sc (fun vs H Q E h => ?_) (fun cdv f A outer s H vs Q E y dx H0 hr h hy hs h0 => ?_)
  · unfold spMk_Builtin at h; split at h; rfl; cases h
  · unfold spMk_Builtin at h
    split at h
    · rename_i v_name
      refine ⟨_, (pss_one (fs_fld (fe_var 0) (fe_var 1) T.pl_name rfl)), ?_⟩
      walk_at "fx0"
      walk_at "ox"
      simp only [h0]
      walk_at "ox"
      first
        | exact h y dx _ hy (mk_same hs hy) upd_same
        | exact ⟨by decide, h y dx _ hy (mk_same hs hy) upd_same⟩
    · cases h
def spMk_Instance (K : PySem.W.Frag) (c : Cs) : Sp := fun vs H Q _ => match vs with
  | [v_owner] => ∀ y dx p_named H1, H y = none → Same H H1 → H1 y = some (.ins c.Instance dx [("owner", v_owner), ("named", (.ref p_named))]) → H p_named = none → H1 p_named = some (.dK []) → p_named ≠ y → Q (.ref y) H1
  | _ => False
theorem mk_Instance (A : AtM K c.Instance "__init__" "Instance.__init__" s_Instance___init__ ["self", "owner"]) (T : Txt K mg c) : HasC P w K mg base CX0 c.Instance "Instance" 1 ["self", "owner"] (spMk_Instance K c) := by
  have Sc := sc_Instance___init__
  refine hasC_of T.mk_Instance A Sc (fun vs H Q E h => ?_) (fun cdv f A outer s H vs Q E y dx H0 hr h hy hs h0 => ?_)
  · unfold spMk_Instance at h; split at h; rfl; cases h
  · unfold spMk_Instance at h
    split at h
    · rename_i v_owner
      refine ⟨_, (pss_cons (fs_fld (fe_var 0) (fe_var 1) T.pl_owner rfl)
      (pss_one (fs_fld (fe_var 0) fe_dnew T.pl_named rfl))), ?_⟩
      walk_at "fx0"
      walk_at "ox"
      simp only [h0]
      walk_at "ox"
      intro p_named G_named n_named s_named e_named
      have ny_named : p_named ≠ y := fun q => by rw [q, upd_same] at n_named; cases n_named
      have y_named := s_named _ _ (upd_same)
      have t_named := (mk_same hs hy).trans s_named
      have f_named := Same.free (mk_same hs hy) n_named
      simp only [y_named]
      walk_at "ox"
      first
        | exact h y dx p_named _ hy (mk_same t_named hy) upd_same f_named ((upd_ne ny_named).trans e_named) ny_named
        | exact ⟨by decide, h y dx p_named _ hy (mk_same t_named hy) upd_same f_named ((upd_ne ny_named).trans e_named) ny_named⟩
    · cases h
def spMk_Kin (K : PySem.W.Frag) (c : Cs) : Sp := fun vs H Q _ => match vs with
  | [v_name, v_parent] => ∀ y dx p_methods H1, H y = none → Same H H1 → H1 y = some (.ins c.Kin dx [("name", v_name), ("parent", v_parent), ("methods", (.ref p_methods))]) → H p_methods = none → H1 p_methods = some (.dK []) → p_methods ≠ y → Q (.ref y) H1
  | _ => False
theorem mk_Kin (A : AtM K c.Kin "__init__" "Kin.__init__" s_Kin___init__ ["self", "name", "parent"]) (T : Txt K mg c) : HasC P w K mg base CX0 c.Kin "Kin" 1 ["self", "name", "parent"] (spMk_Kin K c) := by
  have Sc := sc_Kin___init__
  refine hasC_of T.mk_Kin A Sc (fun vs H Q E h => ?_) (fun cdv f A outer s H vs Q E y dx H0 hr h hy hs h0 => ?_)
  · unfold spMk_Kin at h; split at h; rfl; cases h
  · unfold spMk_Kin at h
    split at h
    · rename_i v_name v_parent
      refine ⟨_, (pss_cons (fs_fld (fe_var 0) (fe_var 1) T.pl_name rfl)
      (pss_cons (fs_fld (fe_var 0) (fe_var 2) T.pl_parent rfl)
      (pss_one (fs_fld (fe_var 0) fe_dnew T.pl_methods rfl)))), ?_⟩
      walk_at "fx0"
      walk_at "ox"
      simp only [h0]
      walk_at "ox"
      intro p_methods G_methods n_methods s_methods e_methods
      have ny_methods : p_methods ≠ y := fun q => by rw [q, upd_same] at n_methods; cases n_methods
      have y_methods := s_methods _ _ (upd_same)
      have t_methods := (mk_same hs hy).trans s_methods
      have f_methods := Same.free (mk_same hs hy) n_methods
      simp only [y_methods]
      walk_at "ox"
      first
        | exact h y dx p_methods _ hy (mk_same t_methods hy) upd_same f_methods ((upd_ne ny_methods).trans e_methods) ny_methods
        | exact ⟨by decide, h y dx p_methods _ hy (mk_same t_methods hy) upd_same f_methods ((upd_ne ny_methods).trans e_methods) ny_methods⟩
    · cases h
def spMk_Parts (K : PySem.W.Frag) (c : Cs) : Sp := fun vs H Q _ => match vs with
  | [.ref v_held] => ∃ xs_held, Rl K H v_held xs_held ∧ ∀ y dx p_held H1, H y = none → Same H H1 → H1 y = some (.ins c.Parts dx [("held", (.ref p_held))]) → H p_held = none → H1 p_held = some (.lst xs_held) → p_held ≠ y → Q (.ref y) H1
  | _ => False
theorem mk_Parts (A : AtM K c.Parts "__init__" "Parts.__init__" s_Parts___init__ ["self", "held"]) (T : Txt K mg c) : HasC P w K mg base CX0 c.Parts "Parts" 1 ["self", "held"] (spMk_Parts K c) := by
  have Sc := sc_Parts___init__
  refine hasC_of T.mk_Parts A Sc (fun vs H Q E h => ?_) (fun cdv f A outer s H vs Q E y dx H0 hr h hy hs h0 => ?_)
  · unfold spMk_Parts at h; split at h; rfl; cases h
  · unfold spMk_Parts at h
    split at h
    · rename_i v_held
      obtain ⟨xs_held, r_held, h⟩ := h
      refine ⟨_, (pss_one (fs_fld (fe_var 0) (pe_callTy call_fListOf (by rfl) T.no_list (by decide +kernel) (pa_cons (fe_var 1) pa_nil)) T.pl_held rfl)), ?_⟩
      walk_at "fx0"
      walk_at "ox"
      refine ⟨_, rl_keep (hs) r_held, ?_⟩
      intro p_held G_held n_held s_held e_held
      have ny_held : p_held ≠ y := fun q => by rw [q, h0] at n_held; cases n_held
      have y_held := s_held _ _ (h0)
      have t_held := (hs).trans s_held
      have f_held := Same.free (hs) n_held
      simp only [y_held]
      walk_at "ox"
      first
        | exact h y dx p_held _ hy (mk_same t_held hy) upd_same f_held ((upd_ne ny_held).trans e_held) ny_held
        | exact ⟨by decide, h y dx p_held _ hy (mk_same t_held hy) upd_same f_held ((upd_ne ny_held).trans e_held) ny_held⟩
    · cases h
def spMk_Cursor (K : PySem.W.Frag) (c : Cs) : Sp := fun vs H Q _ => match vs with
  | [.ref v_rest] => ∃ xs_rest, Rl K H v_rest xs_rest ∧ ∀ y dx p_rest H1, H y = none → Same H H1 → H1 y = some (.ins c.Cursor dx [("rest", (.ref p_rest))]) → H p_rest = none → H1 p_rest = some (.lst xs_rest) → p_rest ≠ y → Q (.ref y) H1
  | _ => False
theorem mk_Cursor (A : AtM K c.Cursor "__init__" "Cursor.__init__" s_Cursor___init__ ["self", "rest"]) (T : Txt K mg c) : HasC P w K mg base CX0 c.Cursor "Cursor" 1 ["self", "rest"] (spMk_Cursor K c) := by
  have Sc := sc_Cursor___init__
  refine hasC_of T.mk_Cursor A Sc (fun vs H Q E h => ?_) (fun cdv f A outer s H vs Q E y dx H0 hr h hy hs h0 => ?_)
  · unfold spMk_Cursor at h; split at h; rfl; cases h
  · unfold spMk_Cursor at h
    split at h
    · rename_i v_rest
      obtain ⟨xs_rest, r_rest, h⟩ := h
      refine ⟨_, (pss_one (fs_fld (fe_var 0) (pe_callTy call_fListOf (by rfl) T.no_list (by decide +kernel) (pa_cons (fe_var 1) pa_nil)) T.pl_rest rfl)), ?_⟩
      walk_at "fx0"
      walk_at "ox"
      refine ⟨_, rl_keep (hs) r_rest, ?_⟩
      intro p_rest G_rest n_rest s_rest e_rest
      have ny_rest : p_rest ≠ y := fun q => by rw [q, h0] at n_rest; cases n_rest
      have y_rest := s_rest _ _ (h0)
      have t_rest := (hs).trans s_rest
      have f_rest := Same.free (hs) n_rest
      simp only [y_rest]
      walk_at "ox"
      first
        | exact h y dx p_rest _ hy (mk_same t_rest hy) upd_same f_rest ((upd_ne ny_rest).trans e_rest) ny_rest
        | exact ⟨by decide, h y dx p_rest _ hy (mk_same t_rest hy) upd_same f_rest ((upd_ne ny_rest).trans e_rest) ny_rest⟩
    · cases h
theorem mkE_ScriptError (A : AtE K c.ScriptError "ScriptError.__init__" s_ScriptError___init__ ["self", "kind", "message"]) (T : Txt K mg c) : HasE P w K mg base c.ScriptError "ScriptError" 2 (two "kind" "message") :=
  hasE2 A sc_ScriptError___init__ rfl (T.xf _ (by simp)) T.xn_kind_ScriptError T.xn_message_ScriptError T.mg_ScriptError (by decide) (by decide) (by decide) (by decide)
end
section
variable {P : Program} {w : World} {K : PySem.W.Frag} {mg : Str → Option Value} {base : Heap} {c : Cs}
/-- the content of a key's tuple -/
def kxs (v : V) : List V := match v with
  | .bl _ => [.str "boolean", v]
  | _ => [.str "key", v]
def kN (v : V) : NestedKey := tupK (kxs v)
theorem kxs_sc {v : V} (h : scV v = true) : (kxs v).all scV = true := by cases v <;> first | rfl | cases h
theorem leaf_bl {p q : Bool} (h : leafK (.bl p) = leafK (.bl q)) : p = q := by
  have h' := NestedKey.num.inj (show NestedKey.num (if p = true then 1 else 0) = .num (if q = true then 1 else 0) from h)
  cases p <;> cases q <;> first
    | rfl
    | exact absurd h' (by decide)
theorem leafK_inj {x y : V} (hx : scV x = true) (hy : scV y = true) (b : (∃ p, x = .bl p) ↔ ∃ p, y = .bl p) (h : leafK x = leafK y) : x = y := by
  cases x <;> cases y <;> first
    | rfl
    | (exact congrArg V.bl (leaf_bl h))
    | (cases hx; done)
    | (cases hy; done)
    | (exact absurd (b.mp ⟨_, rfl⟩) (fun ⟨_, z⟩ => by cases z))
    | (exact absurd (b.mpr ⟨_, rfl⟩) (fun ⟨_, z⟩ => by cases z))
    | (cases h; done)
    | (cases h; rfl)
def tagV : V → Str
  | .bl _ => "boolean"
  | _ => "key"
theorem kN_inj {x y : V} (hx : scV x = true) (hy : scV y = true) (h : kN x = kN y) : x = y := by
  have h' := NestedKey.tup.inj (show NestedKey.tup ((kxs x).map leafK) = .tup ((kxs y).map leafK) from h)
  have e : ∀ v : V, (kxs v).map leafK = [.text (tagV v), leafK v] := fun v => by cases v <;> rfl
  rw [e, e] at h'
  have ht := NestedKey.text.inj (List.cons.inj h').1
  have hl := (List.cons.inj (List.cons.inj h').2).1
  refine leafK_inj hx hy ?_ hl
  have n1 : ¬ ((Str.ofString "boolean") = Str.ofString "key") := by decide +kernel
  have n2 : ¬ ((Str.ofString "key") = Str.ofString "boolean") := by decide +kernel
  cases x <;> cases y <;> first
    | (exact absurd ht n1)
    | (exact absurd ht n2)
    | (simp; done)
/-- the entries of a table: keys and values in order -/
def RowE (H : Hp) (e : NEnt) (r : V × V) : Prop := e.1 = kN r.1 ∧ scV r.1 = true ∧ ∃ tp, e.2.2 = .ref tp ∧ H tp = some (.tup [r.1, r.2])
structure TabR (w : World) (H : Hp) (d : Addr) (rows : List (V × V)) : Prop where
  ex : ∃ es, DN w H d es ∧ H d = some (nkO w d es) ∧ Paired (RowE H) es rows
  nd : (rows.map (·.1)).Nodup
def IsTab (c : Cs) (H : Hp) (a d : Addr) : Prop := ∃ dx, H a = some (.ins c.Table dx [("_rows", .ref d)])
theorem IsTab.same {H H' : Hp} {a d : Addr} (h : IsTab c H a d) (s : Same H H') : IsTab c H' a d := h.imp fun _ e => s _ _ e
theorem RowE.mono {H H' : Hp} {e : NEnt} {r : V × V} (h : RowE H e r) (s : ∀ b xs, H b = some (.tup xs) → H' b = some (.tup xs)) : RowE H' e r := ⟨h.1, h.2.1, h.2.2.imp fun _ ⟨x, y⟩ => ⟨x, s _ _ y⟩⟩
theorem TabR.mono {H H' : Hp} {d : Addr} {rows : List (V × V)} (h : TabR w H d rows) (hd : ∀ o, H d = some o → H' d = some o) (s : ∀ b xs, H b = some (.tup xs) → H' b = some (.tup xs)) : TabR w H' d rows := by
  obtain ⟨⟨es, D, e0, r⟩, nd⟩ := h
  exact ⟨⟨es, ⟨.inl (hd _ e0), fun e he => (D.ks e he).mono s⟩, hd _ e0, Paired.mapP r fun _ _ q => q.mono s⟩, nd⟩
theorem TabR.same {H H' : Hp} {d : Addr} {rows : List (V × V)} (h : TabR w H d rows) (s : Same H H') : TabR w H' d rows := h.mono (fun _ e => s _ _ e) fun _ _ e => s _ _ e
/-- behind a change of something that is no tuple, elsewhere -/
theorem TabR.keep {H H' : Hp} {d : Addr} {rows : List (V × V)} {ps : List Addr} (h : TabR w H d rows) (k : Keep ps H H') (n : d ∉ ps) (nt : ∀ p ∈ ps, ∀ xs, H p ≠ some (.tup xs)) : TabR w H' d rows :=
  h.mono (fun _ e => k _ _ n e) fun b xs e => k _ _ (fun m => nt b m xs e) e
def rowAt (rows : List (V × V)) (k : V) : Option V := (rows.find? fun r => decide (r.1 = k)).map (·.2)
def putR (rows : List (V × V)) (k v : V) : List (V × V) := if (rowAt rows k).isSome = true then rows.map (fun r => if r.1 = k then (k, v) else r) else rows ++ [(k, v)]
def dropR (rows : List (V × V)) (k : V) : List (V × V) := rows.filter fun r => decide (r.1 ≠ k)
theorem rows_at {H : Hp} {k : V} (hk : scV k = true) : ∀ {es : List NEnt} {rows : List (V × V)}, Paired (RowE H) es rows → match atN es (kN k), rowAt rows k with
    | some (.ref tp), some v => H tp = some (.tup [k, v])
    | none, none => True
    | _, _ => False := by
  intro es rows h
  induction h with
  | nil => exact trivial
  | @cons e r es rows h t ih =>
    obtain ⟨h1, h2, tp, h3, h4⟩ := h
    by_cases q : r.1 = k
    · have a : atN (e :: es) (kN k) = some e.2.2 := by simp [atN, List.find?_cons, h1, q]
      have b : rowAt (r :: rows) k = some r.2 := by simp [rowAt, List.find?_cons, q]
      rw [a, b, h3]
      rw [q] at h4
      exact h4
    · have nq : ¬ e.1 = kN k := fun z => q (kN_inj h2 hk (h1.symm.trans z))
      have a : atN (e :: es) (kN k) = atN es (kN k) := by simp [atN, List.find?_cons, nq]
      have b : rowAt (r :: rows) k = rowAt rows k := by simp [rowAt, List.find?_cons, q]
      rw [a, b]
      exact ih
theorem rows_some {H : Hp} {k : V} (hk : scV k = true) {es : List NEnt} {rows : List (V × V)} (h : Paired (RowE H) es rows) : (atN es (kN k)).isSome = (rowAt rows k).isSome := by
  have := rows_at hk h
  split at this
  · rename_i e1 e2; rw [e1, e2]; rfl
  · rename_i e1 e2; rw [e1, e2]
  · exact this.elim
theorem rows_put {H : Hp} {k v : V} {q tp : Addr} (hk : scV k = true) (ht : H tp = some (.tup [k, v])) {es : List NEnt} {rows : List (V × V)} (h : Paired (RowE H) es rows) : Paired (RowE H) (putN es (kN k) q (.ref tp)) (putR rows k v) := by
  unfold putN putR
  rw [rows_some hk h]
  split
  · rename_i hs
    clear hs
    induction h with
    | nil => exact .nil
    | @cons e r es rows h t ih =>
      rw [List.map_cons, List.map_cons]
      refine .cons ?_ ih
      obtain ⟨h1, h2, h3⟩ := h
      by_cases z : r.1 = k
      · rw [if_pos z, if_pos (by rw [h1, z])]
        exact ⟨by rw [h1, z], hk, tp, rfl, ht⟩
      · rw [if_neg z, if_neg (fun w => z (kN_inj h2 hk (h1.symm.trans w)))]
        exact ⟨h1, h2, h3⟩
  · exact Paired.snoc h ⟨rfl, hk, tp, rfl, ht⟩
theorem rows_drop {H : Hp} {k : V} (hk : scV k = true) {es : List NEnt} {rows : List (V × V)} (h : Paired (RowE H) es rows) : Paired (RowE H) (dropN es (kN k)) (dropR rows k) := by
  unfold dropN dropR
  induction h with
  | nil => exact .nil
  | @cons e r es rows h t ih =>
    obtain ⟨h1, h2, h3⟩ := h
    rw [List.filter_cons, List.filter_cons]
    by_cases z : r.1 = k
    · rw [if_neg (by simp [h1, z]), if_neg (by simp [z])]
      exact ih
    · rw [if_pos (by simpa using fun w => z (kN_inj h2 hk (h1.symm.trans w))), if_pos (by simp [z])]
      exact .cons ⟨h1, h2, h3⟩ ih
theorem rowAt_mem {rows : List (V × V)} {k : V} : (rowAt rows k).isSome = true ↔ k ∈ rows.map (·.1) := by
  unfold rowAt
  rw [Option.isSome_map, List.find?_isSome]
  simp
theorem putR_nd {rows : List (V × V)} {k v : V} (h : (rows.map (·.1)).Nodup) : ((putR rows k v).map (·.1)).Nodup := by
  unfold putR
  split
  · have e : (rows.map fun r => if r.1 = k then (k, v) else r).map (·.1) = rows.map (·.1) := by
      rw [List.map_map]
      refine List.map_congr_left fun r _ => ?_
      show (if r.1 = k then (k, v) else r).1 = r.1
      split
      · rename_i z; exact z.symm
      · rfl
    rw [e]; exact h
  · rename_i z
    rw [rowAt_mem] at z
    rw [List.map_append, List.nodup_append]
    refine ⟨h, by simp, fun a ha b hb e => ?_⟩
    simp at hb
    subst hb
    subst e
    exact z ha
theorem dropR_nd {rows : List (V × V)} {k : V} (h : (rows.map (·.1)).Nodup) : ((dropR rows k).map (·.1)).Nodup := (List.filter_sublist.map _).nodup h
theorem rows_get {H : Hp} : ∀ {es : List NEnt} {rows : List (V × V)}, Paired (RowE H) es rows → (rows.map (·.1)).Nodup → ∀ {i : Nat} {x : NEnt}, es[i]? = some x → atN es x.1 = some x.2.2 := by
  intro es rows h
  induction h with
  | nil => intro _ i x hx; simp at hx
  | @cons e r es rows h t ih =>
    intro nd i x hx
    obtain ⟨h1, h2, h3⟩ := h
    rw [List.map_cons, List.nodup_cons] at nd
    cases i with
    | zero =>
      simp at hx
      subst hx
      simp [atN, List.find?_cons]
    | succ j =>
      simp at hx
      obtain ⟨r', hr', k1, k2, k3⟩ := paired_get t hx
      have ne : ¬ e.1 = x.1 := fun z => by
        rw [h1, k1] at z
        have := kN_inj h2 k2 z
        exact nd.1 (by rw [this]; exact List.mem_map_of_mem (List.mem_of_getElem? hr'))
      have a : atN (e :: es) x.1 = atN es x.1 := by simp [atN, List.find?_cons, ne]
      rw [a]
      exact ih nd.2 hx
theorem rowAt_get : ∀ {rows : List (V × V)}, (rows.map (·.1)).Nodup → ∀ {i : Nat} {r : V × V}, rows[i]? = some r → rowAt rows r.1 = some r.2
  | [], _, i, r, h => by simp at h
  | q :: rows, nd, 0, r, h => by
    simp at h
    subst h
    simp [rowAt, List.find?_cons]
  | q :: rows, nd, i + 1, r, h => by
    simp at h
    rw [List.map_cons, List.nodup_cons] at nd
    have ne : ¬ q.1 = r.1 := fun z => nd.1 (by rw [z]; exact List.mem_map_of_mem (List.mem_of_getElem? h))
    have a : rowAt (q :: rows) r.1 = rowAt rows r.1 := by simp [rowAt, List.find?_cons, ne]
    rw [a]
    exact rowAt_get nd.2 h
theorem map_off {rows : List (V × V)} {k v : V} (h : k ∉ rows.map (·.1)) : (rows.map fun r => if r.1 = k then (k, v) else r) = rows := by
  induction rows with
  | nil => rfl
  | cons r rows ih =>
    rw [List.map_cons, List.mem_cons, not_or] at h
    rw [List.map_cons, if_neg (Ne.symm h.1), ih h.2]
theorem drop_off {rows : List (V × V)} {k : V} (h : k ∉ rows.map (·.1)) : dropR rows k = rows := by
  unfold dropR
  rw [List.filter_eq_self]
  intro r hr
  exact decide_eq_true fun e => h (by rw [← e]; exact List.mem_map_of_mem hr)
/-- where a key stands -/
theorem row_cases (k : V) : ∀ {rows : List (V × V)}, (rows.map (·.1)).Nodup → (∃ i r, rows[i]? = some r ∧ r.1 = k ∧ rows.findIdx? (fun r => decide (r.1 = k)) = some i ∧ (rowAt rows k).isSome = true ∧ dropR rows k = rows.eraseIdx i ∧ ∀ v, putR rows k v = rows.set i (k, v)) ∨
    (rows.findIdx? (fun r => decide (r.1 = k)) = none ∧ (rowAt rows k).isSome = false ∧ k ∉ rows.map (·.1) ∧ ∀ v, putR rows k v = rows ++ [(k, v)])
  | [], _ => .inr ⟨rfl, rfl, by simp, fun v => rfl⟩
  | r :: rows, nd => by
    rw [List.map_cons, List.nodup_cons] at nd
    by_cases e : r.1 = k
    · have hno : k ∉ rows.map (·.1) := by rw [← e]; exact nd.1
      have hs : (rowAt (r :: rows) k).isSome = true := by simp [rowAt, List.find?_cons, e]
      refine .inl ⟨0, r, rfl, e, by simp [List.findIdx?_cons, e], hs, ?_, fun v => ?_⟩
      · have : dropR (r :: rows) k = dropR rows k := by
          unfold dropR
          rw [List.filter_cons, if_neg (by simp [e])]
        rw [this, drop_off hno]
        rfl
      · unfold putR
        rw [if_pos hs, List.map_cons, if_pos e, map_off hno]
        rfl
    · have hs : (rowAt (r :: rows) k) = rowAt rows k := by simp [rowAt, List.find?_cons, e]
      rcases row_cases k nd.2 with ⟨i, r', h1, h2, h3, h4, h5, h6⟩ | ⟨h3, h4, hno, h6⟩
      · refine .inl ⟨i + 1, r', h1, h2, by simp [List.findIdx?_cons, e, h3], by rw [hs]; exact h4, ?_, fun v => ?_⟩
        · have : dropR (r :: rows) k = r :: dropR rows k := by
            unfold dropR
            rw [List.filter_cons, if_pos (by simp [e])]
          rw [this, h5]
          first | rfl | skip
        · have := h6 v
          unfold putR at this ⊢
          rw [if_pos h4] at this
          rw [hs, if_pos h4, List.map_cons, if_neg e, this]
          try rfl
      · refine .inr ⟨by simp [List.findIdx?_cons, e, h3], by rw [hs]; exact h4, by rw [List.map_cons, List.mem_cons, not_or]; exact ⟨Ne.symm e, hno⟩, fun v => ?_⟩
        unfold putR
        rw [hs, if_neg (by rw [h4]; decide)]
        try rfl
theorem paired_erase {α β : Type} {F : α → β → Prop} {xs : List α} {ys : List β} (h : Paired F xs ys) : ∀ i : Nat, Paired F (xs.eraseIdx i) (ys.eraseIdx i) := by
  induction h with
  | nil => intro i; exact .nil
  | cons r t ih =>
    intro i
    cases i with
    | zero => exact t
    | succ j => exact .cons r (ih j)
theorem paired_set {α β : Type} {F : α → β → Prop} {xs : List α} {ys : List β} {a : α} {b : β} (h : Paired F xs ys) (hab : F a b) : ∀ i : Nat, Paired F (xs.set i a) (ys.set i b) := by
  induction h with
  | nil => intro i; exact .nil
  | cons r t ih =>
    intro i
    cases i with
    | zero => exact .cons hab t
    | succ j => exact .cons r (ih j)
theorem putR_len (rows : List (V × V)) (k v : V) : (putR rows k v).length ≤ rows.length + 1 := by
  unfold putR
  split
  · rw [List.length_map]; omega
  · rw [List.length_append]; exact Nat.le_refl _
end

section
variable {P : Program} {w : World} {K : PySem.W.Frag} {mg : Str → Option Value} {base : Heap} {c : Cs}
def spMkTab (w : World) (c : Cs) : Sp := fun vs H Q _ => match vs with
  | [] => ∀ y d H1, H y = none → H d = none → Same H H1 → IsTab c H1 y d → TabR w H1 d [] → Q (.ref y) H1
  | _ => False
theorem ok_mktab (A : AtM K c.Table "__init__" "Table.__init__" s_Table___init__ ["self"]) (T : Txt K mg c) : HasC P w K mg base CX0 c.Table "Table" 1 ["self"] (spMkTab w c) := by
  have Sc := sc_Table___init__
  refine hasC_of T.mk_Table A Sc (fun vs H Q E h => ?_) (fun cdv f A outer s H vs Q E y dx H0 hr h hy hs h0 => ?_)
  · unfold spMkTab at h; split at h; rfl; cases h
  · unfold spMkTab at h
    split at h
    · refine ⟨_, (pss_one (fs_fld (fe_var 0) (pe_newN (w := w) rfl) T.pl__rows rfl)), ?_⟩
      walk_at "fx0"
      walk_at "ox"
      intro d H1 nd s1 e1
      have ny : d ≠ y := fun q => by rw [q, h0] at nd; cases nd
      have ey := s1 _ _ h0
      simp only [ey]
      walk_at "ox"
      first
        | exact h y d _ hy (hs.free nd) (mk_same (hs.trans s1) hy) ⟨dx, upd_same⟩ ⟨⟨[], ⟨.inl ((upd_ne ny).trans e1), fun _ z => by cases z⟩, (upd_ne ny).trans e1, .nil⟩, List.nodup_nil⟩
        | exact ⟨by decide, h y d _ hy (hs.free nd) (mk_same (hs.trans s1) hy) ⟨dx, upd_same⟩ ⟨⟨[], ⟨.inl ((upd_ne ny).trans e1), fun _ z => by cases z⟩, (upd_ne ny).trans e1, .nil⟩, List.nodup_nil⟩⟩
    · cases h
def spKeyOf : Sp := fun vs H Q _ => match vs with
  | [v] => scV v = true ∧ ∀ q H1, H q = none → Same H H1 → isKey H1 q (kxs v) → Q (.ref q) H1
  | _ => False
theorem ok_keyof (A : At K mg "key_of" "key_of" s_key_of ["value"]) (T : Txt K mg c) : Has P w K mg base CX0 "key_of" 1 ["value"] spKeyOf := by
  have Sc := sc_key_of
  refine has_of A Sc (fun vs H Q E h => ?_) (fun cdv f A outer s H vs Q E hr h => ?_)
  · unfold spKeyOf at h; split at h; rfl; cases h
  · unfold spKeyOf at h
    split at h
    · rename_i v
      obtain ⟨hv, h⟩ := h
      refine ⟨_, (pss_cons (ps_if (pt_val (pe_callB (call_fIsiA T.kit) (by rfl) T.no_isinstance (by decide +kernel) (pa_cons (fe_var 0) (pa_cons (fe_ty (n := "bool") (by rfl) T.no_bool (by decide +kernel)) pa_nil)))) (pss_one (ps_ret (fe_tup (pa_cons pe_str (pa_cons (fe_var 0) pa_nil))))) pss_nil)
      (pss_one (ps_ret (fe_tup (pa_cons pe_str (pa_cons (fe_var 0) pa_nil)))))), ?_⟩
      walk_at "fx0"
      cases v <;> first
        | (cases hv; done)
        | (repeat (walk_at "oxs")
           intro q H1 nq sm eq
           exact h q H1 nq sm ⟨eq, rfl⟩)
    · cases h
def spHas (w : World) (c : Cs) : Sp := fun vs H Q _ => match vs with
  | [.ref a, v] => ∃ d rows, IsTab c H a d ∧ TabR w H d rows ∧ scV v = true ∧ ∀ H1, Same H H1 → Q (.bl (rowAt rows v).isSome) H1
  | _ => False
theorem ok_has (A : AtM K c.Table "has" "Table.has" s_Table_has ["self", "key"]) (T : Txt K mg c) (H_key_of : Has P w K mg base CX0 "key_of" 1 ["value"] spKeyOf) : HasM P w K mg base CX0 c.Table "has" 2 ["self", "key"] (spHas w c) := by
  have Sc := sc_Table_has
  refine hasM_of A Sc (fun vs H Q E h => ?_) (fun cdv f A outer s H vs Q E hr h => ?_)
  · unfold spHas at h; split at h; rfl; cases h
  · unfold spHas at h
    split at h
    · rename_i a v
      obtain ⟨d, rows, ⟨dx, ea⟩, TR, hv, h⟩ := h
      refine ⟨_, (pss_one (ps_ret (pe_cmp (pc_inN (w := w) rfl hr.units (fe_call H_key_of (hr.mono (by walk_at "rm")) (by rfl) pass0 (pa_cons (fe_var 1) pa_nil)) (fe_fld (fe_var 0) T.pl__rows rfl))))), ?_⟩
      walk_at "fx0"
      walk_at "ox"
      refine ⟨hv, fun q H1 nq s1 kq => ?_⟩
      have ea1 := s1 _ _ ea
      simp only [ea1]
      walk_at "ox"
      obtain ⟨⟨es, D, e0, r⟩, nd⟩ := TR.same s1
      refine ⟨es, D, _, kq, ?_⟩
      have e := rows_some hv r
      unfold kN at e
      rw [e]
      exact h H1 s1
    · cases h
def spValOf (w : World) (c : Cs) : Sp := fun vs H Q _ => match vs with
  | [.ref a, v] => ∃ d rows x, IsTab c H a d ∧ TabR w H d rows ∧ scV v = true ∧ rowAt rows v = some x ∧ ∀ H1, Same H H1 → Q x H1
  | _ => False

def spPut (w : World) (c : Cs) : Sp := fun vs H Q _ => match vs with
  | [.ref a, k, v] => ∃ d rows, IsTab c H a d ∧ TabR w H d rows ∧ scV k = true ∧ rows.length < 100000 ∧ ∀ H1, Keep [d] H H1 → TabR w H1 d (putR rows k v) → Q .non H1
  | _ => False
theorem DN.upd {H : Hp} {d : Addr} {es es' : List NEnt} (D : DN w H d es) (e0 : H d = some (nkO w d es)) (sub : ∀ e ∈ es', KeyT H e.1 e.2.1) : DN w (upd H d (nkO w d es')) d es' :=
  ⟨.inl upd_same, fun e he => (sub e he).mono fun b xs eb => by rw [upd_ne (ne_of eb e0 (Ne.symm nkO_ne_tup))]; exact eb⟩
theorem putN_mem {es : List NEnt} {k : NestedKey} {q : Addr} {v : V} {e : NEnt} (h : e ∈ putN es k q v) : (∃ e0 ∈ es, e.1 = e0.1 ∧ e.2.1 = e0.2.1) ∨ (e.1 = k ∧ e.2.1 = q) := by
  unfold putN at h
  split at h
  · obtain ⟨e0, he, rfl⟩ := List.mem_map.mp h
    refine .inl ⟨e0, he, ?_⟩
    split <;> exact ⟨rfl, rfl⟩
  · rcases List.mem_append.mp h with h | h
    · exact .inl ⟨e, h, rfl, rfl⟩
    · rw [List.mem_singleton.mp h]; exact .inr ⟨rfl, rfl⟩
theorem ok_put (A : AtM K c.Table "put" "Table.put" s_Table_put ["self", "key", "value"]) (T : Txt K mg c) (H_key_of : Has P w K mg base CX0 "key_of" 1 ["value"] spKeyOf) : HasM P w K mg base CX0 c.Table "put" 2 ["self", "key", "value"] (spPut w c) := by
  have Sc := sc_Table_put
  refine hasM_of A Sc (fun vs H Q E h => ?_) (fun cdv f A outer s H vs Q E hr h => ?_)
  · unfold spPut at h; split at h; rfl; cases h
  · unfold spPut at h
    split at h
    · rename_i a k v
      obtain ⟨d, rows, ⟨dx, ea⟩, TR, hk, hl, h⟩ := h
      refine ⟨_, (pss_one (ps_putN (w := w) rfl hr.units (fe_fld (fe_var 0) T.pl__rows rfl) (fe_call H_key_of (hr.mono (by walk_at "rm")) (by rfl) pass0 (pa_cons (fe_var 1) pa_nil)) (fe_tup (pa_cons (fe_var 1) (pa_cons (fe_var 2) pa_nil))) rfl)), ?_⟩
      walk_at "fx0"
      walk_at "ox"
      intro tp H1 ntp s1 etp
      have ea1 := s1 _ _ ea
      simp only [ea1]
      walk_at "ox"
      refine ⟨hk, fun q H2 nq s2 kq => ?_⟩
      obtain ⟨⟨es, D, e0, r⟩, nd⟩ := TR.same (s1.trans s2)
      have hle : es.length = rows.length := Paired.length r
      refine ⟨es, D, e0, _, kq, len_line' (by omega), ?_⟩
      have ne : ∀ b xs, H2 b = some (.tup xs) → upd H2 d (nkO w d (putN es (tupK (kxs k)) q (.ref tp))) b = some (.tup xs) := fun b xs eb => by
        rw [upd_ne (ne_of eb e0 (Ne.symm nkO_ne_tup))]; exact eb
      refine h _ ((Keep.of (s1.trans s2)).upd (by simp)) ⟨⟨_, DN.upd D e0 (fun e he => ?_), upd_same, Paired.mapP (rows_put (q := q) hk (s2 _ _ etp) r) fun _ _ z => z.mono ne⟩, putR_nd nd⟩
      rcases putN_mem he with ⟨e', he', h1, h2⟩ | ⟨h1, h2⟩
      · rw [h1, h2]; exact D.ks e' he'
      · rw [h1, h2]; exact kq.t
    · cases h
def spTake (w : World) (c : Cs) : Sp := fun vs H Q _ => match vs with
  | [.ref a, k] => ∃ d rows, IsTab c H a d ∧ TabR w H d rows ∧ scV k = true ∧ (rowAt rows k).isSome = true ∧ ∀ H1, Keep [d] H H1 → TabR w H1 d (dropR rows k) → Q .non H1
  | _ => False

def spMany (w : World) (c : Cs) : Sp := fun vs H Q _ => match vs with
  | [.ref a] => ∃ d rows, IsTab c H a d ∧ TabR w H d rows ∧ Q (.int rows.length) H
  | _ => False
theorem ok_many (A : AtP K c.Table "many" "Table.many" s_Table_many ["self"]) (T : Txt K mg c) : HasP P w K mg base CX0 c.Table "many" 1 ["self"] (spMany w c) := by
  have Sc := sc_Table_many
  refine hasP_of A Sc (fun vs H Q E h => ?_) (fun cdv f A outer s H vs Q E hr h => ?_)
  · unfold spMany at h; split at h; rfl; cases h
  · unfold spMany at h
    split at h
    · rename_i a
      obtain ⟨d, rows, ⟨dx, ea⟩, ⟨⟨es, D, e0, r⟩, nd⟩, h⟩ := h
      refine ⟨_, (pss_one (ps_ret (pe_callB (call_fLenN (w := w) rfl) (by rfl) T.no_len (by decide +kernel) (pa_cons (fe_fld (fe_var 0) T.pl__rows rfl) pa_nil)))), ?_⟩
      walk_at "fx0"
      walk_at "ox"
      simp only [ea]
      walk_at "ox"
      refine ⟨es, D, ?_⟩
      rw [show es.length = rows.length from Paired.length r]
      exact h
    · cases h
/-- the entries as tuples -/
def RowsT (H : Hp) (ts : List Addr) (rows : List (V × V)) : Prop := Paired (fun t r => H t = some (.tup [r.1, r.2])) ts rows
def spPairs (w : World) (c : Cs) : Sp := fun vs H Q _ => match vs with
  | [.ref a] => ∃ d rows, IsTab c H a d ∧ TabR w H d rows ∧ rows.length ≤ 100000 ∧ ∀ p ts H1, H p = none → Same H H1 → H1 p = some (.lst (ts.map V.ref)) → RowsT H1 ts rows → Q (.ref p) H1
  | _ => False
theorem paired_take {α β : Type} {F : α → β → Prop} {xs : List α} {ys : List β} (h : Paired F xs ys) {i : Nat} {x : α} (e : xs[i]? = some x) : ∃ y, ys[i]? = some y ∧ F x y := paired_get h e
theorem ok_pairs (A : AtM K c.Table "pairs" "Table.pairs" s_Table_pairs ["self"]) (T : Txt K mg c) : HasM P w K mg base CX0 c.Table "pairs" 1 ["self"] (spPairs w c) := by
  have Sc := sc_Table_pairs
  refine hasM_of A Sc (fun vs H Q E h => ?_) (fun cdv f A outer s H vs Q E hr h => ?_)
  · unfold spPairs at h; split at h; rfl; cases h
  · unfold spPairs at h
    split at h
    · rename_i a
      obtain ⟨d, rows, ⟨dx, ea⟩, ⟨⟨es, D, e0, r⟩, nd⟩, hl, h⟩ := h
      refine ⟨_, (pss_one (ps_ret (pe_lock (pe_lc (own := [("at", 1)]) (by rfl) Sc.nd (pi_keysN (w := w) rfl (fe_fld (fe_var 0) T.pl__rows rfl)) (blkOk_by (own := [("at", 1)]) (N := ["self", "at"]) (sc := defScope s_Table_pairs) (by decide +kernel)) (fun _ _ _ _ _ => (pg_name (i := 1) Sc.nd rfl (.inl rfl))) (fun _ _ _ _ _ => pts_nil) (fun _ _ _ _ _ => (pe_getN (w := w) rfl hr.units (fe_fld (fe_var 0) T.pl__rows rfl) (fe_var 1) (fun _ _ => rfl))))))), ?_⟩
      walk_at "fx0"
      refine ⟨d, _, e0, trivial, fun od => ?_⟩
      have nad : a ≠ d := fun q => by
        rw [q, e0] at ea
        have z' : HO.ext _ = HO.ins _ _ _ := Option.some.inj ea
        cases z'
      have ea1 : upd H d (.frz od (nkO w d es)) a = some (.ins c.Table dx [("_rows", .ref d)]) := (upd_ne nad).trans ea
      refine lc_ ?_
      repeat (first | walk_at "oxs" | simp only [ea1])
      refine ⟨od, es, rfl, fun D0 nD => ?_⟩
      have nDd : D0 ≠ d := fun q => by rw [q, upd_same] at nD; cases nD
      have nDH : H D0 = none := by rw [upd_ne nDd] at nD; exact nD
      have hle : es.length = rows.length := Paired.length r
      refine lcx_keysN (fun i H1 => H1 d = some (.frz od (nkO w d es)) ∧ (∀ b o, b ≠ d → H b = some o → H1 b = some o) ∧ ∃ ts : List Addr, H1 D0 = some (.lst (ts.map V.ref)) ∧ RowsT H ts (rows.take i)) ⟨?_, ?_, [], upd_same, .nil⟩ ?_ ?_ ?_
      · rw [upd_ne (Ne.symm nDd)]; exact upd_same
      · intro b o nb eb
        rw [upd_ne (ne_of_none eb nDH), upd_ne nb]
        exact eb
      · rintro i H1 _ ⟨h1, _⟩
        exact h1
      · rintro i x H1 hx ⟨h1, h2, ts, h3, h4⟩
        obtain ⟨row, hr1, k1, k2, tp, k3, k4⟩ := paired_get r hx
        obtain ⟨kxs', g1, g2, g3⟩ := D.ks x (List.mem_of_getElem? hx)
        have nx : x.2.1 ≠ d := fun q => by rw [q, e0] at g1; exact nkO_ne_tup (Option.some.inj g1)
        have ea2 := h2 _ _ nad ea
        repeat (first | walk_at "oxs" | simp only [ea2])
        refine ⟨es, ⟨.inr ⟨od, h1⟩, fun e he => ?_⟩, kxs', ⟨h2 _ _ nx g1, g2⟩, x.2.2, ?_, ?_⟩
        · obtain ⟨ys, y1, y2, y3⟩ := D.ks e he
          exact ⟨ys, h2 _ _ (fun q => by rw [q, e0] at y1; exact nkO_ne_tup (Option.some.inj y1)) y1, y2, y3⟩
        · rw [← g3]
          exact rows_get r nd hx
        · rw [k3]
          refine ⟨_, h3, len_line' ?_, ?_, ?_, ts ++ [tp], ?_, ?_⟩
          · have := Paired.length h4
            have hi := (List.getElem?_eq_some_iff.mp hx).1
            rw [List.length_take] at this
            rw [List.length_map]
            omega
          · rw [upd_ne (Ne.symm nDd)]; exact h1
          · intro b o nb eb
            rw [upd_ne (ne_of_none eb nDH)]
            exact h2 b o nb eb
          · rw [List.map_append]; rfl
          · have et : rows.take (i + 1) = rows.take i ++ [row] := by rw [List.take_add_one, hr1]; rfl
            rw [et]
            exact Paired.snoc h4 k4
      · rintro H1 ⟨h1, h2, ts, h3, h4⟩
        refine ⟨h1, ?_⟩
        have et : rows.take es.length = rows := by rw [hle]; exact List.take_length
        rw [et] at h4
        have sm : Same H (upd H1 d (nkO w d es)) := fun b o eb => by
          by_cases q : b = d
          · rw [q, upd_same, ← e0, ← q]; exact eb
          · rw [upd_ne q]; exact h2 b o q eb
        exact h D0 ts _ nDH sm (by rw [upd_ne nDd]; exact h3) (Paired.mapP h4 fun _ _ z => sm _ _ z)
    · cases h
end

section
variable {P : Program} {w : World} {K : PySem.W.Frag} {mg : Str → Option Value} {base : Heap} {c : Cs}
/-! ### the store as a model -/
/-- a value of the language: null, a boolean, an integer, a text, a built-in function, an object's number -/
inductive RV where
  | nul
  | boo (b : Bool)
  | num (n : Int)
  | txt (z : Str)
  | bt (z : Str)
  | ob (n : Nat)
  deriving DecidableEq
inductive Th where
  | parts (xs : List RV)
  | table (rows : List (RV × RV))
  | inst (owner : Nat) (fs : List (Str × RV))
  | kin (name : Str) (parent : Option Nat) (ms : List (Str × Nat))
  | clo (number wanted : Int) (scope : List Nat)
  | bound (owner fn : Nat)
  | var (v : RV)
  | cur (xs : List RV)
def IsRef (c : Cs) (H : Hp) (a : Addr) (n : Int) : Prop := ∃ dx, H a = some (.ins c.Ref dx [("number", .int n)])
def IsRefV (c : Cs) (H : Hp) (v : V) (n : Nat) : Prop := ∃ a, v = .ref a ∧ IsRef c H a (n : Nat)
def IsBt (c : Cs) (H : Hp) (a : Addr) (n : Str) : Prop := ∃ dx, H a = some (.ins c.Builtin dx [("name", .str n)])

def IsVal (c : Cs) (H : Hp) (v : V) : RV → Prop
  | .nul => v = .non
  | .boo b => v = .bl b
  | .num n => v = .int n
  | .txt z => v = .str z
  | .bt n => ∃ a, v = .ref a ∧ IsBt c H a n
  | .ob n => IsRefV c H v n
/-- what never changes: tuples, references, built-in functions -/
def Hard (c : Cs) (o : HO) : Prop := (∃ xs, o = .tup xs) ∨ (∃ dx fs, o = .ins c.Ref dx fs)
  ∨ (∃ dx fs, o = .ins c.Builtin dx fs)
def Soft (c : Cs) (H : Hp) (p : Addr) : Prop := ∀ o, H p = some o → ¬ Hard c o
theorem Hard.t (xs : List V) : Hard c (.tup xs) := .inl ⟨xs, rfl⟩

theorem Hard.r {dx : Addr} {fs : List (Str × V)} : Hard c (.ins c.Ref dx fs) := .inr (.inl ⟨dx, fs, rfl⟩)
theorem Hard.b {dx : Addr} {fs : List (Str × V)} : Hard c (.ins c.Builtin dx fs) := .inr (.inr ⟨dx, fs, rfl⟩)
/-- the hard things stay -/
def HardStay (c : Cs) (H H' : Hp) : Prop := ∀ a o, H a = some o → Hard c o → H' a = some o
theorem HardStay.same {H H' : Hp} (s : Same H H') : HardStay c H H' := fun a o e _ => s a o e
theorem HardStay.keep {H H' : Hp} {ps : List Addr} (k : Keep ps H H') (s : ∀ p ∈ ps, Soft c H p) : HardStay c H H' := fun a o e hd => k a o (fun m => s a m o e hd) e
theorem HardStay.trans {H H1 H2 : Hp} (h : HardStay c H H1) (g : HardStay c H1 H2) : HardStay c H H2 := fun a o e hd => g a o (h a o e hd) hd
theorem IsRef.hs {H H' : Hp} {a : Addr} {n : Int} (h : IsRef c H a n) (s : HardStay c H H') : IsRef c H' a n := h.imp fun _ e => s _ _ e Hard.r
theorem IsRef.same {H H' : Hp} {a : Addr} {n : Int} (h : IsRef c H a n) (s : Same H H') : IsRef c H' a n := h.imp fun _ e => s _ _ e
theorem IsRefV.hs {H H' : Hp} {v : V} {n : Nat} (h : IsRefV c H v n) (s : HardStay c H H') : IsRefV c H' v n := h.imp fun _ ⟨e, r⟩ => ⟨e, r.hs s⟩
theorem IsVal.hs {H H' : Hp} {v : V} {r : RV} (h : IsVal c H v r) (s : HardStay c H H') : IsVal c H' v r := by
  cases r <;> first
    | exact h
    | exact IsRefV.hs h s
    | (obtain ⟨a, e, dx, h⟩ := h; exact ⟨a, e, dx, s _ _ h Hard.b⟩)

theorem IsVal.same {H H' : Hp} {v : V} {r : RV} (h : IsVal c H v r) (s : Same H H') : IsVal c H' v r := h.hs (.same s)
abbrev VsAt (c : Cs) (H : Hp) : List V → List RV → Prop := Paired (IsVal c H)
theorem VsAt.hs {H H' : Hp} {xs : List V} {rs : List RV} (h : VsAt c H xs rs) (s : HardStay c H H') : VsAt c H' xs rs := Paired.mapP h fun _ _ z => z.hs s
abbrev RefsAt (c : Cs) (H : Hp) : List V → List Nat → Prop := Paired (IsRefV c H)
/-- an object of the store at a, its content at b -/
def ThAt (w : World) (c : Cs) (H : Hp) (a : Addr) (b : Option Addr) : Th → Prop
  | .parts rs => ∃ dx l xs, b = some l ∧ H a = some (.ins c.Parts dx [("held", .ref l)]) ∧ H l = some (.lst xs) ∧ VsAt c H xs rs
  | .table rows => ∃ d rws, b = some d ∧ IsTab c H a d ∧ TabR w H d rws ∧ Paired (fun x r => IsVal c H x.1 r.1 ∧ IsVal c H x.2 r.2) rws rows
  | .inst o fs => ∃ dx ra nd kvs, b = some nd ∧ H a = some (.ins c.Instance dx [("owner", .ref ra), ("named", .ref nd)]) ∧ IsRef c H ra (o : Nat) ∧ H nd = some (.dK kvs) ∧ Paired (fun (kv : Key × V) (f : Str × RV) => kv.1 = .inr f.1 ∧ IsVal c H kv.2 f.2) kvs fs
  | .kin n p ms => ∃ dx pv md kvs, b = some md ∧ H a = some (.ins c.Kin dx [("name", .str n), ("parent", pv), ("methods", .ref md)]) ∧ (match p with | none => pv = .non | some k => IsRefV c H pv k) ∧ H md = some (.dK kvs) ∧ Paired (fun (kv : Key × V) (f : Str × Nat) => kv.1 = .inr f.1 ∧ IsRefV c H kv.2 f.2) kvs ms

  | .cur rs => ∃ dx l xs, b = some l ∧ H a = some (.ins c.Cursor dx [("rest", .ref l)]) ∧ H l = some (.lst xs) ∧ VsAt c H xs rs

  | .clo _ _ _ => False
  | .bound _ _ => False
  | .var _ => False

def footT (a : Addr) (b : Option Addr) : List Addr := a :: b.toList
theorem ThAt.mono {H H' : Hp} {a : Addr} {b : Option Addr} {t : Th} (h : ThAt w c H a b t) (s : HardStay c H H') (ka : ∀ o, H a = some o → H' a = some o) (kb : ∀ q o, b = some q → H q = some o → H' q = some o) : ThAt w c H' a b t := by
  cases t with
  | parts rs => obtain ⟨dx, l, xs, rfl, e1, e2, e3⟩ := h; exact ⟨dx, l, xs, rfl, ka _ e1, kb _ _ rfl e2, e3.hs s⟩
  | table rows => obtain ⟨d, rws, rfl, ⟨dx, e1⟩, e2, e3⟩ := h; exact ⟨d, rws, rfl, ⟨dx, ka _ e1⟩, e2.mono (fun o e => kb _ _ rfl e) (fun q xs e => s _ _ e (Hard.t xs)), Paired.mapP e3 fun _ _ z => ⟨z.1.hs s, z.2.hs s⟩⟩
  | inst o fs => obtain ⟨dx, ra, nd, kvs, rfl, e1, e2, e3, e4⟩ := h; exact ⟨dx, ra, nd, kvs, rfl, ka _ e1, e2.hs s, kb _ _ rfl e3, Paired.mapP e4 fun _ _ z => ⟨z.1, z.2.hs s⟩⟩
  | kin n p ms => obtain ⟨dx, pv, md, kvs, rfl, e1, e2, e3, e4⟩ := h; exact ⟨dx, pv, md, kvs, rfl, ka _ e1, (by cases p with | none => exact e2 | some k => exact IsRefV.hs e2 s), kb _ _ rfl e3, Paired.mapP e4 fun _ _ z => ⟨z.1, z.2.hs s⟩⟩

  | cur rs => obtain ⟨dx, l, xs, rfl, e1, e2, e3⟩ := h; exact ⟨dx, l, xs, rfl, ka _ e1, kb _ _ rfl e2, e3.hs s⟩

  | clo _ _ _ => exact h.elim
  | bound _ _ => exact h.elim
  | var _ => exact h.elim

theorem ThAt.same {H H' : Hp} {a : Addr} {b : Option Addr} {t : Th} (h : ThAt w c H a b t) (s : Same H H') : ThAt w c H' a b t := h.mono (.same s) (fun _ e => s _ _ e) fun _ _ _ e => s _ _ e
theorem ThAt.keep {H H' : Hp} {a : Addr} {b : Option Addr} {t : Th} {ps : List Addr} (h : ThAt w c H a b t) (k : Keep ps H H') (s : ∀ p ∈ ps, Soft c H p) (n : ∀ q ∈ footT a b, q ∉ ps) : ThAt w c H' a b t :=
  h.mono (.keep k s) (fun _ e => k _ _ (n _ (by simp [footT])) e) fun q _ hb e => k _ _ (n _ (by simp [footT, hb])) e
/-- the addresses of a store's objects; the store as a model -/
structure SA where
  (y tl ol ll : Addr)
  L : List (Addr × Option Addr)
def footL (L : List (Addr × Option Addr)) : List Addr := L.flatMap fun p => footT p.1 p.2
def SA.foot (x : SA) : List Addr := x.y :: x.tl :: x.ol :: x.ll :: footL x.L
structure SV where
  things : List Th
  out : List Str
  lines : List Str
  taken : Nat
def StR (c : Cs) (H : Hp) (y tl ol ll : Addr) (tk : V) : Prop := ∃ dx, H y = some (.ins c.Store dx [("things", .ref tl), ("output", .ref ol), ("lines", .ref ll), ("taken", tk)])
theorem StR.same {H H' : Hp} {y tl ol ll : Addr} {tk : V} (h : StR c H y tl ol ll tk) (s : Same H H') : StR c H' y tl ol ll tk := h.imp fun _ e => s _ _ e
structure Sto (w : World) (c : Cs) (H : Hp) (x : SA) (S : SV) : Prop where
  st : StR c H x.y x.tl x.ol x.ll (.int (S.taken : Nat))
  et : H x.tl = some (.lst (x.L.map fun p => V.ref p.1))
  eo : H x.ol = some (.lst (S.out.map V.str))
  el : H x.ll = some (.lst (S.lines.map V.str))
  th : Paired (fun p t => ThAt w c H p.1 p.2 t) x.L S.things
  nd : x.foot.Nodup
theorem Sto.same {H H' : Hp} {x : SA} {S : SV} (h : Sto w c H x S) (s : Same H H') : Sto w c H' x S := ⟨h.st.same s, s _ _ h.et, s _ _ h.eo, s _ _ h.el, Paired.mapP h.th fun _ _ z => z.same s, h.nd⟩
theorem paired_mem {α β : Type} {F : α → β → Prop} {xs : List α} {ys : List β} (h : Paired F xs ys) : Paired (fun a b => a ∈ xs ∧ F a b) xs ys := by
  induction h with
  | nil => exact .nil
  | cons r t ih => exact .cons ⟨List.mem_cons_self .., r⟩ (Paired.mapP ih fun _ _ z => ⟨List.mem_cons_of_mem _ z.1, z.2⟩)
theorem mem_footL {L : List (Addr × Option Addr)} {p : Addr × Option Addr} {q : Addr} (h : p ∈ L) (hq : q ∈ footT p.1 p.2) : q ∈ footL L := List.mem_flatMap.mpr ⟨p, h, hq⟩
/-- behind a change elsewhere -/
theorem Sto.keep {H H' : Hp} {x : SA} {S : SV} {ps : List Addr} (h : Sto w c H x S) (k : Keep ps H H') (s : ∀ p ∈ ps, Soft c H p) (n : ∀ q ∈ x.foot, q ∉ ps) : Sto w c H' x S := by
  have m1 : x.y ∈ x.foot := by simp [SA.foot]
  have m2 : x.tl ∈ x.foot := by simp [SA.foot]
  have m3 : x.ol ∈ x.foot := by simp [SA.foot]
  have m4 : x.ll ∈ x.foot := by simp [SA.foot]
  obtain ⟨dx, e⟩ := h.st
  exact ⟨⟨dx, k _ _ (n _ m1) e⟩, k _ _ (n _ m2) h.et, k _ _ (n _ m3) h.eo, k _ _ (n _ m4) h.el,
    Paired.mapP (paired_mem h.th) fun p t z => z.2.keep k s fun q hq => n q (by simp only [SA.foot, List.mem_cons]; exact .inr (.inr (.inr (.inr (mem_footL z.1 hq))))), h.nd⟩
theorem Sto.at {H : Hp} {x : SA} {S : SV} (h : Sto w c H x S) {n : Nat} {t : Th} (e : S.things[n]? = some t) : ∃ a b, x.L[n]? = some (a, b) ∧ ThAt w c H a b t := by
  have hl : x.L.length = S.things.length := Paired.length h.th
  obtain ⟨hi, _⟩ := List.getElem?_eq_some_iff.mp e
  have e1 : x.L[n]? = some x.L[n] := List.getElem?_eq_getElem (by omega)
  obtain ⟨t', h1, h2⟩ := paired_get h.th e1
  rw [e] at h1
  cases h1
  exact ⟨x.L[n].1, x.L[n].2, e1, h2⟩
/-! ### Store(..), its methods -/
def st0 (lines : List Str) : SV := ⟨[.kin "Error" none []], [], lines, 0⟩
def spStore (w : World) (K : PySem.W.Frag) (c : Cs) : Sp := fun vs H Q _ => match vs with
  | [.ref l] => ∃ zs : List Str, Rl K H l (zs.map V.str) ∧ ∀ x H1, Sto w c H1 x (st0 zs) → Same H H1 → (∀ q ∈ x.foot, H q = none) → Q (.ref x.y) H1
  | _ => False
theorem ok_store (A : AtM K c.Store "__init__" "Store.__init__" s_Store___init__ ["self", "lines"]) (T : Txt K mg c) (M_Kin : HasC P w K mg base CX0 c.Kin "Kin" 1 ["self", "name", "parent"] (spMk_Kin K c)) : HasC P w K mg base CX0 c.Store "Store" 3 ["self", "lines"] (spStore w K c) := by
  have Sc := sc_Store___init__
  refine hasC_of T.mk_Store A Sc (fun vs H Q E h => ?_) (fun cdv f A outer s H vs Q E y dx H0 hr h hy hs h0 => ?_)
  · unfold spStore at h; split at h; rfl; cases h
  · unfold spStore at h
    split at h
    · rename_i l
      obtain ⟨zs, r, h⟩ := h
      refine ⟨_, (pss_cons (fs_fld (fe_var 0) (fe_lst (pa_cons (fe_make (k := _) M_Kin (hr.mono (by walk_at "rm")) (by rfl) pass0 (pa_cons (fe_gstr (by rfl) T.g_ERROR) (pa_cons pe_non pa_nil))) pa_nil)) T.pl_things rfl)
      (pss_cons (fs_fld (fe_var 0) (fe_lst pa_nil) T.pl_output rfl)
      (pss_cons (fs_fld (fe_var 0) (pe_callTy call_fListOf (by rfl) T.no_list (by decide +kernel) (pa_cons (fe_var 1) pa_nil)) T.pl_lines rfl)
      (pss_one (fs_fld (fe_var 0) pe_int T.pl_taken rfl))))), ?_⟩
      walk_at "fx0"
      walk_at "ox"
      unfold spMk_Kin
      intro k kdx md H1 nk s1 e1 nmd emd hne
      walk_at "ox"
      intro tl H2 ntl s2 etl
      have ey2 := s2 _ _ (s1 _ _ h0)
      simp only [ey2]
      walk_at "ox"
      have ny2 : tl ≠ y := fun q => by rw [q, s1 _ _ h0] at ntl; cases ntl
      have nky : k ≠ y := fun q => by rw [q, h0] at nk; cases nk
      have nmy : md ≠ y := fun q => by rw [q, h0] at nmd; cases nmd
      intro ol H3 nol s3 eol
      have noy : ol ≠ y := fun q => by rw [q, upd_same] at nol; cases nol
      have not_ : tl ≠ ol := fun q => by rw [← q, upd_ne ny2, etl] at nol; cases nol
      have nolH : H2 ol = none := by rw [upd_ne noy] at nol; exact nol
      have ey3 := s3 _ _ upd_same
      simp only [ey3]
      walk_at "ox"
      refine ⟨_, rl_keep (mk_same ((mk_same ((hs.trans s1).trans s2) hy).trans s3) hy) r, ?_⟩
      intro ll H4 nll s4 ell
      have nly : ll ≠ y := fun q => by rw [q, upd_same] at nll; cases nll
      have nllH : H3 ll = none := by rw [upd_ne nly] at nll; exact nll
      have nlt : tl ≠ ll := fun q => by rw [← q, s3 _ _ ((upd_ne ny2).trans etl)] at nllH; cases nllH
      have nlo : ol ≠ ll := fun q => by rw [← q, eol] at nllH; cases nllH
      have ey4 := s4 _ _ upd_same
      simp only [ey4]
      walk_at "ox"
      have S2 : Same H H2 := (hs.trans s1).trans s2
      have S3 : Same H H3 := (mk_same S2 hy).trans s3
      have S4 : Same H H4 := (mk_same S3 hy).trans s4
      have up : ∀ {q : Addr} {o : HO}, q ≠ y → H2 q = some o → upd H4 y (.ins c.Store dx [("things", .ref tl), ("output", .ref ol), ("lines", .ref ll), ("taken", .int 0)]) q = some o := fun nq e =>
        (upd_ne nq).trans (s4 _ _ ((upd_ne nq).trans (s3 _ _ ((upd_ne nq).trans e))))
      have ek2 := s2 _ _ e1
      have em2 := s2 _ _ emd
      have nkt : k ≠ tl := fun q => by rw [q, etl] at ek2; cases ek2
      have nmt : md ≠ tl := fun q => by rw [q, etl] at em2; cases em2
      have nko : k ≠ ol := fun q => by rw [← q, ek2] at nolH; cases nolH
      have nmo : md ≠ ol := fun q => by rw [← q, em2] at nolH; cases nolH
      have nkl : k ≠ ll := fun q => by rw [← q, s3 _ _ ((upd_ne nky).trans ek2)] at nllH; cases nllH
      have nml : md ≠ ll := fun q => by rw [← q, s3 _ _ ((upd_ne nmy).trans em2)] at nllH; cases nllH
      refine h ⟨y, tl, ol, ll, [(k, some md)]⟩ _ ⟨⟨dx, upd_same⟩, up ny2 etl, (upd_ne noy).trans (s4 _ _ ((upd_ne noy).trans eol)), (upd_ne nly).trans ell, .cons ⟨kdx, .non, md, [], rfl, up nky ek2, rfl, up nmy em2, .nil⟩ .nil, ?_⟩ (mk_same S4 hy) ?_
      · simp only [SA.foot, footL, footT, List.flatMap_cons, List.flatMap_nil, Option.toList_some, List.cons_append, List.nil_append, List.append_nil, List.nodup_cons, List.mem_cons, List.not_mem_nil, or_false, not_or, List.nodup_nil, and_true, not_false_eq_true]
        exact ⟨⟨Ne.symm ny2, Ne.symm noy, Ne.symm nly, Ne.symm nky, Ne.symm nmy⟩, ⟨not_, nlt, Ne.symm nkt, Ne.symm nmt⟩, ⟨nlo, Ne.symm nko, Ne.symm nmo⟩, ⟨Ne.symm nkl, Ne.symm nml⟩, Ne.symm hne⟩
      · intro q hq
        simp only [SA.foot, footL, footT, List.flatMap_cons, List.flatMap_nil, Option.toList_some, List.cons_append, List.nil_append, List.append_nil, List.mem_cons, List.not_mem_nil, or_false] at hq
        rcases hq with rfl | rfl | rfl | rfl | rfl | rfl
        · exact hy
        · exact (hs.trans s1).free ntl
        · exact S2.free nolH
        · exact S3.free nllH
        · exact hs.free nk
        · exact hs.free nmd
    · cases h
end

section
variable {P : Program} {w : World} {K : PySem.W.Frag} {mg : Str → Option Value} {base : Heap} {c : Cs}
/-! ### objects of a store, by their classes -/
def clsT (c : Cs) : Th → Addr
  | .parts _ => c.Parts
  | .table _ => c.Table
  | .inst _ _ => c.Instance
  | .kin _ _ _ => c.Kin

  | .cur _ => c.Cursor
  | .bound _ _ => c.Store
  | .var _ => c.Store

  | .clo _ _ _ => c.Store

theorem ThAt.ins {H : Hp} {a : Addr} {b : Option Addr} {t : Th} (h : ThAt w c H a b t) : ∃ dx fs, H a = some (.ins (clsT c t) dx fs) := by
  cases t <;> first
    | (obtain ⟨dx, l, xs, _, e, _⟩ := h; exact ⟨_, _, e⟩)
    | (obtain ⟨d, rws, _, ⟨dx, e⟩, _⟩ := h; exact ⟨_, _, e⟩)
    | (obtain ⟨dx, ra, nd, kvs, _, e, _⟩ := h; exact ⟨_, _, e⟩)
    | (obtain ⟨dx, e⟩ := h; exact ⟨_, _, e⟩)
    | (obtain ⟨dx, x, _, e, _⟩ := h; exact ⟨_, _, e⟩)
    | exact h.elim
def tyR (c : Cs) (S : SV) : RV → Value
  | .ob n => match S.things[n]? with
    | some t => .ref (clsT c t)
    | none => .type "NoneType"
  | _ => .type "NoneType"
def WfR (S : SV) (r : RV) : Prop := ∀ n, r = .ob n → n < S.things.length
theorem WfR.num {S : SV} {n : Int} : WfR S (.num n) := fun _ h => by cases h
def kindT : Th → Str
  | .parts _ => "list"
  | .table _ => "map"
  | .inst _ _ => "instance"
  | .kin _ _ _ => "class"
  | _ => "function"
def kindR (S : SV) : RV → Str
  | .nul => "null"
  | .boo _ => "boolean"
  | .num _ => "integer"
  | .txt _ => "text"
  | .bt _ => "function"
  | .ob n => match S.things[n]? with
    | some t => kindT t
    | none => "function"
def SA.add (x : SA) (a : Addr) (b : Option Addr) : SA := { x with L := x.L ++ [(a, b)] }
def SV.add (S : SV) (t : Th) : SV := { S with things := S.things ++ [t] }
theorem foot_add {x : SA} {a : Addr} {b : Option Addr} : (x.add a b).foot = x.foot ++ footT a b := by
  simp [SA.foot, SA.add, footL]
/-- a new object of the store -/
def NewTh (w : World) (c : Cs) (H : Hp) (x : SA) (S : SV) (t : Th) (Q : VK) : Prop := ∀ r a b H1, H r = none → (∀ q ∈ footT a b, H q = none) → Keep [x.tl] H H1 → Sto w c H1 (x.add a b) (S.add t) → IsRef c H1 r (S.things.length : Nat) → Q (.ref r) H1
theorem soft_lst {H : Hp} {p : Addr} {xs : List V} (e : H p = some (.lst xs)) : Soft c H p := fun o h hd => by
  rw [e] at h
  cases h
  rcases hd with ⟨_, h⟩ | hd
  · cases h
  · rcases hd with ⟨_, _, h⟩ | ⟨_, _, h⟩ <;> cases h

theorem soft_dk {H : Hp} {p : Addr} {xs : List (Key × V)} (e : H p = some (.dK xs)) : Soft c H p := fun o h hd => by
  rw [e] at h
  cases h
  rcases hd with ⟨_, h⟩ | hd
  · cases h
  · rcases hd with ⟨_, _, h⟩ | ⟨_, _, h⟩ <;> cases h

theorem Sto.soft_tl {H : Hp} {x : SA} {S : SV} (h : Sto w c H x S) : ∀ p ∈ [x.tl], Soft c H p := fun p m => by
  rw [List.mem_singleton.mp m]; exact soft_lst h.et
theorem mem_add {x : SA} {p : Addr × Option Addr} {q : Addr} (hp : p ∈ x.L) (hq : q ∈ footT p.1 p.2) : q ∈ x.foot := by
  simp only [SA.foot, List.mem_cons]; exact .inr (.inr (.inr (.inr (mem_footL hp hq))))
/-- an object that stands already is put into the store's list -/
theorem Sto.push {H H1 : Hp} {x : SA} {S : SV} {a : Addr} {b : Option Addr} {t : Th} (h : Sto w c H x S) (k : Keep [x.tl] H H1) (e : H1 x.tl = some (.lst ((x.L.map fun p => V.ref p.1) ++ [.ref a]))) (ht : ThAt w c H a b t) (hn : (footT a b).Nodup) (hd : ∀ q ∈ footT a b, q ∉ x.foot) : Sto w c H1 (x.add a b) (S.add t) := by
  have nd := h.nd
  have m2 : x.tl ∈ x.foot := by simp [SA.foot]
  simp only [SA.foot, List.nodup_cons, List.mem_cons, not_or] at nd
  obtain ⟨⟨n1, n2, n3, n4⟩, ⟨n5, n6, n7⟩, ⟨n8, n9⟩, n10, n11⟩ := nd
  obtain ⟨dx, ey⟩ := h.st
  refine ⟨⟨dx, k _ _ (by show x.y ∉ [x.tl]; simpa using n1) ey⟩, by rw [show (x.add a b).tl = x.tl from rfl, e]; simp [SA.add], k _ _ (by show x.ol ∉ [x.tl]; simpa using Ne.symm n5) h.eo, k _ _ (by show x.ll ∉ [x.tl]; simpa using Ne.symm n6) h.el, ?_, ?_⟩
  · refine Paired.snoc (Paired.mapP (paired_mem h.th) fun p t' z => z.2.keep k h.soft_tl fun q hq hm => ?_) (ht.keep k h.soft_tl fun q hq hm => ?_)
    · rw [List.mem_singleton.mp hm] at hq
      exact n7 (mem_footL z.1 hq)
    · rw [List.mem_singleton.mp hm] at hq
      exact hd _ hq m2
  · rw [foot_add, List.nodup_append]
    exact ⟨h.nd, hn, fun p hp q hq e => hd q hq (by rw [← e]; exact hp)⟩
def spMake (w : World) (c : Cs) : Sp := fun vs H Q _ => match vs with
  | [.ref y, .ref a] => ∃ x S b t, y = x.y ∧ Sto w c H x S ∧ ThAt w c H a b t ∧ (footT a b).Nodup ∧ (∀ q ∈ footT a b, q ∉ x.foot) ∧ S.things.length < 99999 ∧
    ∀ r H1, H r = none → Keep [x.tl] H H1 → Sto w c H1 (x.add a b) (S.add t) → IsRef c H1 r (S.things.length : Nat) → Q (.ref r) H1
  | _ => False
theorem ok_make (A : AtM K c.Store "make" "Store.make" s_Store_make ["self", "thing"]) (T : Txt K mg c) (M_Ref : HasC P w K mg base CX0 c.Ref "Ref" 1 ["self", "number"] (spMk_Ref K c)) : HasM P w K mg base CX0 c.Store "make" 3 ["self", "thing"] (spMake w c) := by
  have Sc := sc_Store_make
  refine hasM_of A Sc (fun vs H Q E h => ?_) (fun cdv f A outer s H vs Q E hr h => ?_)
  · unfold spMake at h; split at h; rfl; cases h
  · unfold spMake at h
    split at h
    · rename_i y a
      obtain ⟨x, S, b, t, rfl, hS, ht, hn, hd, hl, h⟩ := h
      have hlen : x.L.length = S.things.length := Paired.length hS.th
      obtain ⟨dx, e0⟩ := hS.st
      have e1 := hS.et
      have ne : x.y ≠ x.tl := fun q => by rw [q, e1] at e0; cases e0
      refine ⟨_, (pss_cons (ps_expr (fe_bm PySem.F.plainAttrs_list PySem.F.slot_list_append PySem.F.type_list_append isLst_ty mt_fAppend (fe_fld (fe_var 0) T.pl_things rfl) (pa_cons (fe_var 1) pa_nil)))
      (pss_one (ps_ret (fe_make (k := _) M_Ref (hr.mono (by walk_at "rm")) (by rfl) pass0 (pa_cons (pe_op op_fSub (pe_callB call_fLen (by rfl) T.no_len (by decide +kernel) (pa_cons (fe_fld (fe_var 0) T.pl_things rfl) pa_nil)) pe_int) pa_nil))))), ?_⟩
      walk_at "fx0"
      walk_at "ox"
      simp only [e0]
      walk_at "ox"
      simp only [e1]
      walk_at "ox"
      have e0' : ∀ o, upd H x.tl o x.y = some (.ins c.Store dx [("things", .ref x.tl), ("output", .ref x.ol), ("lines", .ref x.ll), ("taken", .int (S.taken : Nat))]) := fun o => by rw [upd_ne ne]; exact e0
      refine ⟨len_line' (by rw [List.length_map]; omega), ?_⟩
      simp only [e0']
      walk_at "ox"
      refine ⟨_, rl_l upd_same, ?_⟩
      unfold spMk_Ref
      intro r rdx H1 nr s1 er
      have k1 : Keep [x.tl] H H1 := (Keep.refl.upd (by simp)).trans (Keep.of s1)
      refine h r H1 ?_ k1 (hS.push k1 (s1 _ _ upd_same) ht hn hd) ⟨rdx, ?_⟩
      · by_cases q : r = x.tl
        · rw [q, upd_same] at nr; cases nr
        · rw [upd_ne q] at nr; exact nr
      · rw [er, List.length_append, List.length_map, List.length_cons, List.length_nil]
        have : (((x.L.length + (0 + 1) : Nat) : Int) - 1) = ((S.things.length : Nat) : Int) := by omega
        rw [this]
    · cases h
def spAt (w : World) (c : Cs) : Sp := fun vs H Q _ => match vs with
  | [.ref y, .ref r] => ∃ x S n t, y = x.y ∧ Sto w c H x S ∧ IsRef c H r (n : Nat) ∧ S.things[n]? = some t ∧ ∀ a b, x.L[n]? = some (a, b) → ThAt w c H a b t → Q (.ref a) H
  | _ => False
theorem Sto.num {H : Hp} {x : SA} {S : SV} (h : Sto w c H x S) {n : Nat} {t : Th} (e : S.things[n]? = some t) : ∃ a b, x.L[n]? = some (a, b) ∧ ThAt w c H a b t ∧ atI (x.L.map fun p => V.ref p.1) (n : Nat) = some (.ref a) := by
  obtain ⟨a, b, h1, h2⟩ := h.at e
  exact ⟨a, b, h1, h2, atI_nat (by rw [List.getElem?_map, h1]; rfl)⟩
theorem ok_at (A : AtM K c.Store "at" "Store.at" s_Store_at ["self", "ref"]) (T : Txt K mg c) : HasM P w K mg base CX0 c.Store "at" 1 ["self", "ref"] (spAt w c) := by
  have Sc := sc_Store_at
  refine hasM_of A Sc (fun vs H Q E h => ?_) (fun cdv f A outer s H vs Q E hr h => ?_)
  · unfold spAt at h; split at h; rfl; cases h
  · unfold spAt at h
    split at h
    · rename_i y r
      obtain ⟨x, S, n, t, rfl, hS, ⟨rdx, er⟩, et, h⟩ := h
      obtain ⟨dx, e0⟩ := hS.st
      obtain ⟨a, b, h1, h2, h3⟩ := hS.num et
      refine ⟨_, (pss_one (ps_ret (pe_ix ix_fx (fe_fld (fe_var 0) T.pl_things rfl) (fe_fld (fe_var 1) T.pl_number rfl) (fun _ _ => rfl)))), ?_⟩
      walk_at "fx0"
      walk_at "ox"
      simp only [e0]
      walk_at "ox"
      simp only [er]
      walk_at "ox"
      exact ⟨_, rl_l hS.et, _, h3, h a b h1 h2⟩
    · cases h
def spThing (w : World) (c : Cs) : Sp := fun vs H Q _ => match vs with
  | [.ref y, v] => ∃ x S r, y = x.y ∧ Sto w c H x S ∧ IsVal c H v r ∧ WfR S r ∧
    ∀ tv, tyV2 H tv = some (tyR c S r) → (∀ n t, r = .ob n → S.things[n]? = some t → ∃ a b, tv = .ref a ∧ x.L[n]? = some (a, b) ∧ ThAt w c H a b t) → ((∀ n, r ≠ .ob n) → tv = .non) → Q tv H
  | _ => False
theorem ok_thing (A : At K mg "thing_of" "thing_of" s_thing_of ["store", "value"]) (T : Txt K mg c) (M_Store_at : HasM P w K mg base CX0 c.Store "at" 1 ["self", "ref"] (spAt w c)) : Has P w K mg base CX0 "thing_of" 2 ["store", "value"] (spThing w c) := by
  have Sc := sc_thing_of
  refine has_of A Sc (fun vs H Q E h => ?_) (fun cdv f A outer s H vs Q E hr h => ?_)
  · unfold spThing at h; split at h; rfl; cases h
  · unfold spThing at h
    split at h
    · rename_i y v
      obtain ⟨x, S, r, rfl, hS, hv, hw, h⟩ := h
      obtain ⟨dx0, e0⟩ := hS.st
      refine ⟨_, (pss_cons (ps_if (pt_val (pe_callB (call_fIsiO T.kit) (by rfl) T.no_isinstance (by decide +kernel) (pa_cons (fe_var 1) (pa_cons (pe_glob (v := .ref c.Ref) (by rfl) T.mg_Ref rfl) pa_nil)))) (pss_one (ps_ret (fe_meth M_Store_at T.cl_Store (hr.mono (by walk_at "rm")) pass0 (fe_var 0) (pa_cons (fe_var 1) pa_nil)))) pss_nil)
      (pss_one (ps_ret pe_non))), ?_⟩
      walk_at "fx0"
      cases r with
      | ob n =>
        obtain ⟨a, rfl, dx, e1⟩ := hv
        have hn := hw n rfl
        obtain ⟨t, et⟩ : ∃ t, S.things[n]? = some t := ⟨S.things[n], List.getElem?_eq_getElem hn⟩
        repeat (first | walk_at "oxs" | simp only [e1] | simp only [e0])
        refine ⟨x, S, n, t, rfl, hS, ⟨dx, e1⟩, et, fun a' b h1 h2 => ?_⟩
        obtain ⟨dx2, fs2, e2⟩ := h2.ins
        refine h _ ?_ (fun n' t' e3 e4 => ?_) fun hn => absurd rfl (hn n)
        · show tyV2 H (.ref a') = some (match S.things[n]? with | some t => .ref (clsT c t) | none => .type "NoneType")
          rw [et]
          simp only [tyV2, e2]
        · cases e3
          rw [et] at e4
          cases e4
          exact ⟨a', b, rfl, h1, h2⟩
      | bt z =>
        obtain ⟨a, rfl, dx, e1⟩ := hv
        repeat (first | walk_at "oxs" | simp only [e1])
        exact h _ rfl (fun _ _ z _ => by cases z) fun _ => rfl

      | nul => cases hv; repeat (walk_at "oxs"); exact h _ rfl (fun _ _ z _ => by cases z) fun _ => rfl
      | boo b => cases hv; repeat (walk_at "oxs"); exact h _ rfl (fun _ _ z _ => by cases z) fun _ => rfl
      | num b => cases hv; repeat (walk_at "oxs"); exact h _ rfl (fun _ _ z _ => by cases z) fun _ => rfl
      | txt b => cases hv; repeat (walk_at "oxs"); exact h _ rfl (fun _ _ z _ => by cases z) fun _ => rfl
    · cases h
def spKind (w : World) (c : Cs) : Sp := fun vs H Q _ => match vs with
  | [.ref y, v] => ∃ x S r, y = x.y ∧ Sto w c H x S ∧ IsVal c H v r ∧ WfR S r ∧ Q (.str (kindR S r)) H
  | _ => False
set_option maxHeartbeats 4000000 in
theorem ok_kind (A : At K mg "kind_of" "kind_of" s_kind_of ["store", "value"]) (T : Txt K mg c) (H_thing_of : Has P w K mg base CX0 "thing_of" 2 ["store", "value"] (spThing w c)) : Has P w K mg base CX0 "kind_of" 3 ["store", "value"] (spKind w c) := by
  have Sc := sc_kind_of
  refine has_of A Sc (fun vs H Q E h => ?_) (fun cdv f A outer s H vs Q E hr h => ?_)
  · unfold spKind at h; split at h; rfl; cases h
  · unfold spKind at h
    split at h
    · rename_i y v
      obtain ⟨x, S, r, rfl, hS, hv, hw, h⟩ := h
      refine ⟨_, (pss_cons (ps_if (pt_cmpR op_fIsN (fe_var 1) pe_non (nomark _)) (pss_one (ps_ret pe_str)) pss_nil)
      (pss_cons (ps_if (pt_val (pe_callB (call_fIsiA T.kit) (by rfl) T.no_isinstance (by decide +kernel) (pa_cons (fe_var 1) (pa_cons (fe_ty (n := "bool") (by rfl) T.no_bool (by decide +kernel)) pa_nil)))) (pss_one (ps_ret pe_str)) pss_nil)
      (pss_cons (ps_if (pt_val (pe_callB (call_fIsiA T.kit) (by rfl) T.no_isinstance (by decide +kernel) (pa_cons (fe_var 1) (pa_cons (fe_ty (n := "int") (by rfl) T.no_int (by decide +kernel)) pa_nil)))) (pss_one (ps_ret pe_str)) pss_nil)
      (pss_cons (ps_if (pt_val (pe_callB (call_fIsiA T.kit) (by rfl) T.no_isinstance (by decide +kernel) (pa_cons (fe_var 1) (pa_cons (fe_ty (n := "str") (by rfl) T.no_str (by decide +kernel)) pa_nil)))) (pss_one (ps_ret pe_str)) pss_nil)
      (pss_cons (ps_set (i := 2) Sc.nd rfl (.inl rfl) (fe_call H_thing_of (hr.mono (by walk_at "rm")) (by rfl) pass0 (pa_cons (fe_var 0) (pa_cons (fe_var 1) pa_nil))))
      (pss_cons (ps_if (pt_val (pe_callB (call_fIsiO T.kit) (by rfl) T.no_isinstance (by decide +kernel) (pa_cons (fe_var 2) (pa_cons (pe_glob (v := .ref c.Parts) (by rfl) T.mg_Parts rfl) pa_nil)))) (pss_one (ps_ret pe_str)) pss_nil)
      (pss_cons (ps_if (pt_val (pe_callB (call_fIsiO T.kit) (by rfl) T.no_isinstance (by decide +kernel) (pa_cons (fe_var 2) (pa_cons (pe_glob (v := .ref c.Table) (by rfl) T.mg_Table rfl) pa_nil)))) (pss_one (ps_ret pe_str)) pss_nil)
      (pss_cons (ps_if (pt_val (pe_callB (call_fIsiO T.kit) (by rfl) T.no_isinstance (by decide +kernel) (pa_cons (fe_var 2) (pa_cons (pe_glob (v := .ref c.Instance) (by rfl) T.mg_Instance rfl) pa_nil)))) (pss_one (ps_ret pe_str)) pss_nil)
      (pss_cons (ps_if (pt_val (pe_callB (call_fIsiO T.kit) (by rfl) T.no_isinstance (by decide +kernel) (pa_cons (fe_var 2) (pa_cons (pe_glob (v := .ref c.Kin) (by rfl) T.mg_Kin rfl) pa_nil)))) (pss_one (ps_ret pe_str)) pss_nil)
      (pss_one (ps_ret pe_str))))))))))), ?_⟩
      walk_at "fx0"
      have hv0 := hv
      cases r with
      | ob n =>
        obtain ⟨a, rfl, dx, e1⟩ := hv
        have hn := hw n rfl
        obtain ⟨t, et⟩ : ∃ t, S.things[n]? = some t := ⟨S.things[n], List.getElem?_eq_getElem hn⟩
        repeat (first | walk_at "oxs" | simp only [e1])
        refine ⟨x, S, .ob n, rfl, hS, hv0, hw, fun tv h1 h2 _ => ?_⟩
        obtain ⟨a', b, rfl, h3, h4⟩ := h2 n t rfl et
        obtain ⟨dx2, fs2, e2⟩ := h4.ins
        have hk : kindR S (.ob n) = kindT t := by show (match S.things[n]? with | some t => kindT t | none => "function") = _; rw [et]
        rw [hk] at h
        cases t <;> first
          | exact h4.elim
          | (simp only [clsT] at e2
             repeat (first | walk_at "oxs" | simp only [e2])
             exact h)
      | bt z =>
        obtain ⟨a, rfl, dx, e1⟩ := hv
        repeat (first | walk_at "oxs" | simp only [e1])
        refine ⟨x, S, .bt z, rfl, hS, hv0, hw, fun tv h1 h2 h3 => ?_⟩
        have etv := h3 fun n z => by cases z
        subst etv
        repeat (first | walk_at "oxs" | simp only [e1])
        exact h

      | nul => cases hv; repeat (walk_at "oxs"); exact h
      | boo b => cases hv; repeat (walk_at "oxs"); exact h
      | num b => cases hv; repeat (walk_at "oxs"); exact h
      | txt b => cases hv; repeat (walk_at "oxs"); exact h
    · cases h
theorem kindR_len {S : SV} {r : RV} : (kindR S r).length ≤ 8 := by
  have ht : ∀ t, (kindT t).length ≤ 8 := fun t => by cases t <;> simp only [kindT] <;> decide
  cases r with
  | ob n =>
    show Str.length (match S.things[n]? with | some t => kindT t | none => "function") ≤ 8
    split
    · exact ht _
    · decide
  | _ => show Str.length _ ≤ 8; simp only [kindR]; decide
end

section
variable {P : Program} {w : World} {K : PySem.W.Frag} {mg : Str → Option Value} {base : Heap} {c : Cs}
def OutS (c : Cs) (H : Hp) (k m : Str) (E : XK) : Prop := Out c.ScriptError H [("message", .str m), ("kind", .str k)] E
/-! ### new objects -/
theorem ThAt.live {H : Hp} {a : Addr} {b : Option Addr} {t : Th} (h : ThAt w c H a b t) : ∀ q ∈ footT a b, ∃ o, H q = some o := by
  have two_ : ∀ {l : Addr} {o1 o2 : HO}, H a = some o1 → H l = some o2 → ∀ q ∈ footT a (some l), ∃ o, H q = some o := by
    intro l o1 o2 e1 e2 q hq
    simp only [footT, Option.toList_some, List.mem_cons, List.not_mem_nil, or_false] at hq
    rcases hq with rfl | rfl
    · exact ⟨_, e1⟩
    · exact ⟨_, e2⟩
  have one_ : ∀ {o1 : HO}, H a = some o1 → ∀ q ∈ footT a none, ∃ o, H q = some o := by
    intro o1 e1 q hq
    simp only [footT, Option.toList_none, List.mem_cons, List.not_mem_nil, or_false] at hq
    rw [hq]; exact ⟨_, e1⟩
  cases t with
  | parts rs => obtain ⟨dx, l, xs, rfl, e1, e2, e3⟩ := h; exact two_ e1 e2
  | table rows => obtain ⟨d, rws, rfl, ⟨dx, e1⟩, e2, e3⟩ := h; obtain ⟨⟨es, D, e0, r⟩, nd⟩ := e2; exact two_ e1 e0
  | inst o fs => obtain ⟨dx, ra, nd, kvs, rfl, e1, e2, e3, e4⟩ := h; exact two_ e1 e3
  | kin n p ms => obtain ⟨dx, pv, md, kvs, rfl, e1, e2, e3, e4⟩ := h; exact two_ e1 e3

  | cur rs => obtain ⟨dx, l, xs, rfl, e1, e2, e3⟩ := h; exact two_ e1 e2

  | clo _ _ _ => exact h.elim
  | bound _ _ => exact h.elim
  | var _ => exact h.elim

theorem Sto.live {H : Hp} {x : SA} {S : SV} (h : Sto w c H x S) : ∀ q ∈ x.foot, ∃ o, H q = some o := by
  intro q hq
  simp only [SA.foot, List.mem_cons] at hq
  rcases hq with rfl | rfl | rfl | rfl | hq
  · obtain ⟨dx, e⟩ := h.st; exact ⟨_, e⟩
  · exact ⟨_, h.et⟩
  · exact ⟨_, h.eo⟩
  · exact ⟨_, h.el⟩
  · obtain ⟨p, hp, hq⟩ := List.mem_flatMap.mp hq
    obtain ⟨i, hi, rfl⟩ := List.getElem_of_mem hp
    obtain ⟨t, _, ht⟩ := paired_get h.th (List.getElem?_eq_getElem hi)
    exact ht.live q hq
theorem new_make {H H1 : Hp} {x : SA} {S : SV} {a : Addr} {b : Option Addr} {t : Th} {Q : VK} {E : XK} (hS : Sto w c H x S) (s1 : Same H H1) (ht : ThAt w c H1 a b t) (hn : (footT a b).Nodup) (hf : ∀ q ∈ footT a b, H q = none) (hl : S.things.length < 99999) (h : NewTh w c H x S t Q) : spMake w c [.ref x.y, .ref a] H1 Q E :=
  ⟨x, S, b, t, rfl, hS.same s1, ht, hn, (fun q hq m => by
    obtain ⟨o, e⟩ := hS.live q m
    rw [hf q hq] at e
    cases e), hl, fun r H2 nr k st hr => h r a b H2 (s1.free nr) hf ((Keep.of s1).trans k) st hr⟩
theorem foot_two {a l : Addr} (h : l ≠ a) : (footT a (some l)).Nodup := by simp [footT, Ne.symm h]
theorem free_two {H : Hp} {a l : Addr} (h1 : H a = none) (h2 : H l = none) : ∀ q ∈ footT a (some l), H q = none := by
  intro q hq
  simp only [footT, Option.toList_some, List.mem_cons, List.not_mem_nil, or_false] at hq
  rcases hq with rfl | rfl <;> assumption
theorem foot_one {a : Addr} : (footT a none).Nodup := by simp [footT]
theorem free_one {H : Hp} {a : Addr} (h1 : H a = none) : ∀ q ∈ footT a none, H q = none := by
  intro q hq
  simp only [footT, Option.toList_none, List.mem_cons, List.not_mem_nil, or_false] at hq
  rw [hq]; exact h1
def spCheck (c : Cs) : Sp := fun vs H Q E => match vs with
  | [.int n] => if 1000 < n then OutS c H "SizeError" "too large" E else Q .non H
  | _ => False
theorem ok_check (A : At K mg "check_parts" "check_parts" s_check_parts ["count"]) (T : Txt K mg c) (E_ScriptError : HasE P w K mg base c.ScriptError "ScriptError" 2 (two "kind" "message")) : Has P w K mg base (L2.CX P w) "check_parts" 3 ["count"] (spCheck c) := by
  have Sc := sc_check_parts
  refine hasX_of A Sc (fun vs H Q E h => ?_) (fun cdv f A outer s H vs Q E hr h => ?_)
  · unfold spCheck at h; split at h; rfl; cases h
  · unfold spCheck at h
    split at h
    · rename_i n
      refine ⟨_, (pss_one (ps_if (pt_cmpR op_fGt (fe_var 0) (fe_gint (by rfl) T.g_MOST_PARTS) (nomark _)) (pss_one (fs_raise rfl tk_of E_ScriptError (by decide) (hr.mono (by walk_at "rm")) (by rfl) (pa_cons pe_str (pa_cons pe_str pa_nil)))) pss_nil)), ?_⟩
      walk_at "fx0"
      repeat (walk_at "oxs")
      exact h
    · cases h
def spMkList (w : World) (c : Cs) : Sp := fun vs H Q _ => match vs with
  | [.ref y, .ref l] => ∃ x S xs rs, y = x.y ∧ Sto w c H x S ∧ H l = some (.lst xs) ∧ VsAt c H xs rs ∧ xs.length ≤ 1000 ∧ S.things.length < 99999 ∧ NewTh w c H x S (.parts rs) Q
  | _ => False
theorem ok_mklist (A : At K mg "make_list" "make_list" s_make_list ["store", "values"]) (T : Txt K mg c) (H_check_parts : Has P w K mg base (L2.CX P w) "check_parts" 3 ["count"] (spCheck c)) (M_Parts : HasC P w K mg base CX0 c.Parts "Parts" 1 ["self", "held"] (spMk_Parts K c)) (M_Store_make : HasM P w K mg base CX0 c.Store "make" 3 ["self", "thing"] (spMake w c)) : Has P w K mg base (L2.CX P w) "make_list" 4 ["store", "values"] (spMkList w c) := by
  have Sc := sc_make_list
  refine hasX_of A Sc (fun vs H Q E h => ?_) (fun cdv f A outer s H vs Q E hr h => ?_)
  · unfold spMkList at h; split at h; rfl; cases h
  · unfold spMkList at h
    split at h
    · rename_i y l
      obtain ⟨x, S, xs, rs, rfl, hS, el, hv, hn, hl, h⟩ := h
      obtain ⟨sdx, es⟩ := hS.st
      refine ⟨_, (pss_cons (ps_expr (fe_callX H_check_parts (hr.mono (by walk_at "rm")) (by rfl) tk_of (pa_cons (pe_callB call_fLen (by rfl) T.no_len (by decide +kernel) (pa_cons (fe_var 1) pa_nil)) pa_nil)))
      (pss_one (ps_ret (fe_meth M_Store_make T.cl_Store (hr.mono (by walk_at "rm")) pass0 (fe_var 0) (pa_cons (fe_make (k := _) M_Parts (hr.mono (by walk_at "rm")) (by rfl) pass0 (pa_cons (fe_var 1) pa_nil)) pa_nil))))), ?_⟩
      walk_at "fx0"
      repeat (walk_at "oxs")
      refine ⟨_, rl_l el, ?_⟩
      unfold spCheck
      dsimp only
      rw [if_neg (by omega)]
      repeat (first | walk_at "oxs" | simp only [es])
      refine ⟨_, rl_l el, ?_⟩
      intro a dx p H1 na s1 ea np ep hne
      exact new_make (t := .parts rs) (b := some p) hS s1 ⟨dx, p, xs, rfl, ea, ep, hv.hs (.same s1)⟩ (foot_two hne) (free_two na np) hl h
    · cases h
end

section
variable {P : Program} {w : World} {K : PySem.W.Frag} {mg : Str → Option Value} {base : Heap} {c : Cs}
/-! ### an object of the store changed -/
theorem paired_mk {α β : Type} {F : α → β → Prop} : ∀ {xs : List α} {ys : List β}, xs.length = ys.length → (∀ (i : Nat) (a : α) (b : β), xs[i]? = some a → ys[i]? = some b → F a b) → Paired F xs ys
  | [], [], _, _ => .nil
  | a :: xs, b :: ys, hl, h => .cons (h 0 a b rfl rfl) (paired_mk (by simpa using hl) fun i a b ha hb => h (i + 1) a b ha hb)
  | [], _ :: _, hl, _ => by cases hl
  | _ :: _, [], hl, _ => by cases hl
theorem footL_disj : ∀ {L : List (Addr × Option Addr)} {i j : Nat} {p p' : Addr × Option Addr} {q : Addr}, (footL L).Nodup → L[i]? = some p → L[j]? = some p' → q ∈ footT p.1 p.2 → q ∈ footT p'.1 p'.2 → i = j
  | [], i, _, _, _, _, _, h, _, _, _ => by cases i <;> cases h
  | r :: L, i, j, p, p', q, hn, h1, h2, m1, m2 => by
    have e : footL (r :: L) = footT r.1 r.2 ++ footL L := rfl
    rw [e, List.nodup_append] at hn
    cases i with
    | zero =>
      cases j with
      | zero => rfl
      | succ j =>
        cases h1
        exact absurd rfl (hn.2.2 q m1 q (mem_footL (List.mem_of_getElem? h2) m2))
    | succ i =>
      cases j with
      | zero =>
        cases h2
        exact absurd rfl (hn.2.2 q m2 q (mem_footL (List.mem_of_getElem? h1) m1))
      | succ j => rw [footL_disj hn.2.1 h1 h2 m1 m2]
def SV.setT (S : SV) (n : Nat) (t : Th) : SV := { S with things := S.things.set n t }
theorem Sto.setT {H H1 : Hp} {x : SA} {S : SV} {n : Nat} {a q : Addr} {t : Th} (h : Sto w c H x S) (hx : x.L[n]? = some (a, some q)) (k : Keep [q] H H1) (so : Soft c H q) (ht : ThAt w c H1 a (some q) t) : Sto w c H1 x (S.setT n t) := by
  have nd := h.nd
  have hl : x.L.length = S.things.length := Paired.length h.th
  have mq : q ∈ footL x.L := mem_footL (List.mem_of_getElem? hx) (by simp [footT])
  simp only [SA.foot, List.nodup_cons, List.mem_cons, not_or] at nd
  obtain ⟨⟨n1, n2, n3, n4⟩, ⟨n5, n6, n7⟩, ⟨n8, n9⟩, n10, n11⟩ := nd
  obtain ⟨dx, ey⟩ := h.st
  have no : ∀ {p : Addr}, p ∉ footL x.L → p ∉ [q] := fun hp m => hp (by rw [List.mem_singleton.mp m]; exact mq)
  have so' : ∀ p ∈ [q], Soft c H p := fun p m => by rw [List.mem_singleton.mp m]; exact so
  refine ⟨⟨dx, k _ _ (no n4) ey⟩, k _ _ (no n7) h.et, k _ _ (no n9) h.eo, k _ _ (no n10) h.el, ?_, h.nd⟩
  refine paired_mk (by rw [hl]; exact (List.length_set ..).symm) fun i p t' hp ht' => ?_
  have ht2 : (S.things.set n t)[i]? = some t' := ht'
  rw [List.getElem?_set] at ht2
  by_cases e : n = i
  · subst e
    rw [if_pos rfl] at ht2
    rw [hx] at hp
    cases hp
    split at ht2
    · cases ht2; exact ht
    · cases ht2
  · rw [if_neg e] at ht2
    obtain ⟨t2, e2, h2⟩ := paired_get h.th hp
    rw [ht2] at e2
    cases e2
    refine h2.keep k so' fun z hz m => ?_
    rw [List.mem_singleton.mp m] at hz
    exact e (footL_disj n11 hx hp (by simp [footT]) hz)
theorem footL_mem_set : ∀ {L : List (Addr × Option Addr)} {n : Nat} {p : Addr × Option Addr} {q : Addr}, q ∈ footL (L.set n p) → q ∈ footL L ∨ q ∈ footT p.1 p.2
  | [], _, _, _, h => by simp [footL] at h
  | r :: L, 0, p, q, h => by
    have h : q ∈ footT p.1 p.2 ++ footL L := h
    rcases List.mem_append.mp h with h | h
    · exact .inr h
    · exact .inl (List.mem_append_right _ h)
  | r :: L, n + 1, p, q, h => by
    have h : q ∈ footT r.1 r.2 ++ footL (L.set n p) := h
    rcases List.mem_append.mp h with h | h
    · exact .inl (List.mem_append_left _ h)
    · exact (footL_mem_set h).imp (fun z => List.mem_append_right _ z) id
theorem footL_set : ∀ {L : List (Addr × Option Addr)} {n : Nat} {p p' : Addr × Option Addr}, (footL L).Nodup → L[n]? = some p → (footT p'.1 p'.2).Nodup → (∀ q ∈ footT p'.1 p'.2, q ∈ footT p.1 p.2 ∨ q ∉ footL L) → (footL (L.set n p')).Nodup
  | [], _, _, _, _, h, _, _ => by cases h
  | r :: L, 0, p, p', h, e, hn, hf => by
    cases e
    have h : (footT r.1 r.2 ++ footL L).Nodup := h
    show (footT p'.1 p'.2 ++ footL L).Nodup
    rw [List.nodup_append] at h ⊢
    refine ⟨hn, h.2.1, fun a ha b hb z => ?_⟩
    rcases hf a ha with g | g
    · exact h.2.2 a g b hb z
    · exact g (List.mem_append_right _ (by rw [z]; exact hb))
  | r :: L, n + 1, p, p', h, e, hn, hf => by
    have h : (footT r.1 r.2 ++ footL L).Nodup := h
    have e : L[n]? = some p := e
    show (footT r.1 r.2 ++ footL (L.set n p')).Nodup
    rw [List.nodup_append] at h ⊢
    refine ⟨h.1, footL_set h.2.1 e hn (fun q m => (hf q m).imp id fun g z => g (List.mem_append_right _ z)), fun a ha b hb z => ?_⟩
    rcases footL_mem_set hb with g | g
    · exact h.2.2 a ha b g z
    · rcases hf b g with g | g
      · exact h.2.2 a ha b (mem_footL (List.mem_of_getElem? e) g) z
      · exact g (List.mem_append_left _ (by rw [← z]; exact ha))
def SA.setL (x : SA) (n : Nat) (a : Addr) (b : Option Addr) : SA := { x with L := x.L.set n (a, b) }
/-- an object of the store is changed at its own places, and may get a new second place -/
theorem Sto.mvT {H H1 : Hp} {x : SA} {S : SV} {n : Nat} {a : Addr} {b b' : Option Addr} {t : Th} {ps : List Addr} (h : Sto w c H x S) (hx : x.L[n]? = some (a, b)) (k : Keep ps H H1) (hps : ∀ p ∈ ps, p ∈ footT a b) (so : ∀ p ∈ ps, Soft c H p) (ht : ThAt w c H1 a b' t) (hn : (footT a b').Nodup) (hf : ∀ q ∈ footT a b', q ∈ footT a b ∨ H q = none) :
    Sto w c H1 (x.setL n a b') (S.setT n t) ∧ ∀ q ∈ (x.setL n a b').foot, q ∈ x.foot ∨ H q = none := by
  have nd := h.nd
  have lv := h.live
  have hl : x.L.length = S.things.length := Paired.length h.th
  have mq : ∀ p ∈ ps, p ∈ footL x.L := fun p m => mem_footL (List.mem_of_getElem? hx) (hps p m)
  simp only [SA.foot, List.nodup_cons, List.mem_cons, not_or] at nd
  obtain ⟨⟨n1, n2, n3, n4⟩, ⟨n5, n6, n7⟩, ⟨n8, n9⟩, n10, n11⟩ := nd
  obtain ⟨dx, ey⟩ := h.st
  have no : ∀ {p : Addr}, p ∉ footL x.L → p ∉ ps := fun hp m => hp (mq _ m)
  have hfx : ∀ q ∈ footL (x.L.set n (a, b')), q ∈ footL x.L ∨ H q = none := fun q m => by
    rcases footL_mem_set m with g | g
    · exact .inl g
    · exact (hf q g).imp (fun z => mem_footL (List.mem_of_getElem? hx) z) id
  have off : ∀ {q : Addr} {o : HO}, q ∉ footL x.L → H q = some o → q ∉ footL (x.L.set n (a, b')) := fun g e m => by
    rcases hfx _ m with z | z
    · exact g z
    · rw [e] at z; cases z
  have em : (x.L.set n (a, b')).map (fun p => V.ref p.1) = x.L.map fun p => V.ref p.1 := by
    rw [List.map_set]
    refine List.ext_getElem? fun i => ?_
    rw [List.getElem?_set]
    split
    · rename_i q
      subst q
      rw [List.getElem?_map, hx]
      rw [List.length_map, if_pos (List.getElem?_eq_some_iff.mp hx).1]; rfl
    · rfl
  refine ⟨⟨⟨dx, k _ _ (no n4) ey⟩, ?_, k _ _ (no n9) h.eo, k _ _ (no n10) h.el, ?_, ?_⟩, fun q m => ?_⟩
  · show H1 x.tl = some (.lst ((x.L.set n (a, b')).map fun p => V.ref p.1))
    rw [em]; exact k _ _ (no n7) h.et
  · refine paired_mk (by show (x.L.set n (a, b')).length = (S.things.set n t).length; rw [List.length_set, List.length_set, hl]) fun i p t' hp ht' => ?_
    have ht2 : (S.things.set n t)[i]? = some t' := ht'
    have hp2 : (x.L.set n (a, b'))[i]? = some p := hp
    rw [List.getElem?_set] at ht2 hp2
    by_cases e : n = i
    · subst e
      rw [if_pos rfl] at ht2 hp2
      split at ht2
      · split at hp2
        · cases ht2; cases hp2; exact ht
        · cases hp2
      · cases ht2
    · rw [if_neg e] at ht2 hp2
      obtain ⟨t2, e2, h2⟩ := paired_get h.th hp2
      rw [ht2] at e2
      cases e2
      exact h2.keep k so fun z hz m => e (footL_disj n11 hx hp2 (hps z m) hz)
  · obtain ⟨_, ey1⟩ := lv x.y (by simp [SA.foot])
    simp only [SA.foot, SA.setL, List.nodup_cons, List.mem_cons, not_or]
    exact ⟨⟨n1, n2, n3, off n4 ey⟩, ⟨n5, n6, off n7 h.et⟩, ⟨n8, off n9 h.eo⟩, off n10 h.el, footL_set n11 hx hn fun q m => (hf q m).imp id fun z g => by
      obtain ⟨o, eo⟩ := lv q (by simp [SA.foot, g])
      rw [z] at eo; cases eo⟩
  · simp only [SA.foot, SA.setL, List.mem_cons] at m ⊢
    rcases m with m | m | m | m | m
    · exact .inl (.inl m)
    · exact .inl (.inr (.inl m))
    · exact .inl (.inr (.inr (.inl m)))
    · exact .inl (.inr (.inr (.inr (.inl m))))
    · exact (hfx q m).imp (fun z => .inr (.inr (.inr (.inr z)))) id
theorem setL_foot {x : SA} {n : Nat} {a q : Addr} {b : Option Addr} (h : q ∈ (x.setL n a b).foot) : q ∈ x.foot ∨ q ∈ footT a b := by
  simp only [SA.foot, SA.setL, List.mem_cons] at h ⊢
  rcases h with m | m | m | m | m
  · exact .inl (.inl m)
  · exact .inl (.inr (.inl m))
  · exact .inl (.inr (.inr (.inl m)))
  · exact .inl (.inr (.inr (.inr (.inl m))))
  · exact (footL_mem_set m).imp (fun z => .inr (.inr (.inr (.inr z)))) id
end

section
variable {P : Program} {w : World} {K : PySem.W.Frag} {mg : Str → Option Value} {base : Heap} {c : Cs}
/-! ### copies of a store and its objects -/
def SzT : Th → Prop
  | .table rows => rows.length < 100000
  | _ => True
def spFork (w : World) (c : Cs) (p : Th → Prop) : Sp := fun vs H Q _ => match vs with
  | [.ref a] => ∃ b t, ThAt w c H a b t ∧ p t ∧ SzT t ∧ ∀ a' b' H', Same H H' → ThAt w c H' a' b' t → (footT a' b').Nodup → (∀ q ∈ footT a' b', H q = none) → Q (.ref a') H'
  | _ => False
def pParts (t : Th) : Prop := ∃ rs, t = .parts rs
def pTable (t : Th) : Prop := ∃ rs, t = .table rs
def pCur (t : Th) : Prop := ∃ rs, t = .cur rs
def pKin (t : Th) : Prop := ∃ n q m, t = .kin n q m
def pInst (t : Th) : Prop := ∃ n q, t = .inst n q
theorem ok_forkParts (A : AtM K c.Parts "fork" "Parts.fork" s_Parts_fork ["self"]) (T : Txt K mg c) (M_Parts : HasC P w K mg base CX0 c.Parts "Parts" 1 ["self", "held"] (spMk_Parts K c)) : HasM P w K mg base CX0 c.Parts "fork" 3 ["self"] (spFork w c pParts) := by
  have Sc := sc_Parts_fork
  refine hasM_of A Sc (fun vs H Q E h => ?_) (fun cdv f A outer s H vs Q E hr h => ?_)
  · unfold spFork at h; split at h; rfl; cases h
  · unfold spFork at h
    split at h
    · rename_i a
      obtain ⟨b, t, ht, ⟨rs, rfl⟩, hs, h⟩ := h
      obtain ⟨dx, l, xs, rfl, e1, e2, e3⟩ := ht
      refine ⟨_, (pss_one (ps_ret (fe_make (k := _) M_Parts (hr.mono (by walk_at "rm")) (by rfl) pass0 (pa_cons (fe_fld (fe_var 0) T.pl_held rfl) pa_nil)))), ?_⟩
      walk_at "fx0"
      repeat (first | walk_at "oxs" | simp only [e1])
      refine ⟨_, rl_l e2, ?_⟩
      intro a dx2 p H1 na s1 ea np ep hne
      exact h a (some p) H1 s1 ⟨dx2, p, xs, rfl, ea, ep, e3.hs (.same s1)⟩ (foot_two hne) (free_two na np)
    · cases h
theorem ok_forkCursor (A : AtM K c.Cursor "fork" "Cursor.fork" s_Cursor_fork ["self"]) (T : Txt K mg c) (M_Cursor : HasC P w K mg base CX0 c.Cursor "Cursor" 1 ["self", "rest"] (spMk_Cursor K c)) : HasM P w K mg base CX0 c.Cursor "fork" 3 ["self"] (spFork w c pCur) := by
  have Sc := sc_Cursor_fork
  refine hasM_of A Sc (fun vs H Q E h => ?_) (fun cdv f A outer s H vs Q E hr h => ?_)
  · unfold spFork at h; split at h; rfl; cases h
  · unfold spFork at h
    split at h
    · rename_i a
      obtain ⟨b, t, ht, ⟨rs, rfl⟩, hs, h⟩ := h
      obtain ⟨dx, l, xs, rfl, e1, e2, e3⟩ := ht
      refine ⟨_, (pss_one (ps_ret (fe_make (k := _) M_Cursor (hr.mono (by walk_at "rm")) (by rfl) pass0 (pa_cons (fe_fld (fe_var 0) T.pl_rest rfl) pa_nil)))), ?_⟩
      walk_at "fx0"
      repeat (first | walk_at "oxs" | simp only [e1])
      refine ⟨_, rl_l e2, ?_⟩
      intro a dx2 p H1 na s1 ea np ep hne
      exact h a (some p) H1 s1 ⟨dx2, p, xs, rfl, ea, ep, e3.hs (.same s1)⟩ (foot_two hne) (free_two na np)
    · cases h
theorem ok_forkKin (A : AtM K c.Kin "fork" "Kin.fork" s_Kin_fork ["self"]) (T : Txt K mg c) (M_Kin : HasC P w K mg base CX0 c.Kin "Kin" 1 ["self", "name", "parent"] (spMk_Kin K c)) : HasM P w K mg base CX0 c.Kin "fork" 3 ["self"] (spFork w c pKin) := by
  have Sc := sc_Kin_fork
  refine hasM_of A Sc (fun vs H Q E h => ?_) (fun cdv f A outer s H vs Q E hr h => ?_)
  · unfold spFork at h; split at h; rfl; cases h
  · unfold spFork at h
    split at h
    · rename_i a
      obtain ⟨b, t, ht, ⟨n, q, m, rfl⟩, hs, h⟩ := h
      obtain ⟨dx, pv, md, kvs, rfl, e1, e2, e3, e4⟩ := ht
      refine ⟨_, (pss_cons (ps_set (i := 1) Sc.nd rfl (.inl rfl) (fe_make (k := _) M_Kin (hr.mono (by walk_at "rm")) (by rfl) pass0 (pa_cons (fe_fld (fe_var 0) T.pl_name rfl) (pa_cons (fe_fld (fe_var 0) T.pl_parent rfl) pa_nil))))
      (pss_cons (fs_fld (fe_var 1) (pe_callTy call_fDictD (by rfl) T.no_dict (by decide +kernel) (pa_cons (fe_fld (fe_var 0) T.pl_methods rfl) pa_nil)) T.pl_methods rfl)
      (pss_one (ps_ret (fe_var 1))))), ?_⟩
      walk_at "fx0"
      repeat (first | walk_at "oxs" | simp only [e1])
      intro k kdx md1 H1 nk s1 e5 nmd emd hne
      have e6 := s1 _ _ e1
      repeat (first | walk_at "oxs" | simp only [e6] | simp only [e5])
      refine ⟨_, .inl (s1 _ _ e3), fun p H2 np s2 ep => ?_⟩
      have e7 := s2 _ _ e5
      have npk : p ≠ k := fun z => by rw [z, e5] at np; cases np
      repeat (first | walk_at "oxs" | simp only [e7])
      have sm := mk_same (s1.trans s2) nk (o := .ins c.Kin kdx [("name", .str n), ("parent", pv), ("methods", .ref p)])
      refine h k (some p) _ sm ⟨kdx, pv, p, kvs, rfl, upd_same, ?_, (upd_ne npk).trans ep, Paired.mapP e4 fun _ _ z => ⟨z.1, z.2.hs (.same sm)⟩⟩ (foot_two npk) (free_two nk (s1.free np))
      cases q with
      | none => exact e2
      | some k => exact IsRefV.hs e2 (.same sm)
    · cases h
theorem ok_forkInstance (A : AtM K c.Instance "fork" "Instance.fork" s_Instance_fork ["self"]) (T : Txt K mg c) (M_Instance : HasC P w K mg base CX0 c.Instance "Instance" 1 ["self", "owner"] (spMk_Instance K c)) : HasM P w K mg base CX0 c.Instance "fork" 3 ["self"] (spFork w c pInst) := by
  have Sc := sc_Instance_fork
  refine hasM_of A Sc (fun vs H Q E h => ?_) (fun cdv f A outer s H vs Q E hr h => ?_)
  · unfold spFork at h; split at h; rfl; cases h
  · unfold spFork at h
    split at h
    · rename_i a
      obtain ⟨b, t, ht, ⟨n, q, rfl⟩, hs, h⟩ := h
      obtain ⟨dx, ra, nd, kvs, rfl, e1, e2, e3, e4⟩ := ht
      refine ⟨_, (pss_cons (ps_set (i := 1) Sc.nd rfl (.inl rfl) (fe_make (k := _) M_Instance (hr.mono (by walk_at "rm")) (by rfl) pass0 (pa_cons (fe_fld (fe_var 0) T.pl_owner rfl) pa_nil)))
      (pss_cons (fs_fld (fe_var 1) (pe_callTy call_fDictD (by rfl) T.no_dict (by decide +kernel) (pa_cons (fe_fld (fe_var 0) T.pl_named rfl) pa_nil)) T.pl_named rfl)
      (pss_one (ps_ret (fe_var 1))))), ?_⟩
      walk_at "fx0"
      repeat (first | walk_at "oxs" | simp only [e1])
      intro k kdx md1 H1 nk s1 e5 nmd emd hne
      have e6 := s1 _ _ e1
      repeat (first | walk_at "oxs" | simp only [e6] | simp only [e5])
      refine ⟨_, .inl (s1 _ _ e3), fun p H2 np s2 ep => ?_⟩
      have e7 := s2 _ _ e5
      have npk : p ≠ k := fun z => by rw [z, e5] at np; cases np
      repeat (first | walk_at "oxs" | simp only [e7])
      have sm := mk_same (s1.trans s2) nk (o := .ins c.Instance kdx [("owner", .ref ra), ("named", .ref p)])
      exact h k (some p) _ sm ⟨kdx, ra, p, kvs, rfl, upd_same, e2.same sm, (upd_ne npk).trans ep, Paired.mapP e4 fun _ _ z => ⟨z.1, z.2.hs (.same sm)⟩⟩ (foot_two npk) (free_two nk (s1.free np))
    · cases h
theorem putR_new {rows : List (V × V)} {k v : V} (h : k ∉ rows.map (·.1)) : putR rows k v = rows ++ [(k, v)] := by
  unfold putR
  rw [if_neg (by rw [rowAt_mem]; exact h)]
theorem take_get {α : Type} {xs : List α} {i : Nat} {x : α} (h : xs[i]? = some x) : xs.take (i + 1) = xs.take i ++ [x] := by rw [List.take_succ, h]; rfl
theorem nd_take {rows : List (V × V)} (h : (rows.map (·.1)).Nodup) {i : Nat} {r : V × V} (e : rows[i]? = some r) : r.1 ∉ (rows.take i).map (·.1) := by
  have h2 : ((rows.take (i + 1)).map (·.1)).Nodup := ((List.take_sublist _ _).map _).nodup h
  rw [take_get e, List.map_append, List.nodup_append] at h2
  exact fun m => h2.2.2 _ m _ (by simp) rfl
theorem ok_forkTable (A : AtM K c.Table "fork" "Table.fork" s_Table_fork ["self"]) (T : Txt K mg c) (M_Table : HasC P w K mg base CX0 c.Table "Table" 1 ["self"] (spMkTab w c)) (M_Table_put : HasM P w K mg base CX0 c.Table "put" 2 ["self", "key", "value"] (spPut w c)) (M_Table_pairs : HasM P w K mg base CX0 c.Table "pairs" 1 ["self"] (spPairs w c)) : HasM P w K mg base CX0 c.Table "fork" 3 ["self"] (spFork w c pTable) := by
  have Sc := sc_Table_fork
  refine hasM_of A Sc (fun vs H Q E h => ?_) (fun cdv f A outer s H vs Q E hr h => ?_)
  · unfold spFork at h; split at h; rfl; cases h
  · unfold spFork at h
    split at h
    · rename_i a
      obtain ⟨b, t, ht, ⟨rs, rfl⟩, hs, h⟩ := h
      obtain ⟨d, rows, rfl, ⟨dx, e1⟩, e2, e3⟩ := ht
      have hle : rows.length = rs.length := Paired.length e3
      have hs : rs.length < 100000 := hs
      refine ⟨_, (pss_cons (ps_set (i := 1) Sc.nd rfl (.inl rfl) (fe_make0 M_Table (hr.mono (by walk_at "rm")) (by rfl) pass0))
      (pss_cons (ps_for PassesOwn.never rfl (pi_list (fe_meth0 M_Table_pairs T.cl_Table (hr.mono (by walk_at "rm")) pass0 (fe_var 0))) (pg_tup (n := 2) rfl (pgs_cons (pg_name (i := 2) Sc.nd rfl (.inl rfl)) (pgs_cons (pg_name (i := 3) Sc.nd rfl (.inl rfl)) pgs_nil))) (pss_one (ps_expr (fe_meth M_Table_put T.cl_Table (hr.mono (by walk_at "rm")) pass0 (fe_var 1) (pa_cons (fe_var 2) (pa_cons (fe_var 3) pa_nil))))))
      (pss_one (ps_ret (fe_var 1))))), ?_⟩
      walk_at "fx0"
      walk_at "ox"
      intro y d2 H1 ny nd2 s1 ⟨dx1, ey⟩ TR0
      have e1' := s1 _ _ e1
      refine cut_ fun N hN => for_ ?_
      repeat (first | walk_at "oxs" | simp only [e1'])
      refine ⟨d, rows, ⟨dx, e1'⟩, e2.same s1, by omega, fun p ts H2 np s2 ep hts => ?_⟩
      have nyp : y ≠ p := fun z => by rw [← z, ey] at np; cases np
      have nd2y : d2 ≠ y := fun z => by obtain ⟨⟨es, D, e0, r⟩, _⟩ := TR0; rw [z, ey] at e0; cases e0
      have npd2 : p ≠ d2 := fun z => by obtain ⟨⟨es, D, e0, r⟩, _⟩ := TR0; rw [z, e0] at np; cases np
      have S2 := s1.trans s2
      have ey2 := s2 _ _ ey
      have htp : ∀ t ∈ ts, t ≠ d2 := fun t m z => by
        obtain ⟨⟨es, D, e0, r⟩, _⟩ := TR0.same s2
        obtain ⟨i, hi, rfl⟩ := List.getElem_of_mem m
        obtain ⟨r', _, hr'⟩ := paired_get hts (List.getElem?_eq_getElem hi)
        rw [z, e0] at hr'
        exact nkO_ne_tup (Option.some.inj hr')
      refine ⟨p, rfl, ⟨_, .inl (.inl ep)⟩, ?_⟩
      refine loop_list (ts.map V.ref) (fun i σ H' => Keep [d2] H2 H' ∧ TabR w H' d2 (rows.take i) ∧ ∃ v2 v3, σ = [some (.ref a), some (.ref y), v2, v3]) ⟨Keep.refl, TR0.same s2, _, _, rfl⟩ (fun i σ H' _ ⟨k, _⟩ => .inl (.inl (k _ _ (by simpa using npd2) ep))) ?_ ?_
      · rintro i x σ H3 hx ⟨k3, TR3, v2, v3, rfl⟩
        rw [List.getElem?_map] at hx
        obtain ⟨t, et, rfl⟩ := Option.map_eq_some_iff.mp hx
        obtain ⟨r, hr1, hr2⟩ := paired_get hts et
        have et3 := k3 _ _ (by simpa using htp t (List.mem_of_getElem? et)) hr2
        have ey3 := k3 _ _ (by simpa using Ne.symm nd2y) ey2
        have hi := (List.getElem?_eq_some_iff.mp hr1).1
        walk_at "ox"
        refine ⟨_, SqT.of et3, ?_⟩
        repeat (first | walk_at "oxs" | simp only [ey3])
        obtain ⟨⟨es0, D0, e00, r0⟩, nd0⟩ := e2
        refine ⟨d2, _, ⟨dx1, ey3⟩, TR3, ?_, by rw [List.length_take]; omega, fun H4 k4 TR4 => ?_⟩
        · obtain ⟨e', he', hr'⟩ : ∃ e', es0[i]? = some e' ∧ RowE H e' r := by
            have hlen : es0.length = rows.length := Paired.length r0
            refine ⟨es0[i]'(by omega), List.getElem?_eq_getElem _, ?_⟩
            obtain ⟨r2, q1, q2⟩ := paired_get r0 (List.getElem?_eq_getElem (show i < es0.length by omega))
            rw [hr1] at q1
            cases q1
            exact q2
          exact hr'.2.1
        · rw [putR_new (nd_take nd0 hr1)] at TR4
          rw [take_get hr1]
          walk_at "ox"
          exact ⟨k3.trans k4, TR4, _, rfl⟩
      · rintro σ H3 ⟨k3, TR3, v2, v3, rfl⟩
        refine hN _ _ ?_
        walk_at "ox"
        have e9 : rows.take (ts.map V.ref).length = rows := by rw [List.length_map, show ts.length = rows.length from Paired.length hts, List.take_length]
        rw [e9] at TR3
        have sm : Same H H3 := same_keep S2 k3 (fun q m => by rw [List.mem_singleton.mp m]; exact nd2)
        exact h y (some d2) H3 sm ⟨d2, rows, rfl, ⟨dx1, k3 _ _ (by simpa using Ne.symm nd2y) ey2⟩, TR3, Paired.mapP e3 fun _ _ z => ⟨z.1.same sm, z.2.same sm⟩⟩ (foot_two nd2y) (free_two ny nd2)
    · cases h
end

section
variable {P : Program} {w : World} {K : PySem.W.Frag} {mg : Str → Option Value} {base : Heap} {c : Cs}
/-! ### a copy of a store -/
def spSFork (w : World) (c : Cs) : Sp := fun vs H Q _ => match vs with
  | [.ref y] => ∃ x S, y = x.y ∧ Sto w c H x S ∧ S.things.length < 99999 ∧ S.out.length < 99999 ∧ (∀ t ∈ S.things, SzT t) ∧ ∀ x' H', Same H H' → Sto w c H' x' S → (∀ q ∈ x'.foot, H q = none) → Q (.ref x'.y) H'
  | _ => False
def ForkI (w : World) (c : Cs) (H1 : Hp) (D0 : Addr) (things : List Th) (i : Nat) (H' : Hp) : Prop := ∃ L : List (Addr × Option Addr), Same H1 H' ∧ H' D0 = some (.lst (L.map fun p => V.ref p.1)) ∧ Paired (fun p t => ThAt w c H' p.1 p.2 t) L (things.take i) ∧ (D0 :: footL L).Nodup ∧ ∀ q ∈ D0 :: footL L, H1 q = none
theorem footL_snoc {L : List (Addr × Option Addr)} {a : Addr} {b : Option Addr} : footL (L ++ [(a, b)]) = footL L ++ footT a b := by simp [footL]
theorem ForkI.step {H1 H2 H3 : Hp} {D0 : Addr} {things : List Th} {i : Nat} {t : Th} {a : Addr} {b : Option Addr} (h : ForkI w c H1 D0 things i H2) (e : things[i]? = some t) (s : Same H2 H3) (ht : ThAt w c H3 a b t) (hn : (footT a b).Nodup) (hf : ∀ q ∈ footT a b, H2 q = none) :
    ∃ acc, H3 D0 = some (.lst acc) ∧ acc.length = i ∧ ForkI w c H1 D0 things (i + 1) (upd H3 D0 (.lst (acc ++ [.ref a]))) := by
  obtain ⟨L, s1, eD, hL, nd, fr⟩ := h
  have eD3 := s _ _ eD
  have hlen : L.length = i := by
    have := Paired.length hL
    rw [List.length_take] at this
    have hi := (List.getElem?_eq_some_iff.mp e).1
    omega
  refine ⟨_, eD3, by rw [List.length_map, hlen], L ++ [(a, b)], mk_same (s1.trans s) (fr D0 (List.mem_cons_self ..)), by rw [upd_same]; simp, ?_, ?_, ?_⟩
  · have so : ∀ p ∈ [D0], Soft c H3 p := fun p m => by rw [List.mem_singleton.mp m]; exact soft_lst eD3
    have kk : Keep [D0] H3 (upd H3 D0 (.lst ((L.map fun p => V.ref p.1) ++ [.ref a]))) := Keep.refl.upd (by simp)
    rw [take_get e]
    refine Paired.snoc (Paired.mapP (paired_mem hL) fun p t z => (z.2.same s).keep kk so fun q hq hm => ?_) (ht.keep kk so fun q hq hm => ?_)
    · rw [List.mem_singleton.mp hm] at hq
      exact (List.nodup_cons.mp nd).1 (mem_footL z.1 hq)
    · rw [List.mem_singleton.mp hm] at hq
      rw [hf _ hq] at eD; cases eD
  · rw [footL_snoc]
    obtain ⟨n1, n2⟩ := List.nodup_cons.mp nd
    rw [List.nodup_cons, List.nodup_append]
    have live : ∀ q ∈ footL L, ∃ o, H2 q = some o := fun q m => by
      obtain ⟨p, hp, hq⟩ := List.mem_flatMap.mp m
      obtain ⟨j, hj, rfl⟩ := List.getElem_of_mem hp
      obtain ⟨t', _, ht'⟩ := paired_get hL (List.getElem?_eq_getElem hj)
      exact ht'.live q hq
    refine ⟨fun m => ?_, n2, hn, fun p hp q hq z => ?_⟩
    · rcases List.mem_append.mp m with m | m
      · exact n1 m
      · rw [hf _ m] at eD; cases eD
    · obtain ⟨o, eo⟩ := live p hp
      rw [z, hf _ hq] at eo; cases eo
  · intro q m
    rw [footL_snoc] at m
    rcases List.mem_cons.mp m with rfl | m
    · exact fr _ (List.mem_cons_self ..)
    · rcases List.mem_append.mp m with m | m
      · exact fr _ (List.mem_cons_of_mem _ m)
      · exact s1.free (hf _ m)
def pAll (t : Th) : Prop := pParts t ∨ pTable t ∨ pKin t ∨ pCur t ∨ pInst t
theorem ok_sfork (A : AtM K c.Store "fork" "Store.fork" s_Store_fork ["self"]) (T : Txt K mg c) (M_Store : HasC P w K mg base CX0 c.Store "Store" 3 ["self", "lines"] (spStore w K c)) (M_Parts_fork : HasM P w K mg base CX0 c.Parts "fork" 3 ["self"] (spFork w c pParts)) (M_Table_fork : HasM P w K mg base CX0 c.Table "fork" 3 ["self"] (spFork w c pTable)) (M_Kin_fork : HasM P w K mg base CX0 c.Kin "fork" 3 ["self"] (spFork w c pKin)) (M_Cursor_fork : HasM P w K mg base CX0 c.Cursor "fork" 3 ["self"] (spFork w c pCur))
    (M_Instance_fork : HasM P w K mg base CX0 c.Instance "fork" 3 ["self"] (spFork w c pInst)) : HasM P w K mg base CX0 c.Store "fork" 5 ["self"] (spSFork w c) := by
  have Sc := sc_Store_fork
  refine hasM_of A Sc (fun vs H Q E h => ?_) (fun cdv f A outer s H vs Q E hr h => ?_)
  · unfold spSFork at h; split at h; rfl; cases h
  · unfold spSFork at h
    split at h
    · rename_i y
      obtain ⟨x, S, rfl, hS, hl, hlo, hz, h⟩ := h
      obtain ⟨sdx, es⟩ := hS.st
      refine ⟨_, (pss_cons (ps_set (i := 1) Sc.nd rfl (.inl rfl) (fe_make (k := _) M_Store (hr.mono (by walk_at "rm")) (by rfl) pass0 (pa_cons (fe_fld (fe_var 0) T.pl_lines rfl) pa_nil)))
      (pss_cons (fs_fld (fe_var 1) (pe_lc (own := [("thing", 2)]) (by rfl) Sc.nd (pi_list (fe_fld (fe_var 0) T.pl_things rfl)) (blkOk_by (own := [("thing", 2)]) (N := ["self", "double", "thing"]) (sc := defScope s_Store_fork) (by decide +kernel)) (fun _ _ _ _ _ => (pg_name (i := 2) Sc.nd rfl (.inl rfl))) (fun _ _ _ _ _ => pts_nil) (fun _ _ _ _ _ => (pe_either (fe_meth0 M_Parts_fork T.cl_Parts (hr.mono (by walk_at "rm")) pass0 (fe_var 2)) (pe_either (fe_meth0 M_Table_fork T.cl_Table (hr.mono (by walk_at "rm")) pass0 (fe_var 2)) (pe_either (fe_meth0 M_Kin_fork T.cl_Kin (hr.mono (by walk_at "rm")) pass0 (fe_var 2)) (pe_either (fe_meth0 M_Cursor_fork T.cl_Cursor (hr.mono (by walk_at "rm")) pass0 (fe_var 2)) (fe_meth0 M_Instance_fork T.cl_Instance (hr.mono (by walk_at "rm")) pass0 (fe_var 2)))))))) T.pl_things rfl)
      (pss_cons (fs_fld (fe_var 1) (pe_callTy call_fListOf (by rfl) T.no_list (by decide +kernel) (pa_cons (fe_fld (fe_var 0) T.pl_output rfl) pa_nil)) T.pl_output rfl)
      (pss_cons (fs_fld (fe_var 1) (fe_fld (fe_var 0) T.pl_taken rfl) T.pl_taken rfl)
      (pss_one (ps_ret (fe_var 1))))))), ?_⟩
      walk_at "fx0"
      repeat (first | walk_at "oxs" | simp only [es])
      refine ⟨S.lines, rl_l hS.el, fun x1 H1 St s1 hfr => ?_⟩
      have es1 := s1 _ _ es
      have S1 := hS.same s1
      repeat (first | walk_at "oxs" | simp only [es1])
      refine lc_ ?_
      repeat (first | walk_at "oxs" | simp only [es1])
      first
        | refine ⟨⟨_, .inl (.inl S1.et)⟩, fun D0 nD => ?_⟩
        | refine ⟨_, .inl (.inl S1.et), fun D0 nD => ?_⟩
        | skip
      have nDt : D0 ≠ x.tl := fun z => by rw [z, S1.et] at nD; cases nD
      refine lcx_list (xs := x.L.map fun p => V.ref p.1) (ForkI w c H1 D0 S.things) ⟨[], same_new nD, upd_same, .nil, by simp [footL], fun q m => by rw [List.mem_singleton.mp m]; exact nD⟩ (fun i H' _ ⟨L, s2, _⟩ => .inl (.inl (s2 _ _ S1.et))) ?_ ?_
      · rintro i v H2 hv hI
        rw [List.getElem?_map] at hv
        obtain ⟨p, ep, rfl⟩ := Option.map_eq_some_iff.mp hv
        obtain ⟨t, et, ht⟩ := paired_get S1.th ep
        obtain ⟨L0, s2, _⟩ := id hI
        walk_at "ox"
        have fin : ∀ a' b' H', Same H2 H' → ThAt w c H' a' b' t → (footT a' b').Nodup → (∀ q ∈ footT a' b', H2 q = none) → ∃ acc, H' D0 = some (.lst acc) ∧ acc.length < sizeLine ∧ ForkI w c H1 D0 S.things (i + 1) (upd H' D0 (.lst (acc ++ [.ref a']))) := fun a' b' H' s3 ht' hn' hf' => by
          obtain ⟨acc, q1, q2, q3⟩ := hI.step et s3 ht' hn' hf'
          have hi := (List.getElem?_eq_some_iff.mp et).1
          exact ⟨acc, q1, len_line' (by omega), q3⟩
        have ht2 := ht.same s2
        obtain ⟨tdx, tfs, eti⟩ := ht2.ins
        cases t with
        | parts rs =>
          obtain ⟨dx, l, xs, _, e1, _⟩ := id ht2
          refine .inl ?_
          repeat (first | walk_at "oxs" | simp only [e1])
          exact ⟨_, _, ht2, ⟨_, rfl⟩, hz _ (List.mem_of_getElem? et), fin⟩
        | table rs =>
          obtain ⟨d, rws, _, ⟨dx, e1⟩, _⟩ := id ht2
          refine .inr (.inl ?_)
          repeat (first | walk_at "oxs" | simp only [e1])
          exact ⟨_, _, ht2, ⟨_, rfl⟩, hz _ (List.mem_of_getElem? et), fin⟩
        | kin n q m =>
          obtain ⟨dx, pv, md, kvs, _, e1, _⟩ := id ht2
          refine .inr (.inr (.inl ?_))
          repeat (first | walk_at "oxs" | simp only [e1])
          exact ⟨_, _, ht2, ⟨_, _, _, rfl⟩, hz _ (List.mem_of_getElem? et), fin⟩
        | cur rs =>
          obtain ⟨dx, l, xs, _, e1, _⟩ := id ht2
          refine .inr (.inr (.inr (.inl ?_)))
          repeat (first | walk_at "oxs" | simp only [e1])
          exact ⟨_, _, ht2, ⟨_, rfl⟩, hz _ (List.mem_of_getElem? et), fin⟩
        | inst n q =>
          obtain ⟨dx, ra, nd, kvs, _, e1, _⟩ := id ht2
          refine .inr (.inr (.inr (.inr ?_)))
          repeat (first | walk_at "oxs" | simp only [e1])
          exact ⟨_, _, ht2, ⟨_, _, rfl⟩, hz _ (List.mem_of_getElem? et), fin⟩
        | _ => exact ht2.elim
      · rintro H2 ⟨L, s2, eD, hL, nd, fr⟩
        have nd1 := St.nd
        have lv := St.live
        obtain ⟨ydx, ey⟩ := St.st
        have ey2 := s2 _ _ ey
        repeat (first | walk_at "oxs" | simp only [ey2])
        have nyx : x.y ≠ x1.y := fun z => by have := hfr x1.y (by simp [SA.foot]); rw [← z, es] at this; cases this
        have esX : ∀ o, upd H2 x1.y o x.y = some (.ins c.Store sdx [("things", .ref x.tl), ("output", .ref x.ol), ("lines", .ref x.ll), ("taken", .int (S.taken : Nat))]) := fun o => (upd_ne nyx).trans (s2 _ _ es1)
        repeat (first | walk_at "oxs" | simp only [esX])
        have nyo : x.ol ≠ x1.y := fun z => by have := hfr x1.y (by simp [SA.foot]); rw [← z, hS.eo] at this; cases this
        refine ⟨_, rl_l ((upd_ne nyo).trans (s2 _ _ S1.eo)), fun o2 H3 no2 s3 eo2 => ?_⟩
        have ey3 := s3 _ _ upd_same
        have es3 := s3 _ _ (esX _)
        have no2y : o2 ≠ x1.y := fun z => by rw [z, upd_same] at no2; cases no2
        have no2H : H2 o2 = none := by rw [upd_ne no2y] at no2; exact no2
        repeat (first | walk_at "oxs" | simp only [ey3])
        have esY : ∀ o, upd H3 x1.y o x.y = some (.ins c.Store sdx [("things", .ref x.tl), ("output", .ref x.ol), ("lines", .ref x.ll), ("taken", .int (S.taken : Nat))]) := fun o => (upd_ne nyx).trans es3
        repeat (first | walk_at "oxs" | simp only [esY])
        have my : x1.y ∈ x1.foot := by simp [SA.foot]
        have mll : x1.ll ∈ x1.foot := by simp [SA.foot]
        have ell1 := St.el
        have f1 : ∀ q ∈ D0 :: footL L, q ≠ x1.y := fun q m z => by have := fr q m; rw [z, ey] at this; cases this
        have f2 : ∀ q ∈ D0 :: footL L, q ≠ x1.ll := fun q m z => by have := fr q m; rw [z, ell1] at this; cases this
        have nly : x1.ll ≠ x1.y := fun z => by
          have nd1 := nd1
          simp only [SA.foot, List.nodup_cons, List.mem_cons, not_or] at nd1
          exact nd1.1.2.2.1 z.symm
        have live : ∀ q ∈ footL L, ∃ o, H2 q = some o := fun q m => by
          obtain ⟨p, hp, hq⟩ := List.mem_flatMap.mp m
          obtain ⟨j, hj, rfl⟩ := List.getElem_of_mem hp
          obtain ⟨t', _, ht'⟩ := paired_get hL (List.getElem?_eq_getElem hj)
          exact ht'.live q hq
        have hy0 := hfr _ my
        have k4 : Keep [x1.y] H2 (upd H3 x1.y (.ins c.Store ydx [("things", .ref D0), ("output", .ref o2), ("lines", .ref x1.ll), ("taken", .int (S.taken : Nat))])) := ((Keep.refl.upd (by simp)).trans (Keep.of s3)).upd (by simp)
        have so : ∀ p ∈ [x1.y], Soft c H2 p := fun p m o e hd => by
          rw [List.mem_singleton.mp m, ey2] at e
          cases e
          rcases hd with ⟨_, z⟩ | ⟨_, _, z⟩ | ⟨_, _, z⟩
          · cases z
          · have z' : c.Store = c.Ref := by injection z
            simp only [T.ne] at z'
          · have z' : c.Store = c.Builtin := by injection z
            simp only [T.ne] at z'
        have sm : Same H (upd H3 x1.y (.ins c.Store ydx [("things", .ref D0), ("output", .ref o2), ("lines", .ref x1.ll), ("taken", .int (S.taken : Nat))])) := same_keep (s1.trans s2) k4 fun q m => by rw [List.mem_singleton.mp m]; exact hy0
        have htl : S.things.take (x.L.map fun p => V.ref p.1).length = S.things := List.take_of_length_le (by rw [List.length_map, Paired.length hS.th]; exact Nat.le_refl _)
        rw [htl] at hL
        refine h ⟨x1.y, D0, o2, x1.ll, L⟩ _ sm ⟨⟨ydx, upd_same⟩, ?_, (upd_ne no2y).trans eo2, ?_, ?_, ?_⟩ fun q m => ?_
        · exact k4 _ _ (by simpa using f1 D0 (List.mem_cons_self ..)) eD
        · exact k4 _ _ (by simpa using nly) (s2 _ _ ell1)
        · exact Paired.mapP (paired_mem hL) fun p t z => z.2.keep k4 so fun q hq hm => f1 q (List.mem_cons_of_mem _ (mem_footL z.1 hq)) (List.mem_singleton.mp hm)
        · have nol : o2 ≠ x1.ll := fun z => by rw [z, s2 _ _ ell1] at no2H; cases no2H
          have noD : D0 ≠ o2 := fun z => by rw [z, no2H] at eD; cases eD
          simp only [SA.foot, List.nodup_cons, List.mem_cons, not_or]
          exact ⟨⟨(f1 D0 (List.mem_cons_self ..)).symm, no2y.symm, nly.symm, fun m => f1 _ (List.mem_cons_of_mem _ m) rfl⟩, ⟨noD, f2 D0 (List.mem_cons_self ..), (List.nodup_cons.mp nd).1⟩, ⟨nol, fun m => by obtain ⟨o, e⟩ := live _ m; rw [no2H] at e; cases e⟩, fun m => f2 _ (List.mem_cons_of_mem _ m) rfl, (List.nodup_cons.mp nd).2⟩
        · simp only [SA.foot, List.mem_cons] at m
          rcases m with rfl | rfl | rfl | rfl | m
          · exact hy0
          · exact s1.free (fr _ (List.mem_cons_self ..))
          · exact (s1.trans s2).free no2H
          · exact hfr _ mll
          · exact s1.free (fr _ (List.mem_cons_of_mem _ m))
    · cases h
end

section
variable {P : Program} {w : World} {K : PySem.W.Frag} {mg : Str → Option Value} {base : Heap} {c : Cs}
/-! ### the law's state, the store and the law's own things, apart from each other -/
structure Wd (K : PySem.W.Frag) (w : World) (c : Cs) (H0 : Hp) (s sc : Addr) (ns : List Int) (x : SA) (S : SV) (G : Hp → Prop) (gf : List Addr) (H : Hp) : Prop where
  dr : Dr K H0 s sc ns H
  st : Sto w c H x S
  g : G H
  gm : ∀ H H', G H → HardStay c H H' → (∀ q ∈ gf, ∀ o, H q = some o → H' q = some o) → G H'
  gl : ∀ q ∈ gf, ∃ o, H q = some o
  nd : (s :: (x.foot ++ gf)).Nodup
  fr : ∀ q ∈ s :: (x.foot ++ gf), H0 q = none
section
variable {H0 : Hp} {s sc : Addr} {ns : List Int} {x : SA} {S : SV} {G : Hp → Prop} {gf : List Addr} {H H1 : Hp}
theorem Wd.s_foot (W : Wd K w c H0 s sc ns x S G gf H) : ∀ {q : Addr}, q ∈ x.foot → s ≠ q := fun {q} m e => (List.nodup_cons.mp W.nd).1 (by rw [e]; exact List.mem_append_left _ m)
theorem Wd.s_gf (W : Wd K w c H0 s sc ns x S G gf H) : ∀ {q : Addr}, q ∈ gf → s ≠ q := fun {q} m e => (List.nodup_cons.mp W.nd).1 (by rw [e]; exact List.mem_append_right _ m)
theorem Wd.f_gf (W : Wd K w c H0 s sc ns x S G gf H) : ∀ {p q : Addr}, p ∈ x.foot → q ∈ gf → p ≠ q := fun {p q} m n e => (List.nodup_append.mp (List.nodup_cons.mp W.nd).2).2.2 p m q n e
theorem Wd.f0 (W : Wd K w c H0 s sc ns x S G gf H) : ∀ {q : Addr}, q ∈ x.foot → H0 q = none := fun m => W.fr _ (List.mem_cons_of_mem _ (List.mem_append_left _ m))
theorem Wd.g0 (W : Wd K w c H0 s sc ns x S G gf H) : ∀ {q : Addr}, q ∈ gf → H0 q = none := fun m => W.fr _ (List.mem_cons_of_mem _ (List.mem_append_right _ m))
theorem Wd.s_soft (W : Wd K w c H0 s sc ns x S G gf H) : ∀ p ∈ [s], Soft c H p := fun p m => by
  obtain ⟨a, k, e, _⟩ := W.dr.st
  rw [List.mem_singleton.mp m]; exact soft_lst e
theorem Wd.live (W : Wd K w c H0 s sc ns x S G gf H) : ∀ {q : Addr}, q ∈ s :: (x.foot ++ gf) → ∃ o, H q = some o := fun {q} m => by
  rcases List.mem_cons.mp m with rfl | m
  · obtain ⟨a, k, e, _⟩ := W.dr.st; exact ⟨_, e⟩
  · rcases List.mem_append.mp m with m | m
    · exact W.st.live q m
    · exact W.gl q m
theorem Wd.gkeep (W : Wd K w c H0 s sc ns x S G gf H) {ps : List Addr} (k : Keep ps H H1) (so : ∀ p ∈ ps, Soft c H p) (n : ∀ q ∈ gf, q ∉ ps) : G H1 ∧ ∀ q ∈ gf, ∃ o, H1 q = some o :=
  ⟨W.gm _ _ W.g (.keep k so) fun q m o e => k _ _ (n q m) e, fun q m => (W.gl q m).imp fun o e => k _ _ (n q m) e⟩
theorem Wd.draw (W : Wd K w c H0 s sc ns x S G gf H) (k : Keep [s] H H1) (d : Dr K H0 s sc ns H1) : Wd K w c H0 s sc ns x S G gf H1 := by
  obtain ⟨g1, g2⟩ := W.gkeep k W.s_soft fun q m n => W.s_gf m (List.mem_singleton.mp n).symm
  exact ⟨d, W.st.keep k W.s_soft fun q m n => W.s_foot m (List.mem_singleton.mp n).symm, g1, W.gm, g2, W.nd, W.fr⟩
theorem Wd.same (W : Wd K w c H0 s sc ns x S G gf H) (k : Same H H1) : Wd K w c H0 s sc ns x S G gf H1 :=
  ⟨W.dr.same k, W.st.same k, W.gm _ _ W.g (.same k) fun q _ o e => k _ _ e, W.gm, fun q m => (W.gl q m).imp fun o e => k _ _ e, W.nd, W.fr⟩
theorem Wd.make (W : Wd K w c H0 s sc ns x S G gf H) {a : Addr} {b : Option Addr} {t : Th} (hf : ∀ q ∈ footT a b, H q = none) (k : Keep [x.tl] H H1) (st : Sto w c H1 (x.add a b) (S.add t)) : Wd K w c H0 s sc ns (x.add a b) (S.add t) G gf H1 := by
  have mt : x.tl ∈ x.foot := by simp [SA.foot]
  have n0 : ∀ q ∈ footT a b, q ∉ s :: (x.foot ++ gf) := fun q hq m => by obtain ⟨o, e⟩ := W.live m; rw [hf q hq] at e; cases e
  obtain ⟨g1, g2⟩ := W.gkeep k W.st.soft_tl fun q m n => W.f_gf mt m (List.mem_singleton.mp n).symm
  refine ⟨W.dr.keep k (fun n => W.s_foot mt (List.mem_singleton.mp n)) fun q n => by rw [List.mem_singleton.mp n]; exact W.f0 mt, st, g1, W.gm, g2, ?_, ?_⟩
  · have nd2 := st.nd
    rw [foot_add] at nd2 ⊢
    rw [List.nodup_cons, List.nodup_append]
    refine ⟨fun m => ?_, nd2, (List.nodup_append.mp (List.nodup_cons.mp W.nd).2).2.1, fun p hp q hq e => ?_⟩
    · rcases List.mem_append.mp m with m | m
      · rcases List.mem_append.mp m with m | m
        · exact W.s_foot m rfl
        · exact n0 s m (List.mem_cons_self ..)
      · exact W.s_gf m rfl
    · rcases List.mem_append.mp hp with hp | hp
      · exact W.f_gf hp hq e
      · exact n0 p hp (by rw [e]; exact List.mem_cons_of_mem _ (List.mem_append_right _ hq))
  · intro q m
    rw [foot_add] at m
    rcases List.mem_cons.mp m with rfl | m
    · exact W.fr _ (List.mem_cons_self ..)
    · rcases List.mem_append.mp m with m | m
      · rcases List.mem_append.mp m with m | m
        · exact W.f0 m
        · exact W.dr.sm.free (hf q m)
      · exact W.g0 m
theorem Wd.set (W : Wd K w c H0 s sc ns x S G gf H) {S' : SV} {q : Addr} (hq : q ∈ x.foot) (k : Keep [q] H H1) (so : Soft c H q) (st : Sto w c H1 x S') : Wd K w c H0 s sc ns x S' G gf H1 := by
  obtain ⟨g1, g2⟩ := W.gkeep k (fun p m => by rw [List.mem_singleton.mp m]; exact so) fun p m n => W.f_gf hq m (List.mem_singleton.mp n).symm
  exact ⟨W.dr.keep k (fun n => W.s_foot hq (List.mem_singleton.mp n)) fun p n => by rw [List.mem_singleton.mp n]; exact W.f0 hq, st, g1, W.gm, g2, W.nd, W.fr⟩
/-- the law's own things are changed at q, its own -/
theorem Wd.own (W : Wd K w c H0 s sc ns x S G gf H) {G' : Hp → Prop} {q : Addr} (hq : q ∈ gf) (k : Keep [q] H H1) (so : Soft c H q) (l : ∃ o, H1 q = some o) (g : G' H1) (gm : ∀ H H', G' H → HardStay c H H' → (∀ q ∈ gf, ∀ o, H q = some o → H' q = some o) → G' H') : Wd K w c H0 s sc ns x S G' gf H1 := by
  refine ⟨W.dr.keep k (fun n => W.s_gf hq (List.mem_singleton.mp n)) fun p n => by rw [List.mem_singleton.mp n]; exact W.g0 hq, W.st.keep k (fun p m => by rw [List.mem_singleton.mp m]; exact so) fun p m n => W.f_gf m hq (List.mem_singleton.mp n), g, gm, fun p m => ?_, W.nd, W.fr⟩
  by_cases e : p = q
  · rw [e]; exact l
  · exact (W.gl p m).imp fun o z => k _ _ (by simpa using e) z
/-- the law's own things grow by new ones -/
theorem Wd.grow (W : Wd K w c H0 s sc ns x S G gf H) {G' : Hp → Prop} {qs : List Addr} (k : Same H H1) (nq : ∀ q ∈ qs, H q = none) (hn : qs.Nodup) (l : ∀ q ∈ qs, ∃ o, H1 q = some o) (g : G' H1) (gm : ∀ H H', G' H → HardStay c H H' → (∀ q ∈ gf ++ qs, ∀ o, H q = some o → H' q = some o) → G' H') : Wd K w c H0 s sc ns x S G' (gf ++ qs) H1 := by
  have n0 : ∀ q ∈ qs, q ∉ s :: (x.foot ++ gf) := fun q hq m => by obtain ⟨o, e⟩ := W.live m; rw [nq q hq] at e; cases e
  refine ⟨W.dr.same k, W.st.same k, g, gm, fun q m => ?_, ?_, fun q m => ?_⟩
  · rcases List.mem_append.mp m with m | m
    · exact (W.gl q m).imp fun o e => k _ _ e
    · exact l q m
  · have e : s :: (x.foot ++ (gf ++ qs)) = (s :: (x.foot ++ gf)) ++ qs := by simp
    rw [e, List.nodup_append]
    exact ⟨W.nd, hn, fun p hp q hq z => n0 q hq (by rw [← z]; exact hp)⟩
  · have e : s :: (x.foot ++ (gf ++ qs)) = (s :: (x.foot ++ gf)) ++ qs := by simp
    rw [e] at m
    rcases List.mem_append.mp m with m | m
    · exact W.fr q m
    · exact W.dr.sm.free (nq q m)
/-- the store is changed at its own places, and may get new ones -/
theorem Wd.mv (W : Wd K w c H0 s sc ns x S G gf H) {x' : SA} {S' : SV} {ps : List Addr} (k : Keep ps H H1) (hps : ∀ p ∈ ps, p ∈ x.foot) (so : ∀ p ∈ ps, Soft c H p) (st : Sto w c H1 x' S') (hf : ∀ q ∈ x'.foot, q ∈ x.foot ∨ H q = none) : Wd K w c H0 s sc ns x' S' G gf H1 := by
  obtain ⟨g1, g2⟩ := W.gkeep k so fun p m n => W.f_gf (hps p n) m rfl
  have n0 : ∀ {q : Addr}, H q = none → q ∉ s :: (x.foot ++ gf) := fun e m => by obtain ⟨o, z⟩ := W.live m; rw [e] at z; cases z
  refine ⟨W.dr.keep k (fun n => W.s_foot (hps _ n) rfl) fun p n => W.f0 (hps p n), st, g1, W.gm, g2, ?_, ?_⟩
  · rw [List.nodup_cons, List.nodup_append]
    refine ⟨fun m => ?_, st.nd, (List.nodup_append.mp (List.nodup_cons.mp W.nd).2).2.1, fun p hp q hq e => ?_⟩
    · rcases List.mem_append.mp m with m | m
      · rcases hf _ m with z | z
        · exact W.s_foot z rfl
        · exact n0 z (List.mem_cons_self ..)
      · exact W.s_gf m rfl
    · rcases hf _ hp with z | z
      · exact W.f_gf z hq e
      · exact n0 z (by rw [e]; exact List.mem_cons_of_mem _ (List.mem_append_right _ hq))
  · intro q m
    rcases List.mem_cons.mp m with rfl | m
    · exact W.fr _ (List.mem_cons_self ..)
    · rcases List.mem_append.mp m with m | m
      · rcases hf _ m with z | z
        · exact W.f0 z
        · exact W.dr.sm.free z
      · exact W.g0 m
/-- the law's own things are changed at their places, and may get new ones -/
theorem Wd.mvG (W : Wd K w c H0 s sc ns x S G gf H) {G' : Hp → Prop} {gf' ps : List Addr} (k : Keep ps H H1) (hps : ∀ p ∈ ps, p ∈ gf) (so : ∀ p ∈ ps, Soft c H p) (hn : gf'.Nodup) (hf : ∀ q ∈ gf', q ∈ gf ∨ H q = none) (l : ∀ q ∈ gf', ∃ o, H1 q = some o) (g : G' H1) (gm : ∀ H H', G' H → HardStay c H H' → (∀ q ∈ gf', ∀ o, H q = some o → H' q = some o) → G' H') : Wd K w c H0 s sc ns x S G' gf' H1 := by
  have n0 : ∀ {q : Addr}, H q = none → q ∉ s :: (x.foot ++ gf) := fun e m => by obtain ⟨o, z⟩ := W.live m; rw [e] at z; cases z
  refine ⟨W.dr.keep k (fun n => W.s_gf (hps _ n) rfl) fun p n => W.g0 (hps p n), W.st.keep k so fun p m n => W.f_gf m (hps _ n) rfl, g, gm, l, ?_, ?_⟩
  · rw [List.nodup_cons, List.nodup_append]
    refine ⟨fun m => ?_, W.st.nd, hn, fun p hp q hq e => ?_⟩
    · rcases List.mem_append.mp m with m | m
      · exact W.s_foot m rfl
      · rcases hf _ m with z | z
        · exact W.s_gf z rfl
        · exact n0 z (List.mem_cons_self ..)
    · rcases hf _ hq with z | z
      · exact W.f_gf hp z e
      · exact n0 z (by rw [← e]; exact List.mem_cons_of_mem _ (List.mem_append_left _ hp))
  · intro q m
    rcases List.mem_cons.mp m with rfl | m
    · exact W.fr _ (List.mem_cons_self ..)
    · rcases List.mem_append.mp m with m | m
      · exact W.f0 m
      · rcases hf _ m with z | z
        · exact W.g0 z
        · exact W.dr.sm.free z
/-- a change at places that are nobody's -/
theorem Wd.junk (W : Wd K w c H0 s sc ns x S G gf H) {ps : List Addr} (k : Keep ps H H1) (so : ∀ p ∈ ps, Soft c H p) (h0 : ∀ p ∈ ps, H0 p = none) (n : ∀ p ∈ ps, p ∉ s :: (x.foot ++ gf)) : Wd K w c H0 s sc ns x S G gf H1 := by
  obtain ⟨g1, g2⟩ := W.gkeep k so fun q m z => n q z (List.mem_cons_of_mem _ (List.mem_append_right _ m))
  exact ⟨W.dr.keep k (fun z => n _ z (List.mem_cons_self ..)) h0, W.st.keep k so fun q m z => n q z (List.mem_cons_of_mem _ (List.mem_append_left _ m)), g1, W.gm, g2, W.nd, W.fr⟩
/-- the same, told otherwise -/
theorem Wd.as (W : Wd K w c H0 s sc ns x S G gf H) {G' : Hp → Prop} {gf' : List Addr} (p : gf.Perm gf') (g : ∀ H, G H → G' H) (gm : ∀ H H', G' H → HardStay c H H' → (∀ q ∈ gf', ∀ o, H q = some o → H' q = some o) → G' H') : Wd K w c H0 s sc ns x S G' gf' H :=
  ⟨W.dr, W.st, g _ W.g, gm, fun q m => W.gl q (p.mem_iff.mpr m), ((p.append_left x.foot).cons s).nodup_iff.mp W.nd, fun q m => W.fr q (((p.append_left x.foot).cons s).mem_iff.mpr m)⟩
end
end

section
variable {P : Program} {w : World} {K : PySem.W.Frag} {mg : Str → Option Value} {base : Heap} {c : Cs}
/-! ### keys checked, put; maps made -/
def spIsKey : Sp := fun vs H Q _ => match vs with
  | [v] => scV v = true ∧ ∀ H1, Same H H1 → Q (.bl true) H1
  | _ => False
theorem ok_iskey (A : At K mg "is_key" "is_key" s_is_key ["value"]) (T : Txt K mg c) : Has P w K mg base CX0 "is_key" 1 ["value"] spIsKey := by
  have Sc := sc_is_key
  refine has_of A Sc (fun vs H Q E h => ?_) (fun cdv f A outer s H vs Q E hr h => ?_)
  · unfold spIsKey at h; split at h; rfl; cases h
  · unfold spIsKey at h
    split at h
    · rename_i v
      obtain ⟨hv, h⟩ := h
      refine ⟨_, (pss_one (ps_ret (pe_not (pe_callB (call_fIsiP T.kit) (by rfl) T.no_isinstance (by decide +kernel) (pa_cons (fe_var 0) (pa_cons (fe_tup (pa_cons (pe_glob (v := .ref c.Ref) (by rfl) T.mg_Ref rfl) (pa_cons (pe_glob (v := .ref c.Builtin) (by rfl) T.mg_Builtin rfl) pa_nil))) pa_nil)))))), ?_⟩
      walk_at "fx0"
      cases v <;> first
        | (cases hv; done)
        | (repeat (walk_at "oxs")
           intro p H2 np s2 e2
           simp only [e2]
           repeat (walk_at "oxs")
           exact h H2 s2)
    · cases h
def spChkKey : Sp := fun vs H Q _ => match vs with
  | [v] => scV v = true ∧ ∀ H1, Same H H1 → Q v H1
  | _ => False
theorem ok_chkkey (A : At K mg "checked_key" "checked_key" s_checked_key ["i"]) (T : Txt K mg c) (H_is_key : Has P w K mg base CX0 "is_key" 1 ["value"] spIsKey) (E_ScriptError : HasE P w K mg base c.ScriptError "ScriptError" 2 (two "kind" "message")) : Has P w K mg base (L2.CX P w) "checked_key" 3 ["i"] spChkKey := by
  have Sc := sc_checked_key
  refine hasX_of A Sc (fun vs H Q E h => ?_) (fun cdv f A outer s H vs Q E hr h => ?_)
  · unfold spChkKey at h; split at h; rfl; cases h
  · unfold spChkKey at h
    split at h
    · rename_i v
      obtain ⟨hv, h⟩ := h
      refine ⟨_, (pss_cons (ps_if (pt_not (pt_val (fe_call H_is_key (hr.mono (by walk_at "rm")) (by rfl) pass0 (pa_cons (fe_var 0) pa_nil)))) (pss_one (fs_raise rfl tk_of E_ScriptError (by decide) (hr.mono (by walk_at "rm")) (by rfl) (pa_cons pe_str (pa_cons pe_str pa_nil)))) pss_nil)
      (pss_one (ps_ret (fe_var 0)))), ?_⟩
      walk_at "fx0"
      repeat (first | walk_at "oxs" | simp only [spIsKey])
      refine ⟨hv, fun H1 s1 => ?_⟩
      repeat (walk_at "oxs")
      exact h H1 s1
    · cases h
def spPutKey (w : World) (c : Cs) : Sp := fun vs H Q _ => match vs with
  | [.ref a, k, v] => ∃ d rows, IsTab c H a d ∧ TabR w H d rows ∧ scV k = true ∧ rows.length < 1000 ∧ ∀ H1, Keep [d] H H1 → TabR w H1 d (putR rows k v) → Q .non H1
  | _ => False
theorem ok_putkey (A : At K mg "put_key" "put_key" s_put_key ["table", "key", "value"]) (T : Txt K mg c) (M_Table_has : HasM P w K mg base CX0 c.Table "has" 2 ["self", "key"] (spHas w c)) (M_Table_put : HasM P w K mg base CX0 c.Table "put" 2 ["self", "key", "value"] (spPut w c)) (P_Table_many : HasP P w K mg base CX0 c.Table "many" 1 ["self"] (spMany w c)) (H_check_parts : Has P w K mg base (L2.CX P w) "check_parts" 3 ["count"] (spCheck c)) : Has P w K mg base (L2.CX P w) "put_key" 4 ["table", "key", "value"] (spPutKey w c) := by
  have Sc := sc_put_key
  refine hasX_of A Sc (fun vs H Q E h => ?_) (fun cdv f A outer s H vs Q E hr h => ?_)
  · unfold spPutKey at h; split at h; rfl; cases h
  · unfold spPutKey at h
    split at h
    · rename_i a k v
      obtain ⟨d, rows, ⟨dx, ea⟩, TR, hk, hn, h⟩ := h
      refine ⟨_, (pss_cons (ps_if (pt_not (pt_val (fe_meth M_Table_has T.cl_Table (hr.mono (by walk_at "rm")) pass0 (fe_var 0) (pa_cons (fe_var 1) pa_nil)))) (pss_one (ps_expr (fe_callX H_check_parts (hr.mono (by walk_at "rm")) (by rfl) tk_of (pa_cons (pe_op op_fAdd (fe_prop P_Table_many T.cl_Table (hr.mono (by walk_at "rm")) pass0 (fe_var 0) rfl) pe_int) pa_nil)))) pss_nil)
      (pss_one (ps_expr (fe_meth M_Table_put T.cl_Table (hr.mono (by walk_at "rm")) pass0 (fe_var 0) (pa_cons (fe_var 1) (pa_cons (fe_var 2) pa_nil)))))), ?_⟩
      walk_at "fx0"
      walk_at "ox"
      refine cut_ fun N hN => ifs_ ?_
      have fin : ∀ H1, Same H H1 → N [some (.ref a), some k, some v] H1 := fun H1 s1 => by
        refine hN _ _ ?_
        walk_at "ox"
        simp only [s1 _ _ ea]
        walk_at "ox"
        refine ⟨d, rows, ⟨dx, s1 _ _ ea⟩, TR.same s1, hk, by omega, fun H2 k2 TR2 => h H2 ((Keep.of s1).trans k2) TR2⟩
      repeat (first | walk_at "oxs" | simp only [ea])
      refine ⟨d, rows, ⟨dx, ea⟩, TR, hk, fun H1 s1 => ?_⟩
      repeat (first | walk_at "oxs" | simp only [s1 _ _ ea])
      split
      · refine ⟨d, rows, ⟨dx, s1 _ _ ea⟩, TR.same s1, ?_⟩
        show spCheck c [.int ((rows.length : Nat) + 1)] H1 _ E
        unfold spCheck
        dsimp only
        rw [if_neg (by omega)]
        exact fin H1 s1
      · exact fin H1 s1
    · cases h
end

section
variable {P : Program} {w : World} {K : PySem.W.Frag} {mg : Str → Option Value} {base : Heap} {c : Cs}
/-! ### maps made; iterators -/
def spMkMap (w : World) (c : Cs) : Sp := fun vs H Q _ => match vs with
  | [.ref y, .ref l] => ∃ x S ts rows rs, y = x.y ∧ Sto w c H x S ∧ H l = some (.lst (ts.map V.ref)) ∧ RowsT H ts rows ∧ (rows.map (·.1)).Nodup ∧ (∀ r ∈ rows, scV r.1 = true) ∧ Paired (fun x r => IsVal c H x.1 r.1 ∧ IsVal c H x.2 r.2) rows rs ∧ rows.length ≤ 1000 ∧ S.things.length < 99999 ∧ NewTh w c H x S (.table rs) Q
  | _ => False
theorem ok_mkmap (A : At K mg "make_map" "make_map" s_make_map ["store", "pairs"]) (T : Txt K mg c) (M_Table : HasC P w K mg base CX0 c.Table "Table" 1 ["self"] (spMkTab w c)) (H_checked_key : Has P w K mg base (L2.CX P w) "checked_key" 3 ["i"] spChkKey) (H_put_key : Has P w K mg base (L2.CX P w) "put_key" 4 ["table", "key", "value"] (spPutKey w c)) (M_Store_make : HasM P w K mg base CX0 c.Store "make" 3 ["self", "thing"] (spMake w c)) : Has P w K mg base (L2.CX P w) "make_map" 5 ["store", "pairs"] (spMkMap w c) := by
  have Sc := sc_make_map
  refine hasX_of A Sc (fun vs H Q E h => ?_) (fun cdv f A outer s H vs Q E hr h => ?_)
  · unfold spMkMap at h; split at h; rfl; cases h
  · unfold spMkMap at h
    split at h
    · rename_i y l
      obtain ⟨x, S, ts, rows, rs, rfl, hS, el, hts, hnd, hsc, hv, hn, hl, h⟩ := h
      have hle : ts.length = rows.length := Paired.length hts
      obtain ⟨sdx, es⟩ := hS.st
      refine ⟨_, (pss_cons (ps_set (i := 2) Sc.nd rfl (.inl rfl) (fe_make0 M_Table (hr.mono (by walk_at "rm")) (by rfl) pass0))
      (pss_cons (ps_for (passes_of rfl) rfl (pi_list (fe_var 1)) (pg_tup (n := 2) rfl (pgs_cons (pg_name (i := 3) Sc.nd rfl (.inl rfl)) (pgs_cons (pg_name (i := 4) Sc.nd rfl (.inl rfl)) pgs_nil))) (pss_one (ps_expr (fe_callX H_put_key (hr.mono (by walk_at "rm")) (by rfl) tk_of (pa_cons (fe_var 2) (pa_cons (fe_callX H_checked_key (hr.mono (by walk_at "rm")) (by rfl) tk_of (pa_cons (fe_var 3) pa_nil)) (pa_cons (fe_var 4) pa_nil)))))))
      (pss_one (ps_ret (fe_meth M_Store_make T.cl_Store (hr.mono (by walk_at "rm")) pass0 (fe_var 0) (pa_cons (fe_var 2) pa_nil)))))), ?_⟩
      walk_at "fx0"
      walk_at "ox"
      intro a d H1 na nd s1 ⟨dx1, ea⟩ TR0
      have ne : d ≠ a := fun z => by obtain ⟨⟨es', D, e0, r⟩, _⟩ := TR0; rw [z, ea] at e0; cases e0
      have nl : l ≠ d := fun z => by rw [z, nd] at el; cases el
      refine cut_ fun N hN => for_ ?_
      repeat (walk_at "oxs")
      refine ⟨⟨_, .inl (.inl (s1 _ _ el))⟩, ?_⟩
      refine loop_list (ts.map V.ref) (fun i σ H' => Keep [d] H1 H' ∧ TabR w H' d (rows.take i) ∧ ∃ v3 v4, σ = [some (.ref x.y), some (.ref l), some (.ref a), v3, v4]) ⟨Keep.refl, TR0, _, _, rfl⟩ (fun i σ H' _ ⟨k, _⟩ => .inl (.inl (k _ _ (by simpa using nl) (s1 _ _ el)))) ?_ ?_
      · rintro i v σ H3 hx ⟨k3, TR3, v2, v3, rfl⟩
        rw [List.getElem?_map] at hx
        obtain ⟨t, et, rfl⟩ := Option.map_eq_some_iff.mp hx
        obtain ⟨r, hr1, hr2⟩ := paired_get hts et
        have htd : t ≠ d := fun z => by rw [z, nd] at hr2; cases hr2
        have et3 := k3 _ _ (by simpa using htd) (s1 _ _ hr2)
        have ea3 := k3 _ _ (by simpa using Ne.symm ne) ea
        have hi := (List.getElem?_eq_some_iff.mp hr1).1
        have hk := hsc _ (List.mem_of_getElem? hr1)
        walk_at "ox"
        refine ⟨_, SqT.of et3, ?_⟩
        walk_at "ox"
        refine ⟨hk, fun H4 s4 => ?_⟩
        refine ⟨d, _, ⟨dx1, s4 _ _ ea3⟩, TR3.same s4, hk, by rw [List.length_take]; omega, fun H5 k5 TR5 => ?_⟩
        rw [putR_new (nd_take hnd hr1)] at TR5
        rw [take_get hr1]
        exact ⟨(k3.trans (Keep.of s4)).trans k5, TR5, _, rfl⟩
      · rintro σ H3 ⟨k3, TR3, v2, v3, rfl⟩
        refine hN _ _ ?_
        have e9 : rows.take (ts.map V.ref).length = rows := by rw [List.length_map, hle, List.take_length]
        rw [e9] at TR3
        have sm : Same H H3 := same_keep s1 k3 (fun q m => by rw [List.mem_singleton.mp m]; exact nd)
        have ea3 := k3 _ _ (by simpa using Ne.symm ne) ea
        have es3 := sm _ _ es
        repeat (first | walk_at "oxs" | simp only [es3])
        exact new_make (t := .table rs) (b := some d) hS sm ⟨d, rows, rfl, ⟨dx1, ea3⟩, TR3, Paired.mapP hv fun _ _ z => ⟨z.1.same sm, z.2.same sm⟩⟩ (foot_two ne) (free_two na nd) hl h
    · cases h
def charsR (z : Str) : List RV := z.cps.toList.map fun ch => .txt ⟨#[ch]⟩
def curR (S : SV) : RV → Option (List RV)
  | .txt z => some (charsR z)
  | .ob n => match S.things[n]? with
    | some (.parts rs) => some rs
    | some (.table rows) => some (rows.map fun z => z.1)
    | _ => none
  | _ => none
def SzR (S : SV) : RV → Prop
  | .txt z => z.length ≤ 1000
  | .ob n => ∀ t, S.things[n]? = some t → SzT t
  | _ => True
def noThr (S : SV) (r : RV) : Str := "" ++ "cannot go through " ++ kindR S r
theorem noThr_len {S : SV} {r : RV} : (kindR S r).length ≤ sizeLine ∧ (("" : Str) ++ "cannot go through " ++ kindR S r : Str).length ≤ sizeLine := by
  have h := kindR_len (S := S) (r := r)
  have e0 : Str.length ("" : Str) = 0 := rfl
  have e1 : Str.length ("cannot go through " : Str) = 18 := rfl
  simp only [Str.length_append, e0, e1, sizeLine_eq]
  omega
theorem keys_vs {H : Hp} {rws : List (V × V)} {rows : List (RV × RV)} (h : Paired (fun x r => IsVal c H x.1 r.1 ∧ IsVal c H x.2 r.2) rws rows) : VsAt c H (rws.map fun z => z.1) (rows.map fun z => z.1) := by
  induction h with
  | nil => exact .nil
  | cons a b ih => exact .cons a.1 ih
def spMkCur (w : World) (c : Cs) : Sp := fun vs H Q E => match vs with
  | [.ref y, v] => ∃ x S r, y = x.y ∧ Sto w c H x S ∧ IsVal c H v r ∧ WfR S r ∧ SzR S r ∧ S.things.length < 99999 ∧ match curR S r with
    | some rs => NewTh w c H x S (.cur rs) Q
    | none => OutS c H "KindError" (noThr S r) E
  | _ => False
theorem chars_vs {H : Hp} {z : Str} : VsAt c H (z.cps.toList.map fun ch => V.str ⟨#[ch]⟩) (charsR z) := by
  unfold charsR
  induction z.cps.toList with
  | nil => exact .nil
  | cons a t ih => exact .cons rfl ih
theorem ok_mkcur (A : At K mg "make_cursor" "make_cursor" s_make_cursor ["store", "x"]) (T : Txt K mg c) (H_thing_of : Has P w K mg base CX0 "thing_of" 2 ["store", "value"] (spThing w c)) (H_kind_of : Has P w K mg base CX0 "kind_of" 3 ["store", "value"] (spKind w c)) (M_Cursor : HasC P w K mg base CX0 c.Cursor "Cursor" 1 ["self", "rest"] (spMk_Cursor K c)) (M_Table_pairs : HasM P w K mg base CX0 c.Table "pairs" 1 ["self"] (spPairs w c)) (M_Store_make : HasM P w K mg base CX0 c.Store "make" 3 ["self", "thing"] (spMake w c))
    (E_ScriptError : HasE P w K mg base c.ScriptError "ScriptError" 2 (two "kind" "message")) : Has P w K mg base (L2.CX P w) "make_cursor" 4 ["store", "x"] (spMkCur w c) := by
  have Sc := sc_make_cursor
  refine hasX_of A Sc (fun vs H Q E h => ?_) (fun cdv f A outer s H vs Q E hr h => ?_)
  · unfold spMkCur at h; split at h; rfl; cases h
  · unfold spMkCur at h
    split at h
    · rename_i y v
      obtain ⟨x, S, r, rfl, hS, hv, hw, hz, hl, h⟩ := h
      obtain ⟨sdx, es⟩ := hS.st
      refine ⟨_, (pss_cons (ps_if (pt_val (pe_callB (call_fIsiA T.kit) (by rfl) T.no_isinstance (by decide +kernel) (pa_cons (fe_var 1) (pa_cons (fe_ty (n := "str") (by rfl) T.no_str (by decide +kernel)) pa_nil)))) (pss_one (ps_ret (fe_meth M_Store_make T.cl_Store (hr.mono (by walk_at "rm")) pass0 (fe_var 0) (pa_cons (fe_make (k := _) M_Cursor (hr.mono (by walk_at "rm")) (by rfl) pass0 (pa_cons (pe_lc (own := [("at", 3)]) (by rfl) Sc.nd (pi_range1 (by rfl) T.no_range (pa_cons (pe_callB call_fLen (by rfl) T.no_len (by decide +kernel) (pa_cons (fe_var 1) pa_nil)) pa_nil)) (blkOk_by (own := [("at", 3)]) (N := ["store", "x", "thing", "at", "pair"]) (sc := defScope s_make_cursor) (by decide +kernel)) (fun _ _ _ _ _ => (pg_name (i := 3) Sc.nd rfl (.inl rfl))) (fun _ _ _ _ _ => pts_nil) (fun _ _ _ _ _ => (pe_ix (ix_fxK (K := K) rfl) (fe_var 1) (fe_var 3) (fun _ _ => rfl)))) pa_nil)) pa_nil)))) pss_nil)
      (pss_cons (ps_set (i := 2) Sc.nd rfl (.inl rfl) (fe_call H_thing_of (hr.mono (by walk_at "rm")) (by rfl) pass0 (pa_cons (fe_var 0) (pa_cons (fe_var 1) pa_nil))))
      (pss_cons (ps_if (pt_val (pe_callB (call_fIsiO T.kit) (by rfl) T.no_isinstance (by decide +kernel) (pa_cons (fe_var 2) (pa_cons (pe_glob (v := .ref c.Parts) (by rfl) T.mg_Parts rfl) pa_nil)))) (pss_one (ps_ret (fe_meth M_Store_make T.cl_Store (hr.mono (by walk_at "rm")) pass0 (fe_var 0) (pa_cons (fe_make (k := _) M_Cursor (hr.mono (by walk_at "rm")) (by rfl) pass0 (pa_cons (fe_fld (fe_var 2) T.pl_held rfl) pa_nil)) pa_nil)))) pss_nil)
      (pss_cons (ps_if (pt_val (pe_callB (call_fIsiO T.kit) (by rfl) T.no_isinstance (by decide +kernel) (pa_cons (fe_var 2) (pa_cons (pe_glob (v := .ref c.Table) (by rfl) T.mg_Table rfl) pa_nil)))) (pss_one (ps_ret (fe_meth M_Store_make T.cl_Store (hr.mono (by walk_at "rm")) pass0 (fe_var 0) (pa_cons (fe_make (k := _) M_Cursor (hr.mono (by walk_at "rm")) (by rfl) pass0 (pa_cons (pe_lc (own := [("pair", 4)]) (by rfl) Sc.nd (pi_list (fe_meth0 M_Table_pairs T.cl_Table (hr.mono (by walk_at "rm")) pass0 (fe_var 2))) (blkOk_by (own := [("pair", 4)]) (N := ["store", "x", "thing", "at", "pair"]) (sc := defScope s_make_cursor) (by decide +kernel)) (fun _ _ _ _ _ => (pg_name (i := 4) Sc.nd rfl (.inl rfl))) (fun _ _ _ _ _ => pts_nil) (fun _ _ _ _ _ => (pe_ix (ix_fxK (K := K) rfl) (fe_var 4) pe_int (fun _ _ => rfl)))) pa_nil)) pa_nil)))) pss_nil)
      (pss_one (fs_raise rfl tk_of E_ScriptError (by decide) (hr.mono (by walk_at "rm")) (by rfl) (pa_cons pe_str (pa_cons (fe_joined (pf_cons pe_str (pf_cons (fe_fmt (fe_call H_kind_of (hr.mono (by walk_at "rm")) (by rfl) pass0 (pa_cons (fe_var 0) (pa_cons (fe_var 1) pa_nil)))) PF_nil))) pa_nil)))))))), ?_⟩
      walk_at "fx0"
      have hv0 := hv
      cases r with
      | txt z =>
        cases hv
        repeat (walk_at "oxs")
        simp only [es]
        walk_at "ox"
        have hz : z.length ≤ 1000 := hz
        refine lc_ ?_
        walk_at "ox"
        refine ⟨Nat.le_of_lt (len_line' (by omega)), ?_⟩
        refine ⟨by omega, by omega, fun D0 nD => ?_⟩
        have hlz : z.cps.toList.length = z.length := Array.length_toList
        refine lcx_range (fun i H' => Same H H' ∧ H' D0 = some (.lst ((z.cps.toList.map fun ch => V.str ⟨#[ch]⟩).take i))) ⟨same_new nD, upd_same⟩ ?_ ?_
        · rintro i H' hi ⟨s1, eD⟩
          have hc : z.cps.toList[i]? = some (z.cps.toList[i]'(by omega)) := List.getElem?_eq_getElem _
          generalize z.cps.toList[i]'(by omega) = ch at hc
          walk_at "ox"
          refine ⟨Nat.le_of_lt (len_line' (by omega)), _, atI_nat hc, _, eD, len_line' (by rw [List.length_take]; omega), mk_same s1 nD, ?_⟩
          rw [take_get (x := V.str ⟨#[ch]⟩) (by rw [List.getElem?_map, hc]; rfl)]
        · rintro H1 ⟨s1, eD⟩
          rw [List.take_of_length_le (by rw [List.length_map]; omega)] at eD
          refine ⟨_, rl_l eD, ?_⟩
          intro a dx p H2 na s2 ea np ep hne
          exact new_make (t := .cur (charsR z)) (b := some p) hS (s1.trans s2) ⟨dx, p, _, rfl, ea, ep, chars_vs⟩ (foot_two hne) (free_two (s1.free na) (s1.free np)) hl h
      | ob n =>
        obtain ⟨ra, rfl, rdx, e1⟩ := hv
        have hn := hw n rfl
        obtain ⟨t, et⟩ : ∃ t, S.things[n]? = some t := ⟨S.things[n], List.getElem?_eq_getElem hn⟩
        have hsz : SzT t := hz t et
        repeat (first | walk_at "oxs" | simp only [e1])
        refine ⟨x, S, .ob n, rfl, hS, hv0, hw, fun tv h1 h2 _ => ?_⟩
        obtain ⟨a', b, rfl, h3, h4⟩ := h2 n t rfl et
        obtain ⟨dx2, fs2, e2⟩ := h4.ins
        have hc : curR S (.ob n) = match (generalizing := false) t with | .parts rs => some rs | .table rows => some (rows.map fun z : RV × RV => z.1) | _ => none := by
          simp only [curR]
          rw [et]
          cases t <;> rfl
        rw [hc] at h
        cases t with
        | parts rs =>
          simp only [clsT] at e2
          obtain ⟨dx3, l, xs, rfl, g1, g2, g3⟩ := h4
          repeat (first | walk_at "oxs" | simp only [g1] | simp only [es])
          refine ⟨_, rl_l g2, ?_⟩
          intro a dx p H2 na s2 ea np ep hne
          exact new_make (t := .cur rs) (b := some p) hS s2 ⟨dx, p, _, rfl, ea, ep, g3.hs (.same s2)⟩ (foot_two hne) (free_two na np) hl h
        | table rows =>
          simp only [clsT] at e2
          obtain ⟨d, rws, rfl, ⟨dx3, g1⟩, g2, g3⟩ := h4
          have hlr : rws.length = rows.length := Paired.length g3
          have hsz : rows.length < 100000 := hsz
          repeat (first | walk_at "oxs" | simp only [g1] | simp only [es])
          refine lc_ ?_
          repeat (first | walk_at "oxs" | simp only [g1] | simp only [es])
          refine ⟨d, rws, ⟨dx3, g1⟩, g2, by omega, fun p ts H1 np s1 ep hts => ?_⟩
          have hlt : ts.length = rws.length := Paired.length hts
          refine ⟨p, rfl, ⟨_, .inl (.inl ep)⟩, fun D0 nD => ?_⟩
          have nDp : D0 ≠ p := fun z => by rw [z, ep] at nD; cases nD
          refine lcx_list (xs := ts.map V.ref) (fun i H' => Same H1 H' ∧ H' D0 = some (.lst ((rws.map fun z => z.1).take i))) ⟨same_new nD, upd_same⟩ (fun i H' _ ⟨s2, _⟩ => .inl (.inl (s2 _ _ ep))) ?_ ?_
          · rintro i v H' hi ⟨s2, eD⟩
            rw [List.getElem?_map] at hi
            obtain ⟨t, et, rfl⟩ := Option.map_eq_some_iff.mp hi
            obtain ⟨r, hr1, hr2⟩ := paired_get hts et
            have hi := (List.getElem?_eq_some_iff.mp hr1).1
            walk_at "ox"
            refine ⟨_, rl_t (s2 _ _ hr2), r.1, rfl, _, eD, len_line' (by rw [List.length_take, List.length_map]; omega), mk_same s2 nD, ?_⟩
            rw [take_get (x := r.1) (by rw [List.getElem?_map, hr1]; rfl)]
          · rintro H2 ⟨s2, eD⟩
            rw [List.take_of_length_le (by rw [List.length_map, List.length_map]; omega)] at eD
            refine ⟨_, rl_l eD, ?_⟩
            intro a dx p H3 na s3 ea np ep hne
            have S3 := (s1.trans s2).trans s3
            have hvs := keys_vs g3
            exact new_make (t := .cur (rows.map fun z => z.1)) (b := some p) hS S3 ⟨dx, p, _, rfl, ea, ep, hvs.hs (.same S3)⟩ (foot_two hne) (free_two ((s1.trans s2).free na) ((s1.trans s2).free np)) hl h
        | _ =>
          first
            | exact h4.elim
            | (simp only [clsT] at e2
               repeat (first | walk_at "oxs" | simp only [e2])
               refine ⟨by decide, x, S, .ob n, rfl, hS, hv0, hw, noThr_len.1, noThr_len.2, ?_⟩
               exact h)
      | bt z =>
        obtain ⟨ra, rfl, rdx, e1⟩ := hv
        repeat (first | walk_at "oxs" | simp only [e1])
        refine ⟨x, S, .bt z, rfl, hS, hv0, hw, fun tv h1 h2 h3 => ?_⟩
        have etv := h3 fun n z => by cases z
        subst etv
        repeat (first | walk_at "oxs" | simp only [e1])
        refine ⟨by decide, x, S, .bt z, rfl, hS, hv0, hw, noThr_len.1, noThr_len.2, ?_⟩
        exact h
      | nul =>
        cases hv
        repeat (walk_at "oxs")
        refine ⟨x, S, .nul, rfl, hS, hv0, hw, fun tv h1 h2 h3 => ?_⟩
        have etv := h3 fun n z => by cases z
        subst etv
        repeat (walk_at "oxs")
        refine ⟨by decide, x, S, .nul, rfl, hS, hv0, hw, noThr_len.1, noThr_len.2, ?_⟩
        exact h
      | boo b =>
        cases hv
        repeat (walk_at "oxs")
        refine ⟨x, S, .boo b, rfl, hS, hv0, hw, fun tv h1 h2 h3 => ?_⟩
        have etv := h3 fun n z => by cases z
        subst etv
        repeat (walk_at "oxs")
        refine ⟨by decide, x, S, .boo b, rfl, hS, hv0, hw, noThr_len.1, noThr_len.2, ?_⟩
        exact h
      | num b =>
        cases hv
        repeat (walk_at "oxs")
        refine ⟨x, S, .num b, rfl, hS, hv0, hw, fun tv h1 h2 h3 => ?_⟩
        have etv := h3 fun n z => by cases z
        subst etv
        repeat (walk_at "oxs")
        refine ⟨by decide, x, S, .num b, rfl, hS, hv0, hw, noThr_len.1, noThr_len.2, ?_⟩
        exact h
    · cases h
theorem cut_first (xs : List V) : cutV xs none (some 1) = xs.take 1 := by
  unfold cutV HT.sIx
  cases xs with
  | nil => rfl
  | cons a t =>
    simp
    try omega
theorem cut_rest (xs : List V) : cutV xs (some 1) none = xs.drop 1 := by
  unfold cutV HT.sIx
  cases xs with
  | nil => rfl
  | cons a t =>
    simp
    try omega
def spNext (w : World) (c : Cs) : Sp := fun vs H Q _ => match vs with
  | [.ref y, .ref r] => ∃ x S n rs, y = x.y ∧ Sto w c H x S ∧ IsRef c H r (n : Nat) ∧ S.things[n]? = some (.cur rs) ∧ rs.length < 100000 ∧ ∀ f ys x' ps H1, x'.y = x.y → H f = none → f ∉ x'.foot → H1 f = some (.lst ys) → VsAt c H1 ys (rs.take 1) → Keep ps H H1 → (∀ q ∈ ps, q ∈ x.foot) → (∀ q ∈ ps, Soft c H q) → Sto w c H1 x' (S.setT n (.cur (rs.drop 1))) → (∀ q ∈ x'.foot, q ∈ x.foot ∨ H q = none) → Q (.ref f) H1
  | _ => False
theorem ok_next (A : At K mg "next_of" "next_of" s_next_of ["store", "ref"]) (T : Txt K mg c) (M_Store_at : HasM P w K mg base CX0 c.Store "at" 1 ["self", "ref"] (spAt w c)) : Has P w K mg base CX0 "next_of" 3 ["store", "ref"] (spNext w c) := by
  have Sc := sc_next_of
  refine has_of A Sc (fun vs H Q E h => ?_) (fun cdv f A outer s H vs Q E hr h => ?_)
  · unfold spNext at h; split at h; rfl; cases h
  · unfold spNext at h
    split at h
    · rename_i y r
      obtain ⟨x, S, n, rs, rfl, hS, hr0, et, hn, h⟩ := h
      obtain ⟨sdx, es⟩ := hS.st
      refine ⟨_, (pss_cons (ps_set (i := 2) Sc.nd rfl (.inl rfl) (fe_meth M_Store_at T.cl_Store (hr.mono (by walk_at "rm")) pass0 (fe_var 0) (pa_cons (fe_var 1) pa_nil)))
      (pss_cons (ps_set (i := 3) Sc.nd rfl (.inl rfl) (pe_slice sl_fx (fe_fld (fe_var 2) T.pl_rest rfl) po_none (po_some pe_int)))
      (pss_cons (fs_fld (fe_var 2) (pe_slice sl_fx (fe_fld (fe_var 2) T.pl_rest rfl) (po_some pe_int) po_none) T.pl_rest rfl)
      (pss_one (ps_ret (fe_var 3)))))), ?_⟩
      walk_at "fx0"
      obtain ⟨rdx, er⟩ := id hr0
      repeat (first | walk_at "oxs" | simp only [es])
      refine ⟨x, S, n, _, rfl, hS, hr0, et, fun a b hx ht => ?_⟩
      obtain ⟨dx, l, xs, rfl, e1, e2, e3⟩ := id ht
      have hlx : xs.length = rs.length := Paired.length e3
      repeat (first | walk_at "oxs" | simp only [e1])
      refine ⟨_, .inl (.inl e2), fun f H1 nf s1 ef => ?_⟩
      have e1' := s1 _ _ e1
      repeat (first | walk_at "oxs" | simp only [e1'])
      refine ⟨_, .inl (.inl (s1 _ _ e2)), fun l2 H2 nl2 s2 el2 => ?_⟩
      have e1'' := s2 _ _ e1'
      repeat (first | walk_at "oxs" | simp only [e1''])
      have hal : l ≠ a := fun z => by rw [z, e1] at e2; cases e2
      have hf : f ≠ a := fun z => by rw [z, e1] at nf; cases nf
      have hl2 : l2 ≠ a := fun z => by rw [z, e1''] at el2; rw [z] at nl2; rw [e1'] at nl2; cases nl2
      have so : ∀ p ∈ [a], Soft c H p := fun p m o e hd => by
        rw [List.mem_singleton.mp m, e1] at e
        cases e
        rcases hd with ⟨_, z⟩ | ⟨_, _, z⟩ | ⟨_, _, z⟩
        · cases z
        · have z' : c.Cursor = c.Ref := by injection z
          simp only [T.ne] at z'
        · have z' : c.Cursor = c.Builtin := by injection z
          simp only [T.ne] at z'
      have S2 := s1.trans s2
      have k2 : Keep [a] H (upd H2 a (.ins c.Cursor dx [("rest", .ref l2)])) := (Keep.of S2).upd (by simp)
      have hvs : VsAt c H (xs.drop 1) (rs.drop 1) := by
        cases e3 with
        | nil => exact .nil
        | cons _ t => exact t
      have hfs : VsAt c H (xs.take 1) (rs.take 1) := by
        cases e3 with
        | nil => exact .nil
        | cons z t => exact .cons z .nil
      obtain ⟨q1, q2⟩ := hS.mvT (b' := some l2) (t := .cur (rs.drop 1)) hx k2 (fun p m => by rw [List.mem_singleton.mp m]; simp [footT]) so ⟨dx, l2, xs.drop 1, rfl, upd_same, (upd_ne hl2).trans (by rw [el2, cut_rest]), hvs.hs (.keep k2 so)⟩ (foot_two hl2) (fun q m => by
        simp only [footT, Option.toList_some, List.mem_cons, List.not_mem_nil, or_false] at m ⊢
        rcases m with rfl | rfl
        · exact .inl (.inl rfl)
        · exact .inr (s1.free nl2))
      refine h f (xs.take 1) (x.setL n a (some l2)) [a] _ rfl nf ?_ ((upd_ne hf).trans (s2 _ _ (by rw [ef, cut_first]))) (hfs.hs (.keep k2 so)) k2 (fun q m => by rw [List.mem_singleton.mp m]; exact mem_add (List.mem_of_getElem? hx) (by simp [footT])) so q1 q2
      intro m
      have hff : f ≠ l2 := fun z => by rw [z] at ef; rw [ef] at nl2; cases nl2
      rcases setL_foot m with m | m
      · obtain ⟨o, eo⟩ := hS.live f m
        rw [nf] at eo; cases eo
      · simp only [footT, Option.toList_some, List.mem_cons, List.not_mem_nil, or_false] at m
        rcases m with m | m
        · exact hf m
        · exact hff m
    · cases h
end

section
variable {P : Program} {w : World} {K : PySem.W.Frag} {mg : Str → Option Value} {base : Heap} {c : Cs}
def spEqRef (c : Cs) : Sp := fun vs H Q _ => match vs with
  | [.ref a, .ref b] => ∃ n m, IsRef c H a n ∧ IsRef c H b m ∧ Q (.bl (decide (n = m))) H
  | _ => False
theorem ok_eqRef (A : AtM K c.Ref "__eq__" "Ref.__eq__" s_Ref___eq__ ["self", "other"]) (T : Txt K mg c) : HasM P w K mg base CX0 c.Ref "__eq__" 1 ["self", "other"] (spEqRef c) := by
  have Sc := sc_Ref___eq__
  refine hasM_of A Sc (fun vs H Q E h => ?_) (fun cdv f A outer s H vs Q E hr h => ?_)
  · unfold spEqRef at h; split at h; rfl; cases h
  · unfold spEqRef at h
    split at h
    · obtain ⟨n, m, ⟨dx, e1⟩, ⟨dy, e2⟩, k⟩ := h
      refine ⟨_, (pss_one (ps_ret (pe_and (pe_callB (call_fIsiO T.kit) (by rfl) T.no_isinstance (by decide +kernel) (pa_cons (fe_var 1) (pa_cons (pe_glob (v := .ref c.Ref) (by rfl) T.mg_Ref rfl) pa_nil))) (pe_one (pe_cmpR (op_fEq hr.units) (fe_fld (fe_var 0) T.pl_number rfl) (fe_fld (fe_var 1) T.pl_number rfl) (nomark _)))))), ?_⟩
      walk_at "fx0"
      repeat (first | walk_at "oxs" | simp only [e2] | simp only [e1])
      exact k
    · cases h
def spEqBt : Sp := fun _ _ _ _ => False
theorem ok_eqBt (A : AtM K c.Builtin "__eq__" "Builtin.__eq__" s_Builtin___eq__ ["self", "other"]) (T : Txt K mg c) : HasM P w K mg base CX0 c.Builtin "__eq__" 1 ["self", "other"] spEqBt := by
  have Sc := sc_Builtin___eq__
  exact hasM_of A Sc (fun vs H Q E h => h.elim) (fun cdv f A outer s H vs Q E hr h => h.elim)
def NoBt (rs : List RV) : Prop := ∀ z, RV.bt z ∉ rs
def spSame (c : Cs) : Sp := fun vs H Q _ => match vs with
  | [.ref a, .ref b] => ∃ xs ys rs, H a = some (.lst xs) ∧ H b = some (.lst ys) ∧ VsAt c H xs rs ∧ VsAt c H ys rs ∧ rs.length ≤ 1000 ∧ NoBt rs ∧ Q (.bl true) H
  | _ => False
theorem ok_same (A : At K mg "_law_same" "_law_same" s_law_same ["told", "due"]) (T : Txt K mg c) (M_Ref___eq__ : HasM P w K mg base CX0 c.Ref "__eq__" 1 ["self", "other"] (spEqRef c)) (M_Builtin___eq__ : HasM P w K mg base CX0 c.Builtin "__eq__" 1 ["self", "other"] spEqBt) : Has P w K mg base CX0 "_law_same" 2 ["told", "due"] (spSame c) := by
  have Sc := sc_law_same
  refine has_of A Sc (fun vs H Q E h => ?_) (fun cdv f A outer s H vs Q E hr h => ?_)
  · unfold spSame at h; split at h; rfl; cases h
  · unfold spSame at h
    split at h
    · rename_i a b
      obtain ⟨xs, ys, rs, ea, eb, hx, hy, hn, hb, h⟩ := h
      have h1 : xs.length = rs.length := Paired.length hx
      have h2 : ys.length = rs.length := Paired.length hy
      refine ⟨_, (pss_cons (ps_if (pt_cmpR (op_fNe hr.units) (pe_callB call_fLen (by rfl) T.no_len (by decide +kernel) (pa_cons (fe_var 0) pa_nil)) (pe_callB call_fLen (by rfl) T.no_len (by decide +kernel) (pa_cons (fe_var 1) pa_nil)) (nomark _)) (pss_one (ps_ret pe_bl)) pss_nil)
      (pss_cons (ps_for PassesOwn.never rfl (pi_range1 (by rfl) T.no_range (pa_cons (pe_callB call_fLen (by rfl) T.no_len (by decide +kernel) (pa_cons (fe_var 1) pa_nil)) pa_nil)) (pg_name (i := 2) Sc.nd rfl (.inl rfl)) (pss_one (ps_if (PW.pt (pw_or (pt_cmpR (op_fNe hr.units) (pe_callB (call_fIsiA T.kit) (by rfl) T.no_isinstance (by decide +kernel) (pa_cons (pe_ix ix_fx (fe_var 0) (fe_var 2) (fun _ _ => rfl)) (pa_cons (fe_ty (n := "bool") (by rfl) T.no_bool (by decide +kernel)) pa_nil))) (pe_callB (call_fIsiA T.kit) (by rfl) T.no_isinstance (by decide +kernel) (pa_cons (pe_ix ix_fx (fe_var 1) (fe_var 2) (fun _ _ => rfl)) (pa_cons (fe_ty (n := "bool") (by rfl) T.no_bool (by decide +kernel)) pa_nil))) (nomark _)) (pw_or1 (pt_not (pt_cmpR (op_fOr (op_fEqO M_Ref___eq__ (hr.mono (by walk_at "rm")) pass0) (op_fOr (op_fEqO M_Builtin___eq__ (hr.mono (by walk_at "rm")) pass0) (op_fEq hr.units))) (pe_ix ix_fx (fe_var 0) (fe_var 2) (fun _ _ => rfl)) (pe_ix ix_fx (fe_var 1) (fe_var 2) (fun _ _ => rfl)) (nomark _)))))) (pss_one (ps_ret pe_bl)) pss_nil)))
      (pss_one (ps_ret pe_bl)))), ?_⟩
      walk_at "fx0"
      walk_at "ox"
      refine cut_ fun N hN => ifs_ ?_
      walk_at "ox"
      refine ⟨_, rl_l ea, _, rl_l eb, ?_⟩
      rw [h1, h2, if_neg (by simp)]
      refine hN _ _ ?_
      walk_at "ox"
      refine cut_ fun N hN => for_ ?_
      walk_at "ox"
      refine ⟨_, rl_l eb, ?_⟩
      rw [h2]
      refine ⟨by omega, by omega, ?_⟩
      refine loop_range (fun i σ H' => H' = H ∧ ∃ v2, σ = [some (.ref a), some (.ref b), v2]) ⟨rfl, _, rfl⟩ ?_ ?_
      · rintro i σ H' hi ⟨rfl, v2, rfl⟩
        have hi1 : i < xs.length := by omega
        obtain ⟨r, e1, r1⟩ := paired_get hx (List.getElem?_eq_getElem hi1)
        have hi2 : i < ys.length := by omega
        obtain ⟨r', e2, r2⟩ := paired_get hy (List.getElem?_eq_getElem hi2)
        rw [e1] at e2
        cases e2
        have ax : atI xs (i : Nat) = some xs[i] := atI_nat (List.getElem?_eq_getElem hi1)
        have ay : atI ys (i : Nat) = some ys[i] := atI_nat (List.getElem?_eq_getElem hi2)
        generalize xs[i] = x0 at r1 ax
        generalize ys[i] = y0 at r2 ay
        cases r with
        | ob n =>
          obtain ⟨p, rfl, dx1, f1⟩ := r1
          obtain ⟨q, rfl, dx2, f2⟩ := r2
          walk_at "ox"
          refine ⟨_, rl_l ea, _, ax, ?_⟩
          repeat (first | walk_at "oxs" | simp only [f1])
          refine ⟨_, rl_l eb, _, ay, ?_⟩
          repeat (first | walk_at "oxs" | simp only [f2])
          refine ⟨_, rl_l ea, _, ax, ?_⟩
          refine ⟨_, rl_l eb, _, ay, ?_⟩
          refine .inl ⟨by rw [f1], by rw [f2], n, n, ⟨dx1, f1⟩, ⟨dx2, f2⟩, ?_⟩
          rw [decide_eq_true rfl]
          walk_at "ox"
          exact ⟨_, rfl⟩
        | bt z => exact absurd (List.mem_of_getElem? e1) (hb z)
        | nul =>
          cases r1; cases r2
          walk_at "ox"
          refine ⟨_, rl_l ea, _, ax, ?_⟩
          repeat (walk_at "oxs")
          refine ⟨_, rl_l eb, _, ay, ?_⟩
          repeat (walk_at "oxs")
          refine ⟨_, rl_l ea, _, ax, ?_⟩
          refine ⟨_, rl_l eb, _, ay, ?_⟩
          refine .inr (.inr ?_)
          repeat (walk_at "oxs")
          exact ⟨_, rfl⟩
        | boo b0 =>
          cases r1; cases r2
          walk_at "ox"
          refine ⟨_, rl_l ea, _, ax, ?_⟩
          repeat (walk_at "oxs")
          refine ⟨_, rl_l eb, _, ay, ?_⟩
          repeat (walk_at "oxs")
          refine ⟨_, rl_l ea, _, ax, ?_⟩
          refine ⟨_, rl_l eb, _, ay, ?_⟩
          refine .inr (.inr ?_)
          repeat (walk_at "oxs")
          exact ⟨_, rfl⟩
        | num b0 =>
          cases r1; cases r2
          walk_at "ox"
          refine ⟨_, rl_l ea, _, ax, ?_⟩
          repeat (walk_at "oxs")
          refine ⟨_, rl_l eb, _, ay, ?_⟩
          repeat (walk_at "oxs")
          refine ⟨_, rl_l ea, _, ax, ?_⟩
          refine ⟨_, rl_l eb, _, ay, ?_⟩
          refine .inr (.inr ?_)
          repeat (walk_at "oxs")
          exact ⟨_, rfl⟩
        | txt b0 =>
          cases r1; cases r2
          walk_at "ox"
          refine ⟨_, rl_l ea, _, ax, ?_⟩
          repeat (walk_at "oxs")
          refine ⟨_, rl_l eb, _, ay, ?_⟩
          repeat (walk_at "oxs")
          refine ⟨_, rl_l ea, _, ax, ?_⟩
          refine ⟨_, rl_l eb, _, ay, ?_⟩
          refine .inr (.inr ?_)
          repeat (walk_at "oxs")
          exact ⟨_, rfl⟩
      · rintro σ H' ⟨rfl, v2, rfl⟩
        refine hN _ _ ?_
        walk_at "ox"
        exact h
    · cases h
def spPick2 (K : PySem.W.Frag) : Sp := fun vs H Q _ => match vs with
  | [.ref s, r] => ∃ H0 sc ns xs, Dr K H0 s sc ns H ∧ (match r with | .ref a => ∀ H1, Keep [s] H H1 → Rl K H1 a xs | .str z => xs = z.cps.toList.map (fun ch => V.str ⟨#[ch]⟩) | _ => False) ∧ 0 < xs.length ∧ xs.length ≤ 1000 ∧ ∀ H1 v, Keep [s] H H1 → Dr K H0 s sc ns H1 → v ∈ xs → Q v H1
  | _ => False
theorem ok_pick2 (A : At K mg "_law_pick" "_law_pick" s_law_pick ["state", "row"]) (T : Txt K mg c) (H_law_draw : Has P w K mg base CX0 "_law_draw" 2 ["state", "many"] (spDraw K)) : Has P w K mg base CX0 "_law_pick" 3 ["state", "row"] (spPick2 K) := by
  have Sc := sc_law_pick
  refine has_of A Sc (fun vs H Q E h => ?_) (fun cdv f A outer s H vs Q E hr h => ?_)
  · unfold spPick2 at h; split at h; rfl; cases h
  · unfold spPick2 at h
    split at h
    · rename_i st r
      obtain ⟨H0, sc, ns, xs, D, hr1, h0, h1, kk⟩ := h
      refine ⟨_, (pss_one (ps_ret (pe_ix ix_fx (fe_var 1) (fe_call H_law_draw (hr.mono (by walk_at "rm")) (by rfl) pass0 (pa_cons (fe_var 0) (pa_cons (pe_callB call_fLen (by rfl) T.no_len (by decide +kernel) (pa_cons (fe_var 1) pa_nil)) pa_nil))) (fun _ _ => rfl)))), ?_⟩
      walk_at "fx0"
      split at hr1
      · rename_i r
        walk_at "fx"
        refine ⟨_, hr1 H Keep.refl, ?_⟩
        unfold spDraw
        refine ⟨H0, sc, ns, D, by omega, by omega, fun H1 d kp D1 d0 d1 => ?_⟩
        obtain ⟨v, hv, ev⟩ := at_vs (xs := xs) d0 d1
        exact ⟨_, hr1 H1 kp, v, ev, kk H1 v kp D1 hv⟩
      · rename_i z
        have hz : z.length = xs.length := by rw [hr1, List.length_map]; exact Array.length_toList.symm
        have hl : z.length ≤ sizeLine := by
          have := len_line' (n := z.length) (by omega)
          omega
        walk_at "fx"
        refine ⟨hl, ?_⟩
        unfold spDraw
        refine ⟨H0, sc, ns, D, by omega, by omega, fun H1 d kp D1 d0 d1 => ?_⟩
        obtain ⟨n, rfl⟩ := Int.eq_ofNat_of_zero_le d0
        have hn : n < z.cps.toList.length := by
          have d1' : (n : Int) < (z.length : Nat) := d1
          have e : z.cps.toList.length = z.length := Array.length_toList
          rw [e]
          omega
        have ec : z.cps.toList[n]? = some z.cps.toList[n] := List.getElem?_eq_getElem hn
        refine ⟨hl, _, atI_nat ec, kk H1 _ kp D1 ?_⟩
        rw [hr1]
        exact List.mem_map_of_mem (List.getElem_mem hn)
      · exact hr1.elim
    · cases h
end

section
variable {P : Program} {w : World} {K : PySem.W.Frag} {mg : Str → Option Value} {base : Heap} {c : Cs}
def SrcK (S : SV) (k : Nat) : RV → Prop
  | .txt z => z.length ≤ 1000
  | .ob n => ∃ t, S.things[n]? = some t ∧ ((∃ rs, t = .parts rs ∧ rs.length ≤ k) ∨ ∃ rows, t = .table rows ∧ rows.length ≤ k)
  | _ => False
def SrcOk (S : SV) (r : RV) (due : List RV) : Prop := curR S r = some due ∧ due.length ≤ 8 ∧ NoBt due ∧ SrcK S 8 r
def rvOf : V → RV
  | .bl b => .boo b
  | .int n => .num n
  | .str z => .txt z
  | _ => .nul
theorem rvOf_is {H : Hp} {v : V} (h : scV v = true) : IsVal c H v (rvOf v) := by cases v <;> first | rfl | cases h
theorem rvOf_nb {v : V} {z : Str} : rvOf v ≠ .bt z := by cases v <;> (intro h; cases h)
def keys5 : List V := [.non, .bl true, .int 1, .str "1", .str "b"]
def spSource (K : PySem.W.Frag) (w : World) (c : Cs) : Sp := fun vs H Q _ => match vs with
  | [.ref y, .ref s] => ∃ H0 sc ns x S G gf, y = x.y ∧ Wd K w c H0 s sc ns x S G gf H ∧ 0 < S.things.length ∧ S.things.length < 90000 ∧ ∀ tp v dl ys x' S' due src H1, Wd K w c H0 s sc ns x' S' G gf H1 → x'.y = x.y → H1 tp = some (.tup [v, .ref dl]) → H1 dl = some (.lst ys) → VsAt c H1 ys due → IsVal c H1 v src → SrcOk S' src due → dl ∉ x'.foot → (S' = S ∨ ∃ t, SzT t ∧ S' = S.add t) → Q (.ref tp) H1
  | _ => False
/-- a list of the law, nobody's -/
def Off (H0 : Hp) (x : SA) (gf : List Addr) (s D : Addr) : Prop := H0 D = none ∧ D ∉ s :: (x.foot ++ gf)
theorem Wd.off {H0 H : Hp} {s sc D : Addr} {ns : List Int} {x : SA} {S : SV} {G : Hp → Prop} {gf : List Addr} (W : Wd K w c H0 s sc ns x S G gf H) (h : H D = none) : Off H0 x gf s D :=
  ⟨W.dr.sm.free h, fun m => by obtain ⟨o, e⟩ := W.live m; rw [h] at e; cases e⟩
theorem Wd.put {H0 H : Hp} {s sc D : Addr} {ns : List Int} {x : SA} {S : SV} {G : Hp → Prop} {gf : List Addr} {xs zs : List V} (W : Wd K w c H0 s sc ns x S G gf H) (o : Off H0 x gf s D) (e : H D = some (.lst xs)) : Wd K w c H0 s sc ns x S G gf (upd H D (.lst zs)) :=
  W.junk (ps := [D]) (Keep.refl.upd (by simp)) (fun p m => by rw [List.mem_singleton.mp m]; exact soft_lst e) (fun p m => by rw [List.mem_singleton.mp m]; exact o.1) (fun p m => by rw [List.mem_singleton.mp m]; exact o.2)
theorem hs_put {H : Hp} {D : Addr} {xs zs : List V} (e : H D = some (.lst xs)) : HardStay c H (upd H D (.lst zs)) :=
  .keep (ps := [D]) (Keep.refl.upd (by simp)) (fun p m => by rw [List.mem_singleton.mp m]; exact soft_lst e)
theorem Wd.s_hs {H0 H H1 : Hp} {s sc : Addr} {ns : List Int} {x : SA} {S : SV} {G : Hp → Prop} {gf : List Addr} (W : Wd K w c H0 s sc ns x S G gf H) (k : Keep [s] H H1) : HardStay c H H1 := .keep k W.s_soft
theorem off_add {H0 H : Hp} {x : SA} {gf : List Addr} {s D a : Addr} {b : Option Addr} {o : HO} (h : Off H0 x gf s D) (hf : ∀ q ∈ footT a b, H q = none) (e : H D = some o) : D ∉ (x.add a b).foot := fun m => by
  rw [foot_add] at m
  rcases List.mem_append.mp m with m | m
  · exact h.2 (List.mem_cons_of_mem _ (List.mem_append_left _ m))
  · rw [hf _ m] at e; cases e
def SrcLI (K : PySem.W.Frag) (w : World) (c : Cs) (H0 : Hp) (s sc : Addr) (ns : List Int) (x : SA) (S : SV) (G : Hp → Prop) (gf : List Addr) (D0 : Addr) (i : Nat) (H' : Hp) : Prop := ∃ xs rs, Wd K w c H0 s sc ns x S G gf H' ∧ H' D0 = some (.lst xs) ∧ VsAt c H' xs rs ∧ rs.length = i ∧ NoBt rs
def TxtI (K : PySem.W.Frag) (w : World) (c : Cs) (H0 : Hp) (s sc : Addr) (ns : List Int) (x : SA) (S : SV) (G : Hp → Prop) (gf : List Addr) (d : Int) (i : Nat) (σ : L2.St) (H' : Hp) : Prop := ∃ (z : Str) (v5 : Option V), Wd K w c H0 s sc ns x S G gf H' ∧ z.length = i ∧ σ = [some (.ref x.y), some (.ref s), some (.int d), none, some (.str z), v5, none, none]
def KeyC (H4 : Hp) (D0 : Addr) (ks : List V) (i : Nat) (H' : Hp) : Prop := ∃ ts : List Addr, Same H4 H' ∧ H' D0 = some (.lst (ts.map V.ref)) ∧ RowsT H' ts ((ks.take i).map fun k => (k, V.int 5))
theorem vs_rvOf {H : Hp} : ∀ {ks : List V}, (∀ v ∈ ks, scV v = true) → VsAt c H ks (ks.map rvOf)
  | [], _ => .nil
  | a :: t, h => .cons (rvOf_is (h a (List.mem_cons_self ..))) (vs_rvOf fun v m => h v (List.mem_cons_of_mem _ m))
theorem vs_rvOf5 {H : Hp} : ∀ {ks : List V}, (∀ v ∈ ks, scV v = true) → Paired (fun x r => IsVal c H x.1 r.1 ∧ IsVal c H x.2 r.2) (ks.map fun k => (k, V.int 5)) (ks.map fun k => (rvOf k, RV.num 5))
  | [], _ => .nil
  | a :: t, h => .cons ⟨rvOf_is (h a (List.mem_cons_self ..)), rfl⟩ (vs_rvOf5 fun v m => h v (List.mem_cons_of_mem _ m))
def KeyI (K : PySem.W.Frag) (w : World) (c : Cs) (H0 : Hp) (s sc : Addr) (ns : List Int) (x : SA) (S : SV) (G : Hp → Prop) (gf : List Addr) (d : Int) (kl tp : Addr) (i : Nat) (σ : L2.St) (H' : Hp) : Prop := ∃ (ks : List V) (v7 : Option V), Wd K w c H0 s sc ns x S G gf H' ∧ H' kl = some (.lst ks) ∧ ks.Sublist (keys5.take i) ∧ H' tp = some (.tup keys5) ∧ σ = [some (.ref x.y), some (.ref s), some (.int d), none, none, none, some (.ref kl), v7]
set_option maxHeartbeats 4000000 in
theorem ok_source (A : At K mg "_law_source" "_law_source" s_law_source ["store", "state"]) (T : Txt K mg c) (H_law_draw : Has P w K mg base CX0 "_law_draw" 2 ["state", "many"] (spDraw K)) (H_law_pick : Has P w K mg base CX0 "_law_pick" 3 ["state", "row"] (spPick2 K)) (M_Ref : HasC P w K mg base CX0 c.Ref "Ref" 1 ["self", "number"] (spMk_Ref K c)) (H_make_list : Has P w K mg base (L2.CX P w) "make_list" 4 ["store", "values"] (spMkList w c)) (H_make_map : Has P w K mg base (L2.CX P w) "make_map" 5 ["store", "pairs"] (spMkMap w c)) : Has P w K mg base CX0 "_law_source" 6 ["store", "state"] (spSource K w c) := by
  have Sc := sc_law_source
  refine has_of A Sc (fun vs H Q E h => ?_) (fun cdv f A outer s H vs Q E hr h => ?_)
  · unfold spSource at h; split at h; rfl; cases h
  · unfold spSource at h
    split at h
    · rename_i y s
      obtain ⟨H0, sc, ns, x, S, G, gf, rfl, W, hl0, hl, h⟩ := h
      refine ⟨_, (pss_cons (ps_set (i := 2) Sc.nd rfl (.inl rfl) (fe_call H_law_draw (hr.mono (by walk_at "rm")) (by rfl) pass0 (pa_cons (fe_var 1) (pa_cons pe_int pa_nil))))
      (pss_cons (ps_if (pt_cmpR (op_fEq hr.units) (fe_var 2) pe_int (nomark _)) (pss_cons (ps_setLc (i := 3) (own := [("k", 5)]) (by rfl) Sc.nd rfl rfl (sw_true rfl rfl rfl (by decide +kernel)) (pi_range1 (by rfl) T.no_range (pa_cons (fe_call H_law_draw (hr.mono (by walk_at "rm")) (by rfl) pass0 (pa_cons (fe_var 1) (pa_cons pe_int pa_nil))) pa_nil)) (blkOk_by (own := [("k", 5)]) (N := ["store", "state", "kind", "row", "text", "k", "keys", "key"]) (sc := defScope s_law_source) (by decide +kernel)) (fun _ _ _ _ _ => (pg_name (i := 5) Sc.nd rfl (.inl rfl))) (fun _ _ _ _ _ => pts_nil) (fun _ _ _ _ _ => (fe_call H_law_pick (hr.mono (by walk_at "rm")) (by rfl) pass0 (pa_cons (fe_var 1) (pa_cons (fe_tup (pa_cons pe_non (pa_cons pe_bl (pa_cons pe_int (pa_cons pe_str (pa_cons (fe_make (k := _) M_Ref (hr.mono (by walk_at "rm")) (by rfl) pass0 (pa_cons pe_int pa_nil)) pa_nil)))))) pa_nil)))))
      (pss_one (ps_ret (fe_tup (pa_cons (fe_callX H_make_list (hr.mono (by walk_at "rm")) (by rfl) takes0 (pa_cons (fe_var 0) (pa_cons (fe_var 3) pa_nil))) (pa_cons (fe_var 3) pa_nil)))))) pss_nil)
      (pss_cons (ps_if (pt_cmpR (op_fEq hr.units) (fe_var 2) pe_int (nomark _)) (pss_cons (ps_set (i := 4) Sc.nd rfl (.inr rfl) pe_str)
      (pss_cons (ps_for PassesOwn.never rfl (pi_range1 (by rfl) T.no_range (pa_cons (fe_call H_law_draw (hr.mono (by walk_at "rm")) (by rfl) pass0 (pa_cons (fe_var 1) (pa_cons pe_int pa_nil))) pa_nil)) (pg_name (i := 5) Sc.nd rfl (.inl rfl)) (pss_one (ps_set (i := 4) Sc.nd rfl (.inr rfl) (pe_op op_fAdd (fe_var 4) (fe_call H_law_pick (hr.mono (by walk_at "rm")) (by rfl) pass0 (pa_cons (fe_var 1) (pa_cons pe_str pa_nil)))))))
      (pss_one (ps_ret (fe_tup (pa_cons (fe_var 4) (pa_cons (pe_lc (own := [("k", 5)]) (by rfl) Sc.nd (pi_range1 (by rfl) T.no_range (pa_cons (pe_callB call_fLen (by rfl) T.no_len (by decide +kernel) (pa_cons (fe_var 4) pa_nil)) pa_nil)) (blkOk_by (own := [("k", 5)]) (N := ["store", "state", "kind", "row", "text", "k", "keys", "key"]) (sc := defScope s_law_source) (by decide +kernel)) (fun _ _ _ _ _ => (pg_name (i := 5) Sc.nd rfl (.inl rfl))) (fun _ _ _ _ _ => pts_nil) (fun _ _ _ _ _ => (pe_ix (ix_fxK (K := K) rfl) (fe_var 4) (fe_var 5) (fun _ _ => rfl)))) pa_nil))))))) pss_nil)
      (pss_cons (ps_set (i := 6) Sc.nd rfl (.inl rfl) (fe_lst pa_nil))
      (pss_cons (ps_for PassesOwn.never rfl (pi_tup (fe_tup (pa_cons pe_non (pa_cons pe_bl (pa_cons pe_int (pa_cons pe_str (pa_cons pe_str pa_nil))))))) (pg_name (i := 7) Sc.nd rfl (.inl rfl)) (pss_one (ps_if (pt_cmpR (op_fEq hr.units) (fe_call H_law_draw (hr.mono (by walk_at "rm")) (by rfl) pass0 (pa_cons (fe_var 1) (pa_cons pe_int pa_nil))) pe_int (nomark _)) (pss_one (ps_expr (fe_bm PySem.F.plainAttrs_list PySem.F.slot_list_append PySem.F.type_list_append isLst_ty mt_fAppend (fe_var 6) (pa_cons (fe_var 7) pa_nil)))) pss_nil)))
      (pss_one (ps_ret (fe_tup (pa_cons (fe_callX H_make_map (hr.mono (by walk_at "rm")) (by rfl) takes0 (pa_cons (fe_var 0) (pa_cons (pe_lc (own := [("key", 7)]) (by rfl) Sc.nd (pi_list (fe_var 6)) (blkOk_by (own := [("key", 7)]) (N := ["store", "state", "kind", "row", "text", "k", "keys", "key"]) (sc := defScope s_law_source) (by decide +kernel)) (fun _ _ _ _ _ => (pg_name (i := 7) Sc.nd rfl (.inl rfl))) (fun _ _ _ _ _ => pts_nil) (fun _ _ _ _ _ => (fe_tup (pa_cons (fe_var 7) (pa_cons pe_int pa_nil))))) pa_nil))) (pa_cons (fe_var 6) pa_nil)))))))))), ?_⟩
      walk_at "fx0"
      walk_at "ox"
      refine ⟨H0, sc, ns, W.dr, by omega, by omega, fun H1 d kp D1 d0 d1 => ?_⟩
      have W1 := W.draw kp D1
      refine cut_ fun N hN => ifs_ ?_
      walk_at "ox"
      split
      · refine lc_ ?_
        walk_at "ox"
        refine ⟨H0, sc, ns, W1.dr, by omega, by omega, fun H2 d2 kp2 D2 d3 d4 => ?_⟩
        have W2 := W1.draw kp2 D2
        walk_at "ox"
        refine ⟨by omega, by omega, fun D0 nD => ?_⟩
        have off := W2.off nD
        refine lcx_range (SrcLI K w c H0 s sc ns x S G gf D0) ⟨[], [], W2.same (same_new nD), upd_same, .nil, rfl, fun z m => by cases m⟩ ?_ ?_
        · rintro i H3 hi ⟨xs, rs, W3, eD, hv, hlr, hb⟩
          walk_at "ox"
          intro r0 rdx H4 nr s4 er
          walk_at "ox"
          intro tp H5 ntp s5 etp
          have W5 := (W3.same s4).same s5
          have so5 : ∀ p ∈ [s], Soft c H5 p := W5.s_soft
          have nts : tp ≠ s := fun z => by
            obtain ⟨a, k, e, _⟩ := W5.dr.st
            rw [← z, etp] at e; cases e
          refine ⟨H0, sc, ns, _, W5.dr, fun H6 k6 => rl_t (k6 _ _ (by simpa using nts) etp), by simp, by simp, fun H6 v k6 D6 hm => ?_⟩
          have W6 := W5.draw k6 D6
          have hs := HardStay.trans (.same (s4.trans s5)) (W5.s_hs k6)
          have eD6 : H6 D0 = some (.lst xs) := k6 _ _ (fun m => off.2 (by rw [List.mem_singleton.mp m]; exact List.mem_cons_self ..)) (s5 _ _ (s4 _ _ eD))
          obtain ⟨rv, hrv, hnb⟩ : ∃ rv, IsVal c H6 v rv ∧ ∀ z, rv ≠ .bt z := by
            simp only [List.mem_cons, List.not_mem_nil, or_false] at hm
            rcases hm with rfl | rfl | rfl | rfl | rfl
            · exact ⟨.nul, rfl, fun z q => by cases q⟩
            · exact ⟨.boo true, rfl, fun z q => by cases q⟩
            · exact ⟨.num 0, rfl, fun z q => by cases q⟩
            · exact ⟨.txt "a", rfl, fun z q => by cases q⟩
            · exact ⟨.ob 0, ⟨r0, rfl, rdx, W5.s_hs k6 _ _ (s5 _ _ er) Hard.r⟩, fun z q => by cases q⟩
          have hv6 : VsAt c H6 xs rs := Paired.mapP hv fun _ _ z => z.hs hs
          refine ⟨xs, eD6, len_line' ?_, xs ++ [v], rs ++ [rv], W6.put off eD6, upd_same, Paired.snoc (Paired.mapP hv6 fun _ _ z => z.hs (hs_put eD6)) (hrv.hs (hs_put eD6)), by simp [hlr], fun z m => ?_⟩
          · have := Paired.length hv; omega
          · rcases List.mem_append.mp m with m | m
            · exact hb z m
            · exact hnb z (List.mem_singleton.mp m).symm
        · rintro H3 ⟨xs, rs, W3, eD, hv, hlr, hb⟩
          walk_at "ox"
          have hlx : xs.length = rs.length := Paired.length hv
          refine ⟨x, S, xs, rs, rfl, W3.st, eD, hv, by omega, by omega, fun r a b H4 nr hf k4 st4 rr => ?_⟩
          have W4 := W3.make hf k4 st4
          have eD4 : H4 D0 = some (.lst xs) := k4 _ _ (fun m => off.2 (by rw [List.mem_singleton.mp m]; exact List.mem_cons_of_mem _ (List.mem_append_left _ (by simp [SA.foot])))) eD
          have hs := HardStay.keep (c := c) k4 W3.st.soft_tl
          walk_at "ox"
          intro tp H5 ntp s5 etp
          refine h tp _ D0 xs _ _ rs (.ob S.things.length) H5 (W4.same s5) rfl etp (s5 _ _ eD4) (Paired.mapP hv fun _ _ z => (z.hs hs).same s5) ⟨r, rfl, rr.same s5⟩ ⟨?_, by omega, hb, ?_⟩ (off_add off hf eD) (.inr ⟨.parts rs, trivial, rfl⟩)
          · show (match (S.things ++ [Th.parts rs])[S.things.length]? with | some (.parts rs) => some rs | some (.table rows) => some (rows.map (·.1)) | _ => none) = some rs
            simp
          · exact ⟨.parts rs, by simp [SV.add], .inl ⟨rs, rfl, by omega⟩⟩
      · refine hN _ _ ?_
        walk_at "ox"
        refine cut_ fun N hN => ifs_ ?_
        walk_at "ox"
        split
        · refine cut_ fun N2 hN2 => for_ ?_
          walk_at "ox"
          refine ⟨H0, sc, ns, W1.dr, by omega, by omega, fun H2 d2 kp2 D2 d3 d4 => ?_⟩
          have W2 := W1.draw kp2 D2
          walk_at "ox"
          refine ⟨by omega, by omega, ?_⟩
          refine loop_range (TxtI K w c H0 s sc ns x S G gf d) ⟨"", none, W2, rfl, rfl⟩ ?_ ?_
          · rintro i σ H3 hi ⟨z, v5, W3, hz, rfl⟩
            walk_at "ox"
            refine ⟨H0, sc, ns, _, W3.dr, rfl, by decide, by decide, fun H4 v k4 D4 hm => ?_⟩
            obtain ⟨ch, _, rfl⟩ := List.mem_map.mp hm
            refine ⟨Nat.le_of_lt (len_line' (by rw [hz]; show i + 1 < 100000; omega)), z ++ ⟨#[ch]⟩, _, W3.draw k4 D4, by rw [Str.length_append, hz]; rfl, rfl⟩
          · rintro σ H3 ⟨z, v5, W3, hz, rfl⟩
            refine hN2 _ _ ?_
            walk_at "ox"
            refine lc_ ?_
            walk_at "ox"
            have hz8 : z.length ≤ 7 := by omega
            refine ⟨Nat.le_of_lt (len_line' (by omega)), ?_⟩
            refine ⟨by omega, by omega, fun D0 nD => ?_⟩
            have hlz : z.cps.toList.length = z.length := Array.length_toList
            refine lcx_range (fun i H' => Same H3 H' ∧ H' D0 = some (.lst ((z.cps.toList.map fun ch => V.str ⟨#[ch]⟩).take i))) ⟨same_new nD, upd_same⟩ ?_ ?_
            · rintro i H' hi ⟨s1, eD⟩
              have hc : z.cps.toList[i]? = some (z.cps.toList[i]'(by omega)) := List.getElem?_eq_getElem _
              generalize z.cps.toList[i]'(by omega) = ch at hc
              walk_at "ox"
              refine ⟨Nat.le_of_lt (len_line' (by omega)), _, atI_nat hc, _, eD, len_line' (by rw [List.length_take]; omega), mk_same s1 nD, ?_⟩
              rw [take_get (x := V.str ⟨#[ch]⟩) (by rw [List.getElem?_map, hc]; rfl)]
            · rintro H4 ⟨s1, eD⟩
              rw [List.take_of_length_le (by rw [List.length_map]; omega)] at eD
              walk_at "ox"
              intro tp H5 ntp s5 etp
              refine h tp _ D0 _ _ _ (charsR z) (.txt z) H5 ((W3.same s1).same s5) rfl etp (s5 _ _ eD) chars_vs rfl ⟨rfl, ?_, ?_, ?_⟩ (fun m => (W3.off nD).2 (List.mem_cons_of_mem _ (List.mem_append_left _ m))) (.inl rfl)
              · unfold charsR; rw [List.length_map]; omega
              · intro q m
                obtain ⟨ch, _, e⟩ := List.mem_map.mp m
                cases e
              · show z.length ≤ 1000; omega
        · refine hN _ _ ?_
          walk_at "ox"
          intro kl H2 nkl s2 ekl
          have off := W1.off nkl
          refine cut_ fun N2 hN2 => for_ ?_
          walk_at "ox"
          intro tp H3 ntp s3 etp
          have ntk : tp ≠ kl := fun z => by rw [z, s3 _ _ ekl] at etp; cases etp
          have W3 := (W1.same s2).same s3
          have nts : tp ≠ s := fun z => by
            obtain ⟨a, k, e, _⟩ := W3.dr.st
            rw [← z, etp] at e; cases e
          refine ⟨⟨_, .inl (.inl etp)⟩, ?_⟩
          refine loop_tup keys5 (KeyI K w c H0 s sc ns x S G gf d kl tp) ⟨[], none, W3, s3 _ _ ekl, List.nil_sublist _, etp, rfl⟩ (fun i σ H' _ ⟨ks, v7, _, _, _, e, _⟩ => .inl (.inl e)) ?_ ?_
          · rintro i key σ H4 hk ⟨ks, v7, W4, ek4, hsub, etp4, rfl⟩
            walk_at "ox"
            refine cut_ fun N3 hN3 => ifs_ ?_
            walk_at "ox"
            refine ⟨H0, sc, ns, W4.dr, by omega, by omega, fun H5 d2 k5 D5 d3 d4 => ?_⟩
            have W5 := W4.draw k5 D5
            have ek5 := k5 _ _ (fun m => off.2 (by rw [List.mem_singleton.mp m]; exact List.mem_cons_self ..)) ek4
            have et5 := k5 _ _ (by simpa using nts) etp4
            walk_at "ox"
            split
            · simp only [ek5]
              have hlk : ks.length ≤ 5 := Nat.le_trans hsub.length_le (by rw [List.length_take]; exact Nat.le_trans (Nat.min_le_right _ _) (by decide))
              refine ⟨trivial, len_line' (by omega), hN3 _ _ ?_⟩
              refine ⟨ks ++ [key], some key, W5.put off ek5, upd_same, ?_, (upd_ne ntk).trans et5, rfl⟩
              rw [take_get hk]
              exact hsub.append (List.Sublist.refl _)
            · refine hN3 _ _ ?_
              refine ⟨ks, some key, W5, ek5, ?_, et5, rfl⟩
              rw [take_get hk]
              exact hsub.trans (List.sublist_append_left _ _)
          · rintro σ H4 ⟨ks, v7, W4, ek4, hsub, etp4, rfl⟩
            refine hN2 _ _ ?_
            have hsub : ks.Sublist keys5 := hsub.trans (List.take_sublist _ _)
            have hlk : ks.length ≤ 5 := Nat.le_trans hsub.length_le (by decide)
            have hsc : ∀ v ∈ ks, scV v = true := fun v m => (by decide : ∀ v ∈ keys5, scV v = true) v (hsub.subset m)
            have hnd : ks.Nodup := hsub.nodup (by simp [keys5]; decide)
            walk_at "ox"
            refine lc_ ?_
            walk_at "ox"
            refine ⟨⟨_, .inl (.inl ek4)⟩, fun D0 nD => ?_⟩
            have nDk : D0 ≠ kl := fun z => by rw [z, ek4] at nD; cases nD
            refine lcx_list (xs := ks) (KeyC H4 D0 ks) ⟨[], same_new nD, upd_same, .nil⟩ (fun i H' _ ⟨ts, s5, _⟩ => .inl (.inl (s5 _ _ ek4))) ?_ ?_
            · rintro i key H5 hk ⟨ts, s5, eD, hts⟩
              walk_at "ox"
              intro t H6 nt s6 et
              have hlt : ts.length ≤ ks.length := by
                have := Paired.length hts
                rw [List.length_map, List.length_take] at this
                omega
              have nDt : D0 ≠ t := fun z => by rw [← z, eD] at nt; cases nt
              refine ⟨_, s6 _ _ eD, len_line' (by rw [List.length_map]; omega), ts ++ [t], mk_same (s5.trans s6) nD, by rw [upd_same, List.map_append]; rfl, ?_⟩
              rw [take_get hk, List.map_append]
              have kk : Keep [D0] H6 (upd H6 D0 (.lst (ts.map V.ref ++ [.ref t]))) := Keep.refl.upd (by simp)
              refine Paired.snoc (Paired.mapP hts fun u r z => ?_) (show (fun (t : Addr) (r : V × V) => upd H6 D0 (.lst (ts.map V.ref ++ [.ref t])) t = some (.tup [r.1, r.2])) t (key, V.int 5) from (upd_ne (Ne.symm nDt)).trans et)
              have nu : u ≠ D0 := fun q => by rw [q, eD] at z; cases z
              exact (upd_ne nu).trans (s6 _ _ z)
            · rintro H5 ⟨ts, s5, eD, hts⟩
              rw [List.take_length] at hts
              refine ⟨x, S, ts, _, ks.map (fun k => (rvOf k, .num 5)), rfl, W4.st.same s5, eD, hts, ?_, ?_, ?_, by rw [List.length_map]; omega, by omega, fun r a b H6 nr hf k6 st6 rr => ?_⟩
              · rw [List.map_map]
                have : ((fun x : V × V => x.1) ∘ fun k => (k, V.int 5)) = id := rfl
                rw [this, List.map_id]; exact hnd
              · intro r m
                obtain ⟨k, hk, rfl⟩ := List.mem_map.mp m
                exact hsc k hk
              · exact vs_rvOf5 hsc
              · have W6 := (W4.same s5).make hf k6 st6
                have ek6 : H6 kl = some (.lst ks) := k6 _ _ (fun m => off.2 (by rw [List.mem_singleton.mp m]; exact List.mem_cons_of_mem _ (List.mem_append_left _ (by simp [SA.foot])))) (s5 _ _ ek4)
                intro tp H7 ntp s7 etp
                refine h tp _ kl ks _ _ (ks.map rvOf) (.ob S.things.length) H7 (W6.same s7) rfl etp (s7 _ _ ek6) ?_ ⟨r, rfl, rr.same s7⟩ ⟨?_, by rw [List.length_map]; omega, ?_, ?_⟩ (off_add off hf (s5 _ _ ek4)) (.inr ⟨.table (ks.map (fun k => (rvOf k, .num 5))), by show (ks.map _).length < 100000; rw [List.length_map]; omega, rfl⟩)
                · exact vs_rvOf hsc
                · simp [curR, SV.add]
                · intro z m
                  obtain ⟨k, _, e⟩ := List.mem_map.mp m
                  exact rvOf_nb e
                · exact ⟨.table (ks.map (fun k => (rvOf k, .num 5))), by simp [SV.add], .inr ⟨_, rfl, by rw [List.length_map]; omega⟩⟩
    · cases h
end

section
variable {P : Program} {w : World} {K : PySem.W.Frag} {mg : Str → Option Value} {base : Heap} {c : Cs}
theorem TabR.soft {H : Hp} {d : Addr} {rows : List (V × V)} (h : TabR w H d rows) : Soft c H d := by
  obtain ⟨⟨es, D, e0, r⟩, _⟩ := h
  intro o e hd
  rw [e0] at e
  cases e
  rcases hd with ⟨_, z⟩ | ⟨_, _, z⟩ | ⟨_, _, z⟩
  · exact nkO_ne_tup z
  · have z' : HO.ext _ = HO.ins _ _ _ := z
    cases z'
  · have z' : HO.ext _ = HO.ins _ _ _ := z
    cases z'
theorem paired_putR {α : Type} {F : V × V → α → Prop} {rws : List (V × V)} {rows : List α} {k v : V} {r : α} (h : Paired F rws rows) (hr : F (k, v) r) (nd : (rws.map (·.1)).Nodup) : ∃ rows', Paired F (putR rws k v) rows' ∧ rows'.length ≤ rows.length + 1 := by
  rcases row_cases k nd with ⟨i, _, _, _, _, _, _, e⟩ | ⟨_, _, _, e⟩
  · exact ⟨_, by rw [e v]; exact paired_set h hr i, by rw [List.length_set]; omega⟩
  · exact ⟨_, by rw [e v]; exact Paired.snoc h hr, by rw [List.length_append]; exact Nat.le_refl _⟩
theorem paired_rev {α β : Type} {F : α → β → Prop} {xs : List α} {ys : List β} (h : Paired F xs ys) : Paired F xs.reverse ys.reverse := by
  induction h with
  | nil => exact .nil
  | cons r t ih =>
    rw [List.reverse_cons, List.reverse_cons]
    exact Paired.snoc ih r
def BoxT (k : Nat) (t : Th) : Prop := (∃ rs, t = .parts rs ∧ rs.length ≤ k) ∨ ∃ rows, t = .table rows ∧ rows.length ≤ k
def Spoilt (S S' : SV) (src : RV) (k : Nat) : Prop := S' = S ∨ ∃ n t t', src = .ob n ∧ S.things[n]? = some t ∧ BoxT k t ∧ BoxT (k + 1) t' ∧ S' = S.setT n t'
def spSpoilt (K : PySem.W.Frag) (w : World) (c : Cs) : Sp := fun vs H Q _ => match vs with
  | [.ref y, v, .ref s] => ∃ H0 sc ns x S G gf src k, y = x.y ∧ Wd K w c H0 s sc ns x S G gf H ∧ IsVal c H v src ∧ SrcK S k src ∧ k ≤ 1000 ∧ ∀ S' H1, Wd K w c H0 s sc ns x S' G gf H1 → Spoilt S S' src k → Q .non H1
  | _ => False
set_option maxHeartbeats 4000000 in
theorem ok_spoilt (A : At K mg "_law_spoilt" "_law_spoilt" s_law_spoilt ["store", "value", "state"]) (T : Txt K mg c) (H_law_draw : Has P w K mg base CX0 "_law_draw" 2 ["state", "many"] (spDraw K)) (M_Table_put : HasM P w K mg base CX0 c.Table "put" 2 ["self", "key", "value"] (spPut w c)) : Has P w K mg base CX0 "_law_spoilt" 3 ["store", "value", "state"] (spSpoilt K w c) := by
  have Sc := sc_law_spoilt
  refine has_of A Sc (fun vs H Q E h => ?_) (fun cdv f A outer s H vs Q E hr h => ?_)
  · unfold spSpoilt at h; split at h; rfl; cases h
  · unfold spSpoilt at h
    split at h
    · rename_i y v s
      obtain ⟨H0, sc, ns, x, S, G, gf, src, k, rfl, W, hv, hk, hk1, h⟩ := h
      obtain ⟨sdx, es⟩ := W.st.st
      refine ⟨_, (pss_cons (ps_if (pt_not (pt_val (pe_callB (call_fIsiO T.kit) (by rfl) T.no_isinstance (by decide +kernel) (pa_cons (fe_var 1) (pa_cons (pe_glob (v := .ref c.Ref) (by rfl) T.mg_Ref rfl) pa_nil))))) (pss_one ps_retN) pss_nil)
      (pss_cons (ps_set (i := 3) Sc.nd rfl (.inl rfl) (pe_ix ix_fx (fe_fld (fe_var 0) T.pl_things rfl) (fe_fld (fe_var 1) T.pl_number rfl) (fun _ _ => rfl)))
      (pss_one (ps_if (pt_val (pe_callB (call_fIsiO T.kit) (by rfl) T.no_isinstance (by decide +kernel) (pa_cons (fe_var 3) (pa_cons (pe_glob (v := .ref c.Parts) (by rfl) T.mg_Parts rfl) pa_nil)))) (pss_cons (ps_expr (fe_bm PySem.F.plainAttrs_list PySem.F.slot_list_append PySem.F.type_list_append isLst_ty mt_fAppend (fe_fld (fe_var 3) T.pl_held rfl) (pa_cons pe_int pa_nil)))
      (pss_one (ps_expr (fe_bm0 PySem.F.plainAttrs_list PySem.F.slot_list_reverse PySem.F.type_list_reverse isLst_ty mt_fReverse (fe_fld (fe_var 3) T.pl_held rfl))))) (pss_one (ps_expr (fe_meth M_Table_put T.cl_Table (hr.mono (by walk_at "rm")) pass0 (fe_var 3) (pa_cons (pe_op op_fMul pe_str (pe_op op_fAdd pe_int (fe_call H_law_draw (hr.mono (by walk_at "rm")) (by rfl) pass0 (pa_cons (fe_var 2) (pa_cons pe_int pa_nil))))) (pa_cons pe_int pa_nil))))))))), ?_⟩
      walk_at "fx0"
      cases src with
      | txt z =>
        cases hv
        repeat (walk_at "oxs")
        exact h S H W (.inl rfl)
      | ob n =>
        obtain ⟨a, rfl, dx, e1⟩ := hv
        obtain ⟨t, et, hb⟩ := hk
        obtain ⟨a', b', g1, g2, g3⟩ := W.st.num et
        repeat (first | walk_at "oxs" | simp only [e1] | simp only [es])
        refine ⟨_, rl_l W.st.et, _, g3, ?_⟩
        rcases hb with ⟨rs, rfl, hl⟩ | ⟨rows, rfl, hl⟩
        · obtain ⟨dx3, l, xs, rfl, f1, f2, f3⟩ := g2
          have hlx : xs.length = rs.length := Paired.length f3
          have nl : a' ≠ l := fun z => by rw [z, f2] at f1; cases f1
          have f1' : ∀ o, upd H l o a' = some (.ins c.Parts dx3 [("held", .ref l)]) := fun o => (upd_ne nl).trans f1
          repeat (first | walk_at "oxs" | simp only [f1] | simp only [f2])
          refine ⟨len_line' (by omega), ?_⟩
          repeat (first | walk_at "oxs" | simp only [f1'])
          have kk : Keep [l] H (upd H l (.lst (xs ++ [V.int 9]).reverse)) := Keep.refl.upd (by simp)
          have so : Soft c H l := soft_lst f2
          have hs : HardStay c H (upd H l (.lst (xs ++ [V.int 9]).reverse)) := .keep kk (fun p m => by rw [List.mem_singleton.mp m]; exact so)
          have hvs : VsAt c H (xs ++ [V.int 9]).reverse (rs ++ [RV.num 9]).reverse := paired_rev (Paired.snoc f3 rfl)
          exact h _ _ (W.set (q := l) (mem_add (List.mem_of_getElem? g1) (by simp [footT])) kk so (W.st.setT (t := .parts (rs ++ [RV.num 9]).reverse) g1 kk so ⟨dx3, l, _, rfl, f1' _, upd_same, Paired.mapP hvs fun _ _ z => z.hs hs⟩)) (.inr ⟨n, _, _, rfl, et, .inl ⟨rs, rfl, hl⟩, .inl ⟨_, rfl, by simp; omega⟩, rfl⟩)
        · obtain ⟨d, rws, rfl, ⟨dx3, f1⟩, f2, f3⟩ := g2
          have hlr : rws.length = rows.length := Paired.length f3
          repeat (first | walk_at "oxs" | simp only [f1])
          refine ⟨H0, sc, ns, W.dr, by omega, by omega, fun H1 d1 k1 D1 d2 d3 => ?_⟩
          have W1 := W.draw k1 D1
          walk_at "ox"
          have hd : d1 = 0 ∨ d1 = 1 ∨ d1 = 2 := by omega
          refine ⟨by rcases hd with rfl | rfl | rfl <;> (unfold MulOk; decide), ?_⟩
          obtain ⟨a2, b2, g4, ⟨d', rws', e5, ⟨dx5, f5⟩, f6, f7⟩, _⟩ := W1.st.num et
          rw [g1] at g4
          cases g4
          cases e5
          have hlr' : rws'.length = rows.length := Paired.length f7
          refine ⟨d, rws', ⟨dx5, f5⟩, f6, rfl, by omega, fun H2 k2 TR2 => ?_⟩
          have so : Soft c H1 d := f6.soft
          have hs : HardStay c H1 H2 := .keep k2 (fun p m => by rw [List.mem_singleton.mp m]; exact so)
          obtain ⟨rows', p1, p2⟩ := paired_putR (k := V.str (Txt.mul (Str.ofString "new") (1 + d1))) (v := .int 1) (r := (RV.txt (Txt.mul (Str.ofString "new") (1 + d1)), RV.num 1)) f7 ⟨rfl, rfl⟩ f6.nd
          have nd : a' ≠ d := fun z => by
            obtain ⟨⟨es, D, e0, r⟩, _⟩ := f6
            rw [z, e0] at f5
            have z' : HO.ext _ = HO.ins _ _ _ := Option.some.inj f5
            cases z'
          refine h _ _ (W1.set (q := d) (mem_add (List.mem_of_getElem? g1) (by simp [footT])) k2 so (W1.st.setT (t := .table rows') g1 k2 so ⟨d, _, rfl, ⟨dx5, k2 _ _ (by simpa using nd) f5⟩, TR2, Paired.mapP p1 fun _ _ z => ⟨z.1.hs hs, z.2.hs hs⟩⟩)) (.inr ⟨n, _, _, rfl, et, .inr ⟨rows, rfl, hl⟩, .inr ⟨_, rfl, by omega⟩, rfl⟩)
      | _ => exact hk.elim
    · cases h
def spRefused (w : World) (c : Cs) : Sp := fun vs H Q _ => match vs with
  | [.ref y] => ∃ x S, y = x.y ∧ Sto w c H x S ∧ S.things[0]? = some (.kin "Error" none []) ∧ S.things.length < 90000 ∧ ∀ H1, Q (.bl true) H1
  | _ => False
set_option maxHeartbeats 4000000 in
theorem ok_refused (A : At K mg "_law_refused" "_law_refused" s_law_refused ["store"]) (T : Txt K mg c) (H_make_cursor : Has P w K mg base (L2.CX P w) "make_cursor" 4 ["store", "x"] (spMkCur w c)) (M_Ref : HasC P w K mg base CX0 c.Ref "Ref" 1 ["self", "number"] (spMk_Ref K c)) (M_Builtin : HasC P w K mg base CX0 c.Builtin "Builtin" 1 ["self", "name"] (spMk_Builtin K c)) : Has P w K mg base CX0 "_law_refused" 5 ["store"] (spRefused w c) := by
  have Sc := sc_law_refused
  refine has_of A Sc (fun vs H Q E h => ?_) (fun cdv f A outer s H vs Q E hr h => ?_)
  · unfold spRefused at h; split at h; rfl; cases h
  · unfold spRefused at h
    split at h
    · rename_i y
      obtain ⟨x, S, rfl, hS, h0, hl, h⟩ := h
      have hlen : x.L.length = S.things.length := Paired.length hS.th
      obtain ⟨sdx, es⟩ := hS.st
      refine ⟨_, (pss_cons (ps_set (i := 1) Sc.nd rfl (.inl rfl) (pe_callB call_fLen (by rfl) T.no_len (by decide +kernel) (pa_cons (fe_fld (fe_var 0) T.pl_things rfl) pa_nil)))
      (pss_cons (ps_for PassesOwn.never rfl (pi_tup (fe_tup (pa_cons (fe_tup (pa_cons pe_non (pa_cons pe_str pa_nil))) (pa_cons (fe_tup (pa_cons pe_bl (pa_cons pe_str pa_nil))) (pa_cons (fe_tup (pa_cons pe_int (pa_cons pe_str pa_nil))) (pa_cons (fe_tup (pa_cons (fe_make (k := _) M_Ref (hr.mono (by walk_at "rm")) (by rfl) pass0 (pa_cons pe_int pa_nil)) (pa_cons pe_str pa_nil))) (pa_cons (fe_tup (pa_cons (fe_make (k := _) M_Builtin (hr.mono (by walk_at "rm")) (by rfl) pass0 (pa_cons pe_str pa_nil)) (pa_cons pe_str pa_nil))) pa_nil))))))) (pg_tup (n := 2) rfl (pgs_cons (pg_name (i := 2) Sc.nd rfl (.inl rfl)) (pgs_cons (pg_name (i := 3) Sc.nd rfl (.inl rfl)) pgs_nil))) (pss_cons (ps_set (i := 4) Sc.nd rfl (.inl rfl) pe_non)
      (pss_cons (ps_try_as (i := 5) rfl rfl Sc.nd rfl rfl ⟨by rfl, by decide, .inl T.mg_ScriptError⟩ takes0
      (fun W0 _ _ tk0 po0 => (pss_one (ps_expr (fe_callX H_make_cursor (hr.mono (by walk_at "rm")) (by rfl) tk0 (pa_cons (fe_var 0) (pa_cons (fe_var 2) pa_nil))))))
      (fun a0 oe0 cls0 d0 pn0 hz0 hf0 => (pss_one (ps_set (i := 4) Sc.nd rfl (.inl rfl) (fe_tup (pa_cons (fe_xf T.xpl_kind hz0 hf0 (fe_var 5) rfl) (pa_cons (fe_xf T.xpl_message hz0 hf0 (fe_var 5) rfl) pa_nil)))))))
      (pss_one (ps_if (pt_cmpR (op_fNe hr.units) (fe_var 4) (fe_tup (pa_cons pe_str (pa_cons (pe_op op_fAdd pe_str (fe_var 3)) pa_nil))) (nomark _)) (pss_one (ps_ret pe_bl)) pss_nil)))))
      (pss_one (ps_ret (pe_cmpR (op_fEq hr.units) (pe_callB call_fLen (by rfl) T.no_len (by decide +kernel) (pa_cons (fe_fld (fe_var 0) T.pl_things rfl) pa_nil)) (fe_var 1) (nomark _)))))), ?_⟩
      walk_at "fx0"
      walk_at "ox"
      simp only [es]
      walk_at "ox"
      refine ⟨_, rl_l hS.et, ?_⟩
      rw [List.length_map, hlen]
      refine cut_ fun N hN => for_ ?_
      walk_at "ox"
      intro t1 H1 nt1 s1 et1 t2 H2 nt2 s2 et2 t3 H3 nt3 s3 et3 r0 rdx H4 nr4 s4 er4
      walk_at "ox"
      intro t4 H5 nt4 s5 et4 b0 bdx H6 nb s6 eb
      walk_at "ox"
      intro t5 H7 nt5 s7 et5 lp H8 nlp s8 elp
      refine ⟨⟨_, .inl (.inl elp)⟩, ?_⟩
      have S8 : Same H H8 := ((((((s1.trans s2).trans s3).trans s4).trans s5).trans s6).trans s7).trans s8
      have key : ∀ nv ∈ [V.ref t1, .ref t2, .ref t3, .ref t4, .ref t5], ∃ t v z rv, nv = .ref t ∧ H8 t = some (.tup [v, .str z]) ∧ IsVal c H8 v rv ∧ WfR S rv ∧ SzR S rv ∧ curR S rv = none ∧ kindR S rv = z ∧ z.length ≤ 100 := fun nv m => by
        simp only [List.mem_cons, List.not_mem_nil, or_false] at m
        have l0 : 0 < S.things.length := (List.getElem?_eq_some_iff.mp h0).1
        rcases m with rfl | rfl | rfl | rfl | rfl
        · exact ⟨_, _, _, .nul, rfl, s8 _ _ (s7 _ _ (s6 _ _ (s5 _ _ (s4 _ _ (s3 _ _ (s2 _ _ et1)))))), rfl, (fun _ z => by cases z), trivial, rfl, rfl, by decide⟩
        · exact ⟨_, _, _, .boo true, rfl, s8 _ _ (s7 _ _ (s6 _ _ (s5 _ _ (s4 _ _ (s3 _ _ et2))))), rfl, (fun _ z => by cases z), trivial, rfl, rfl, by decide⟩
        · exact ⟨_, _, _, .num 7, rfl, s8 _ _ (s7 _ _ (s6 _ _ (s5 _ _ (s4 _ _ et3)))), rfl, (fun _ z => by cases z), trivial, rfl, rfl, by decide⟩
        · exact ⟨_, _, _, .ob 0, rfl, s8 _ _ (s7 _ _ (s6 _ _ et4)), ⟨r0, rfl, rdx, s8 _ _ (s7 _ _ (s6 _ _ (s5 _ _ er4)))⟩, (fun _ z => by cases z; exact l0), (fun t e => by rw [h0] at e; cases e; trivial), by simp only [curR, h0], by simp only [kindR, h0]; rfl, by decide⟩
        · exact ⟨_, _, _, .bt "abs", rfl, s8 _ _ et5, ⟨b0, rfl, bdx, s8 _ _ (s7 _ _ eb)⟩, (fun _ z => by cases z), trivial, rfl, rfl, by decide⟩
      refine loop_tup [V.ref t1, .ref t2, .ref t3, .ref t4, .ref t5] (fun i σ H' => Same H8 H' ∧ ∃ v2 v3 v4 v5, σ = [some (.ref x.y), some (.int (S.things.length : Nat)), v2, v3, v4, v5]) ⟨Same.refl _, _, _, _, _, rfl⟩ (fun i σ H' _ ⟨s9, _⟩ => .inl (.inl (s9 _ _ elp))) ?_ ?_
      · rintro i nv σ H9 hnv ⟨s9, v2, v3, v4, v5, rfl⟩
        obtain ⟨t, v, z, rv, rfl, et, hv, hw, hz, hc, hkd, hl9⟩ := key nv (List.mem_of_getElem? hnv)
        walk_at "ox"
        refine ⟨_, SqT.of (s9 _ _ et), ?_⟩
        walk_at "ox"
        refine ⟨x, S, rv, rfl, (hS.same S8).same s9, hv.same s9, hw, hz, by omega, ?_⟩
        rw [hc]
        intro d H10 nd s10 ed
        unfold WE wAs
        refine ⟨_, T.em_ScriptError_ScriptError, fun _ a0 na0 => ?_, fun z => by cases z⟩
        repeat (first | walk_at "oxs" | simp only [ed])
        intro u1 H11 nu1 s11 eu1
        have l18 : Str.length "cannot go through " = 18 := rfl
        refine ⟨by rw [l18, sizeLine_eq]; omega, ?_⟩
        intro u2 H12 nu2 s12 eu2
        refine ⟨_, .tup (.inl (.inl (s12 _ _ eu1))) (dpAll_sc rfl), _, .tup (.inl (.inl eu2)) (dpAll_sc rfl), tup_okd rfl, tup_okd rfl, ?_⟩
        have hnt : noThr S rv = "cannot go through " ++ z := by
          unfold noThr
          rw [hkd, Str.append_left_empty (x := "") (y := "cannot go through ") rfl]
        rw [hnt, tup_eqv rfl, if_neg (by simp)]
        exact ⟨(((s9.trans s10).trans s11).trans s12), _, rfl⟩
      · rintro σ H9 ⟨s9, v2, v3, v4, v5, rfl⟩
        refine hN _ _ ?_
        have es9 := s9 _ _ (S8 _ _ es)
        repeat (first | walk_at "oxs" | simp only [es9])
        refine ⟨_, rl_l (s9 _ _ (S8 _ _ hS.et)), ?_⟩
        rw [List.length_map, hlen, decide_eq_true rfl]
        exact h _
    · cases h
end

section
variable {P : Program} {w : World} {K : PySem.W.Frag} {mg : Str → Option Value} {base : Heap} {c : Cs}
/-! ### the law's rows: an iterator, what it was made of, what is due -/
structure Row where
  cn : Nat
  src : RV
  due : List RV
def RowAt (c : Cs) (H : Hp) (p : Addr × Option Addr) (r : Row) : Prop := ∃ ra v dl ys, p.2 = some dl ∧ H p.1 = some (.lst [.ref ra, v, .ref dl]) ∧ IsRef c H ra (r.cn : Nat) ∧ IsVal c H v r.src ∧ H dl = some (.lst ys) ∧ VsAt c H ys r.due
theorem RowAt.mono {H H' : Hp} {p : Addr × Option Addr} {r : Row} (h : RowAt c H p r) (s : HardStay c H H') (k : ∀ q ∈ footT p.1 p.2, ∀ o, H q = some o → H' q = some o) : RowAt c H' p r := by
  obtain ⟨ra, v, dl, ys, e, e1, e2, e3, e4, e5⟩ := h
  exact ⟨ra, v, dl, ys, e, k _ (by simp [footT]) _ e1, e2.hs s, e3.hs s, k _ (by simp [footT, e]) _ e4, e5.hs s⟩
def GR (c : Cs) (rl : Addr) (L : List (Addr × Option Addr)) (rows : List Row) (H : Hp) : Prop := H rl = some (.lst (L.map fun p => V.ref p.1)) ∧ Paired (RowAt c H) L rows
theorem GR.gm {rl : Addr} {L : List (Addr × Option Addr)} {rows : List Row} : ∀ H H', GR c rl L rows H → HardStay c H H' → (∀ q ∈ rl :: footL L, ∀ o, H q = some o → H' q = some o) → GR c rl L rows H' :=
  fun H H' h s k => ⟨k _ (List.mem_cons_self ..) _ h.1, Paired.mapP (paired_mem h.2) fun p r z => z.2.mono s fun q hq => k q (List.mem_cons_of_mem _ (mem_footL z.1 hq))⟩
theorem GR.row {rl : Addr} {L : List (Addr × Option Addr)} {rows : List Row} {H : Hp} (h : GR c rl L rows H) {i : Nat} {r : Row} (e : rows[i]? = some r) : ∃ a b, L[i]? = some (a, b) ∧ RowAt c H (a, b) r ∧ atI (L.map fun p => V.ref p.1) (i : Nat) = some (.ref a) := by
  have hl : L.length = rows.length := Paired.length h.2
  obtain ⟨hi, _⟩ := List.getElem?_eq_some_iff.mp e
  have e1 : L[i]? = some L[i] := List.getElem?_eq_getElem (by omega)
  obtain ⟨r', h1, h2⟩ := paired_get h.2 e1
  rw [e] at h1
  cases h1
  exact ⟨L[i].1, L[i].2, e1, h2, atI_nat (by rw [List.getElem?_map, e1]; rfl)⟩
structure RowOk (S : SV) (k : Nat) (r : Row) : Prop where
  cu : S.things[r.cn]? = some (.cur r.due)
  le : r.due.length ≤ 8
  nb : NoBt r.due
  sr : SrcK S k r.src
structure LI (S : SV) (k : Nat) (rows : List Row) : Prop where
  ok : ∀ (i : Nat) (r : Row), rows[i]? = some r → RowOk S k r
  inj : ∀ (i j : Nat) (r r' : Row), rows[i]? = some r → rows[j]? = some r' → r.cn = r'.cn → i = j
  sz : ∀ t ∈ S.things, SzT t
  out : S.out = []
  zero : S.things[0]? = some (.kin "Error" none [])
theorem SrcK.add {S : SV} {k : Nat} {r : RV} {t : Th} (h : SrcK S k r) : SrcK (S.add t) k r := by
  cases r with
  | txt z => exact h
  | ob n =>
    obtain ⟨t', e, hb⟩ := h
    exact ⟨t', by show (S.things ++ [t])[n]? = _; rw [List.getElem?_append_left (List.getElem?_eq_some_iff.mp e).1]; exact e, hb⟩
  | _ => exact h.elim
theorem LI.add {S : SV} {k : Nat} {rows : List Row} {t : Th} (h : LI S k rows) (ht : SzT t) : LI (S.add t) k rows := by
  have g : ∀ {n : Nat} {t' : Th}, S.things[n]? = some t' → (S.add t).things[n]? = some t' := fun e => by
    show (S.things ++ [t])[_]? = _
    rw [List.getElem?_append_left (List.getElem?_eq_some_iff.mp e).1]; exact e
  refine ⟨fun i r e => ⟨g (h.ok i r e).cu, (h.ok i r e).le, (h.ok i r e).nb, (h.ok i r e).sr.add⟩, h.inj, fun t' m => ?_, h.out, g h.zero⟩
  rcases List.mem_append.mp (show t' ∈ S.things ++ [t] from m) with m | m
  · exact h.sz _ m
  · rw [List.mem_singleton.mp m]; exact ht
theorem LI.snoc {S : SV} {k : Nat} {rows : List Row} {src : RV} {due : List RV} (h : LI S k rows) (h1 : due.length ≤ 8) (h2 : NoBt due) (h3 : SrcK S k src) : LI (S.add (.cur due)) k (rows ++ [⟨S.things.length, src, due⟩]) := by
  have h' := h.add (t := .cur due) trivial
  have hlt : ∀ (i : Nat) (r : Row), rows[i]? = some r → r.cn < S.things.length := fun i r e => (List.getElem?_eq_some_iff.mp (h.ok i r e).cu).1
  refine ⟨fun i r e => ?_, fun i j r r' e e' hc => ?_, h'.sz, h'.out, h'.zero⟩
  · rw [List.getElem?_append] at e
    split at e
    · exact h'.ok i r e
    · rename_i hi
      obtain ⟨h0, e0⟩ := List.getElem?_eq_some_iff.mp e
      simp at h0
      have : i - rows.length = 0 := by omega
      rw [this] at e
      cases e
      exact ⟨by simp [SV.add], h1, h2, h3.add⟩
  · rw [List.getElem?_append] at e e'
    split at e <;> split at e'
    · exact h.inj i j r r' e e' hc
    · obtain ⟨h0, _⟩ := List.getElem?_eq_some_iff.mp e'
      simp at h0
      have : j - rows.length = 0 := by omega
      rw [this] at e'
      cases e'
      have := hlt i r e
      simp at hc
      omega
    · obtain ⟨h0, _⟩ := List.getElem?_eq_some_iff.mp e
      simp at h0
      have : i - rows.length = 0 := by omega
      rw [this] at e
      cases e
      have := hlt j r' e'
      simp at hc
      omega
    · obtain ⟨h0, _⟩ := List.getElem?_eq_some_iff.mp e
      obtain ⟨h0', _⟩ := List.getElem?_eq_some_iff.mp e'
      simp at h0 h0'
      omega
theorem SrcK.up {S : SV} {k j : Nat} {r : RV} (h : SrcK S k r) (hj : k ≤ j) : SrcK S j r := by
  cases r with
  | txt z => exact h
  | ob n =>
    obtain ⟨t', e, hb⟩ := h
    refine ⟨t', e, hb.imp (fun ⟨rs, a, b⟩ => ⟨rs, a, by omega⟩) fun ⟨rs, a, b⟩ => ⟨rs, a, by omega⟩⟩
  | _ => exact h.elim
theorem LI.up {S : SV} {k j : Nat} {rows : List Row} (h : LI S k rows) (hj : k ≤ j) : LI S j rows :=
  ⟨fun i r e => ⟨(h.ok i r e).cu, (h.ok i r e).le, (h.ok i r e).nb, (h.ok i r e).sr.up hj⟩, h.inj, h.sz, h.out, h.zero⟩
theorem setT_get {S : SV} {n m : Nat} {t : Th} (h : n ≠ m) : (S.setT n t).things[m]? = S.things[m]? := List.getElem?_set_ne h
theorem setT_same {S : SV} {n : Nat} {t t0 : Th} (h : S.things[n]? = some t0) : (S.setT n t).things[n]? = some t := List.getElem?_set_self (List.getElem?_eq_some_iff.mp h).1
theorem setT_sz {S : SV} {n : Nat} {t : Th} (h : ∀ t ∈ S.things, SzT t) (ht : SzT t) : ∀ t' ∈ (S.setT n t).things, SzT t' := fun t' m => by
  rcases List.mem_or_eq_of_mem_set (show t' ∈ S.things.set n t from m) with m | rfl
  · exact h _ m
  · exact ht
theorem LI.spoilt {S S' : SV} {k : Nat} {rows : List Row} {src : RV} (h : LI S k rows) (hk : k ≤ 1000) (hs : Spoilt S S' src k) : LI S' (k + 1) rows := by
  rcases hs with rfl | ⟨n, t, t', rfl, et, hb, hb', rfl⟩
  · exact h.up (Nat.le_succ _)
  · have nc : ∀ xs, t ≠ .cur xs := fun xs e => by rcases hb with ⟨_, z, _⟩ | ⟨_, z, _⟩ <;> rw [z] at e <;> cases e
    have nk : ∀ a b d, t ≠ .kin a b d := fun a b d e => by rcases hb with ⟨_, z, _⟩ | ⟨_, z, _⟩ <;> rw [z] at e <;> cases e
    have hz : SzT t' := by
      rcases hb' with ⟨rs, rfl, _⟩ | ⟨rs, rfl, hl⟩
      · trivial
      · show rs.length < 100000; omega
    have h0 := h.zero
    have n0 : n ≠ 0 := fun e => by subst e; rw [et] at h0; cases h0; exact nk _ _ _ rfl
    refine ⟨fun i r e => ?_, h.inj, setT_sz h.sz hz, h.out, by rw [setT_get n0]; exact h0⟩
    obtain ⟨a1, a2, a3, a4⟩ := h.ok i r e
    have ncn : n ≠ r.cn := fun z => by rw [← z, et] at a1; cases a1; exact nc _ rfl
    refine ⟨by rw [setT_get ncn]; exact a1, a2, a3, ?_⟩
    have a4 := a4.up (Nat.le_succ k)
    generalize r.src = q at a4
    cases q with
    | txt z => exact a4
    | ob m =>
      by_cases z : n = m
      · subst z
        exact ⟨t', setT_same et, hb'⟩
      · obtain ⟨t2, e2, hb2⟩ := a4
        exact ⟨t2, by rw [setT_get z]; exact e2, hb2⟩
    | _ => exact a4.elim
theorem LI.next {S : SV} {k : Nat} {rows : List Row} {i : Nat} {r : Row} (h : LI S k rows) (e : rows[i]? = some r) : LI (S.setT r.cn (.cur (r.due.drop 1))) (k + 1) (rows.set i ⟨r.cn, r.src, r.due.drop 1⟩) := by
  have h0 := h.zero
  have hi := (List.getElem?_eq_some_iff.mp e).1
  obtain ⟨a1, a2, a3, a4⟩ := h.ok i r e
  have n0 : r.cn ≠ 0 := fun z => by rw [z, h0] at a1; cases a1
  have sr : ∀ {q : RV}, SrcK S k q → SrcK (S.setT r.cn (.cur (r.due.drop 1))) (k + 1) q := fun {q} a => by
    have a := a.up (Nat.le_succ k)
    cases q with
    | txt z => exact a
    | ob m =>
      obtain ⟨t2, e2, hb2⟩ := a
      have z : r.cn ≠ m := fun z => by
        rw [z, e2] at a1
        cases a1
        rcases hb2 with ⟨_, z, _⟩ | ⟨_, z, _⟩ <;> cases z
      exact ⟨t2, by rw [setT_get z]; exact e2, hb2⟩
    | _ => exact a.elim
  have cn_eq : ∀ {j : Nat} {r' : Row}, (rows.set i ⟨r.cn, r.src, r.due.drop 1⟩)[j]? = some r' → ∃ r0, rows[j]? = some r0 ∧ r'.cn = r0.cn := fun {j r'} e' => by
    rw [List.getElem?_set] at e'
    split at e'
    · rename_i z
      subst z
      cases e'
      exact ⟨r, e, rfl⟩
    · exact ⟨r', e', rfl⟩
  refine ⟨fun j r' e' => ?_, fun j j' r1 r2 e1 e2 hc => ?_, setT_sz h.sz trivial, h.out, by rw [setT_get n0]; exact h0⟩
  · rw [List.getElem?_set] at e'
    split at e'
    · rename_i z
      subst z
      cases e'
      exact ⟨setT_same a1, by show (r.due.drop 1).length ≤ 8; rw [List.length_drop]; omega, fun z m => a3 z (List.mem_of_mem_drop m), sr a4⟩
    · rename_i z
      obtain ⟨b1, b2, b3, b4⟩ := h.ok j r' e'
      have : r.cn ≠ r'.cn := fun q => z (h.inj i j r r' e e' q)
      exact ⟨by rw [setT_get this]; exact b1, b2, b3, sr b4⟩
  · obtain ⟨r3, f1, f2⟩ := cn_eq e1
    obtain ⟨r4, f3, f4⟩ := cn_eq e2
    exact h.inj j j' r3 r4 f1 f3 (by rw [← f2, ← f4]; exact hc)
end

section
variable {P : Program} {w : World} {K : PySem.W.Frag} {mg : Str → Option Value} {base : Heap} {c : Cs}
def spLaw (K : PySem.W.Frag) : Sp := fun vs H Q _ => ∃ (a : Addr) (ns : List Int), vs = [.ref a] ∧ SqL K H a (ns.map V.int) ∧ ns.length ≤ 63 ∧ (∀ z ∈ ns, Builtin.Int.intBits z ≤ 1048576) ∧ ∀ H', Q (.bl true) H'
def LW (K : PySem.W.Frag) (w : World) (c : Cs) (H0 : Hp) (s sc : Addr) (ns : List Int) (x : SA) (S : SV) (rl : Addr) (L : List (Addr × Option Addr)) (rows : List Row) (H : Hp) : Prop := Wd K w c H0 s sc ns x S (GR c rl L rows) (rl :: footL L) H
theorem paired_tk {α β : Type} {F : α → β → Prop} {xs : List α} {ys : List β} (h : Paired F xs ys) : ∀ n : Nat, Paired F (xs.take n) (ys.take n) := by
  induction h with
  | nil => intro n; rw [List.take_nil, List.take_nil]; exact .nil
  | cons r t ih =>
    intro n
    cases n with
    | zero => exact .nil
    | succ j => exact .cons r (ih j)
theorem paired_dp {α β : Type} {F : α → β → Prop} {xs : List α} {ys : List β} (h : Paired F xs ys) : ∀ n : Nat, Paired F (xs.drop n) (ys.drop n) := by
  induction h with
  | nil => intro n; rw [List.drop_nil, List.drop_nil]; exact .nil
  | cons r t ih =>
    intro n
    cases n with
    | zero => exact .cons r t
    | succ j => exact ih j
theorem foot_snoc {rl p l : Addr} {L : List (Addr × Option Addr)} : (rl :: footL L) ++ [p, l] = rl :: footL (L ++ [(p, some l)]) := by simp [footL, footT]
theorem LW.snoc {H0 H H1 : Hp} {s sc rl p l ra : Addr} {ns : List Int} {x : SA} {S : SV} {L : List (Addr × Option Addr)} {rows : List Row} {r : Row} {v : V} {ys : List V} (W : LW K w c H0 s sc ns x S rl L rows H) (k : Same H H1) (np : H p = none) (nl : H l = none) (ne : l ≠ p) (ep : H1 p = some (.lst [.ref ra, v, .ref l])) (el : H1 l = some (.lst ys)) (hra : IsRef c H1 ra (r.cn : Nat)) (hv : IsVal c H1 v r.src) (hys : VsAt c H1 ys r.due) :
    LW K w c H0 s sc ns x S rl (L ++ [(p, some l)]) (rows ++ [r]) (upd H1 rl (.lst ((L.map fun p => V.ref p.1) ++ [.ref p]))) := by
  have W1 : Wd K w c H0 s sc ns x S (fun H => GR c rl L rows H ∧ RowAt c H (p, some l) r) (rl :: footL (L ++ [(p, some l)])) H1 := by
    rw [← foot_snoc]
    refine Wd.grow W k ?_ ?_ ?_ ⟨GR.gm _ _ (Wd.g W) (.same k) (fun q _ o e => k _ _ e), ra, v, l, ys, rfl, ep, hra, hv, el, hys⟩ ?_
    · intro a m
      simp only [List.mem_cons, List.not_mem_nil, or_false] at m
      rcases m with rfl | rfl <;> assumption
    · simp [Ne.symm ne]
    · intro a m
      simp only [List.mem_cons, List.not_mem_nil, or_false] at m
      rcases m with rfl | rfl
      · exact ⟨_, ep⟩
      · exact ⟨_, el⟩
    · exact fun H H' h s k => ⟨GR.gm _ _ h.1 s (fun a m => k a (List.mem_append_left _ m)), h.2.mono s fun a m => k a (List.mem_append_right _ (by simpa [footT] using m))⟩
  have nd := (List.nodup_append.mp (List.nodup_cons.mp W1.nd).2).2.1
  have hrl : rl ∉ footL (L ++ [(p, some l)]) := (List.nodup_cons.mp nd).1
  have so : ∀ q ∈ [rl], Soft c H1 q := fun q m => by rw [List.mem_singleton.mp m]; exact soft_lst W1.g.1.1
  have kk : Keep [rl] H1 (upd H1 rl (.lst ((L.map fun p => V.ref p.1) ++ [.ref p]))) := Keep.refl.upd (by simp)
  have up : ∀ {a : Addr} {o : HO}, a ∈ footL (L ++ [(p, some l)]) → H1 a = some o → upd H1 rl (.lst ((L.map fun p => V.ref p.1) ++ [.ref p])) a = some o := fun m e => (upd_ne fun h => hrl (by rw [← h]; exact m)).trans e
  refine W1.own (q := rl) (List.mem_cons_self ..) kk (soft_lst W1.g.1.1) ⟨_, upd_same⟩ ⟨by rw [upd_same]; simp, Paired.snoc (Paired.mapP (paired_mem W1.g.1.2) fun a b z => z.2.mono (.keep kk so) fun u hu o e => up (mem_footL (List.mem_append_left _ z.1) hu) e) (W1.g.2.mono (.keep kk so) fun u hu o e => up (mem_footL (p := (p, some l)) (by simp) hu) e)⟩ GR.gm
theorem LW.setRow {H0 H H1 : Hp} {s sc rl a l ra : Addr} {b : Option Addr} {ns : List Int} {x : SA} {S : SV} {L : List (Addr × Option Addr)} {rows : List Row} {i : Nat} {r : Row} {v : V} {ys : List V} (W : LW K w c H0 s sc ns x S rl L rows H) (eL : L[i]? = some (a, b)) (k : Same H H1) (nl : H l = none) (el : H1 l = some (.lst ys)) (hra : IsRef c H1 ra (r.cn : Nat)) (hv : IsVal c H1 v r.src) (hys : VsAt c H1 ys r.due) :
    LW K w c H0 s sc ns x S rl (L.set i (a, some l)) (rows.set i r) (upd H1 a (.lst [.ref ra, v, .ref l])) := by
  have nd := (List.nodup_append.mp (List.nodup_cons.mp (Wd.nd W)).2).2.1
  obtain ⟨n1, n2⟩ := List.nodup_cons.mp nd
  have hlen : L.length = rows.length := Paired.length (Wd.g W).2
  have hi := (List.getElem?_eq_some_iff.mp eL).1
  have ma : a ∈ footL L := mem_footL (List.mem_of_getElem? eL) (by simp [footT])
  have lv : ∀ {q : Addr}, q ∈ rl :: footL L → ∃ o, H q = some o := fun m => Wd.gl W _ m
  obtain ⟨r0, er0⟩ : ∃ r0, rows[i]? = some r0 := ⟨rows[i]'(by omega), List.getElem?_eq_getElem _⟩
  obtain ⟨r1, q1, q2⟩ := paired_get (Wd.g W).2 eL
  obtain ⟨ra0, v0, dl0, ys0, eb0, ea0, _⟩ := q2
  have so : ∀ p ∈ [a], Soft c H p := fun p m => by rw [List.mem_singleton.mp m]; exact soft_lst ea0
  have nal : l ≠ a := fun z => by rw [z, ea0] at nl; cases nl
  have k2 : Keep [a] H (upd H1 a (.lst [.ref ra, v, .ref l])) := (Keep.of k).upd (by simp)
  have hs : HardStay c H1 (upd H1 a (.lst [.ref ra, v, .ref l])) := .keep (ps := [a]) (Keep.refl.upd (by simp)) fun p m => by rw [List.mem_singleton.mp m]; exact soft_lst (k _ _ ea0)
  have rla : rl ≠ a := fun z => n1 (by rw [z]; exact ma)
  have em : (L.set i (a, some l)).map (fun p => V.ref p.1) = L.map fun p => V.ref p.1 := by
    rw [List.map_set]
    refine List.ext_getElem? fun j => ?_
    rw [List.getElem?_set]
    split
    · rename_i q
      subst q
      rw [List.getElem?_map, eL, List.length_map, if_pos hi]; rfl
    · rfl
  have hfx : ∀ q ∈ rl :: footL (L.set i (a, some l)), q ∈ rl :: footL L ∨ q = l := fun q m => by
    rcases List.mem_cons.mp m with rfl | m
    · exact .inl (List.mem_cons_self ..)
    · rcases footL_mem_set m with m | m
      · exact .inl (List.mem_cons_of_mem _ m)
      · simp only [footT, Option.toList_some, List.mem_cons, List.not_mem_nil, or_false] at m
        rcases m with rfl | rfl
        · exact .inl (List.mem_cons_of_mem _ ma)
        · exact .inr rfl
  refine Wd.mvG W (ps := [a]) k2 (fun p m => by rw [List.mem_singleton.mp m]; exact List.mem_cons_of_mem _ ma) so ?_ (fun q m => (hfx q m).imp id fun z => by rw [z]; exact nl) (fun q m => ?_) ⟨?_, ?_⟩ GR.gm
  · rw [List.nodup_cons]
    refine ⟨fun m => ?_, footL_set n2 eL (foot_two nal) fun q m => ?_⟩
    · rcases footL_mem_set m with m | m
      · exact n1 m
      · simp only [footT, Option.toList_some, List.mem_cons, List.not_mem_nil, or_false] at m
        rcases m with m | m
        · exact rla m
        · obtain ⟨o, e⟩ := lv (q := rl) (List.mem_cons_self ..)
          rw [m, nl] at e; cases e
    · simp only [footT, Option.toList_some, List.mem_cons, List.not_mem_nil, or_false] at m
      rcases m with rfl | rfl
      · exact .inl (by simp [footT])
      · refine .inr fun m => ?_
        obtain ⟨o, e⟩ := lv (List.mem_cons_of_mem _ m)
        rw [nl] at e; cases e
  · by_cases z : q = a
    · rw [z]; exact ⟨_, upd_same⟩
    · rcases hfx q m with m | m
      · obtain ⟨o, e⟩ := lv m
        exact ⟨o, (upd_ne z).trans (k _ _ e)⟩
      · rw [m]; exact ⟨_, (upd_ne nal).trans el⟩
  · rw [em, upd_ne rla]; exact k _ _ (Wd.g W).1
  · refine paired_mk (by rw [List.length_set, List.length_set, hlen]) fun j p r' hp hr => ?_
    rw [List.getElem?_set] at hp hr
    by_cases e : i = j
    · subst e
      rw [if_pos rfl, if_pos hi] at hp
      rw [if_pos rfl, if_pos (by omega)] at hr
      cases hp
      cases hr
      exact ⟨ra, v, l, ys, rfl, upd_same, hra.hs hs, hv.hs hs, (upd_ne nal).trans el, Paired.mapP hys fun _ _ z => z.hs hs⟩
    · rw [if_neg e] at hp hr
      obtain ⟨r2, e2, h2⟩ := paired_get (Wd.g W).2 hp
      rw [hr] at e2
      cases e2
      refine h2.mono (.keep k2 so) fun q hq o eo => k2 _ _ (fun m => ?_) eo
      rw [List.mem_singleton.mp m] at hq
      exact e (footL_disj n2 eL hp (by simp [footT]) hq)
def I1 (K : PySem.W.Frag) (w : World) (c : Cs) (H0 : Hp) (s sc : Addr) (ns : List Int) (y rl : Addr) (k : Nat) (σ : L2.St) (H : Hp) : Prop := ∃ x S L rows, ∃ vs : List (Option V), σ = some (.ref sc) :: some (.ref s) :: some (.ref y) :: some (.ref rl) :: vs ∧ vs.length = 9 ∧ x.y = y ∧ LW K w c H0 s sc ns x S rl L rows H ∧ LI S 8 rows ∧ rows.length = k ∧ S.things.length ≤ 1 + 2 * k
def I2 (K : PySem.W.Frag) (w : World) (c : Cs) (H0 : Hp) (s sc : Addr) (ns : List Int) (y rl : Addr) (m k : Nat) (σ : L2.St) (H : Hp) : Prop := ∃ x S L rows, ∃ vs : List (Option V), σ = some (.ref sc) :: some (.ref s) :: some (.ref y) :: some (.ref rl) :: vs ∧ vs.length = 9 ∧ x.y = y ∧ LW K w c H0 s sc ns x S rl L rows H ∧ LI S (8 + k) rows ∧ rows.length = m ∧ S.things.length ≤ 10
theorem nine {vs : List (Option V)} (h : vs.length = 9) : ∃ v5 v6 v7 v8 v9 v10 v11 v12 v13, vs = [v5, v6, v7, v8, v9, v10, v11, v12, v13] := by
  match vs, h with
  | [a, b, c, d, e, f, g, i, j], _ => exact ⟨a, b, c, d, e, f, g, i, j, rfl⟩
set_option maxHeartbeats 16000000 in
theorem law_has {fa : Addr} {fd : FuncData} (F : Fun K "law" "law" s_law fa fd) (T : Txt K mg c) (H_law_begin : Has P w K mg base CX0 "_law_begin" 1 ["script", "k"] (spBegin K)) (H_law_draw : Has P w K mg base CX0 "_law_draw" 2 ["state", "many"] (spDraw K)) (M_Store : HasC P w K mg base CX0 c.Store "Store" 3 ["self", "lines"] (spStore w K c)) (M_Store_fork : HasM P w K mg base CX0 c.Store "fork" 5 ["self"] (spSFork w c)) (M_Ref : HasC P w K mg base CX0 c.Ref "Ref" 1 ["self", "number"] (spMk_Ref K c)) (H_make_cursor : Has P w K mg base (L2.CX P w) "make_cursor" 4 ["store", "x"] (spMkCur w c)) (H_next_of : Has P w K mg base CX0 "next_of" 3 ["store", "ref"] (spNext w c))
    (H_law_source : Has P w K mg base CX0 "_law_source" 6 ["store", "state"] (spSource K w c)) (H_law_same : Has P w K mg base CX0 "_law_same" 2 ["told", "due"] (spSame c)) (H_law_spoilt : Has P w K mg base CX0 "_law_spoilt" 3 ["store", "value", "state"] (spSpoilt K w c)) (H_law_refused : Has P w K mg base CX0 "_law_refused" 5 ["store"] (spRefused w c)) (M_Ref___eq__ : HasM P w K mg base CX0 c.Ref "__eq__" 1 ["self", "other"] (spEqRef c)) (M_Builtin___eq__ : HasM P w K mg base CX0 c.Builtin "__eq__" 1 ["self", "other"] spEqBt) : FnOk P w K mg base CX0 7 fa fd ["script"] (spLaw K) := by
  have Sc := sc_law
  refine F.ok Sc (fun vs H Q E h => ?_) (fun cdv A outer s H vs Q E hr h => ?_)
  · obtain ⟨a, ns, rfl, _⟩ := h; rfl
  · obtain ⟨sc, ns, rfl, hS, hn, hb, hq⟩ := h
    refine ⟨_, (pss_cons (ps_set (i := 1) Sc.nd rfl (.inl rfl) (fe_call H_law_begin (hr.mono (by walk_at "rm")) (by rfl) pass0 (pa_cons (fe_var 0) (pa_cons pe_int pa_nil))))
      (pss_cons (ps_set (i := 2) Sc.nd rfl (.inl rfl) (fe_make (k := _) M_Store (hr.mono (by walk_at "rm")) (by rfl) pass0 (pa_cons (fe_lst pa_nil) pa_nil)))
      (pss_cons (ps_set (i := 3) Sc.nd rfl (.inl rfl) (fe_lst pa_nil))
      (pss_cons (ps_for PassesOwn.never rfl (pi_range1 (by rfl) T.no_range (pa_cons (pe_op op_fAdd pe_int (fe_call H_law_draw (hr.mono (by walk_at "rm")) (by rfl) pass0 (pa_cons (fe_var 1) (pa_cons pe_int pa_nil)))) pa_nil)) (pg_name (i := 4) Sc.nd rfl (.inl rfl)) (pss_cons (ps_asg (fe_call H_law_source (hr.mono (by walk_at "rm")) (by rfl) pass0 (pa_cons (fe_var 2) (pa_cons (fe_var 1) pa_nil))) (pg_tup (n := 2) rfl (pgs_cons (pg_name (i := 5) Sc.nd rfl (.inl rfl)) (pgs_cons (pg_name (i := 6) Sc.nd rfl (.inl rfl)) pgs_nil))))
      (pss_cons (ps_set (i := 7) Sc.nd rfl (.inl rfl) (pe_callB call_fLen (by rfl) T.no_len (by decide +kernel) (pa_cons (fe_fld (fe_var 2) T.pl_things rfl) pa_nil)))
      (pss_cons (ps_set (i := 8) Sc.nd rfl (.inl rfl) (fe_callX H_make_cursor (hr.mono (by walk_at "rm")) (by rfl) takes0 (pa_cons (fe_var 2) (pa_cons (fe_var 5) pa_nil))))
      (pss_cons (ps_if (PW.pt (pw_or (pt_not (pt_cmpR (op_fOr (op_fEqO M_Ref___eq__ (hr.mono (by walk_at "rm")) pass0) (op_fOr (op_fEqO M_Builtin___eq__ (hr.mono (by walk_at "rm")) pass0) (op_fEq hr.units))) (fe_var 8) (fe_make (k := _) M_Ref (hr.mono (by walk_at "rm")) (by rfl) pass0 (pa_cons (fe_var 7) pa_nil)) (nomark _))) (pw_or1 (pt_cmpR (op_fNe hr.units) (pe_callB call_fLen (by rfl) T.no_len (by decide +kernel) (pa_cons (fe_fld (fe_var 2) T.pl_things rfl) pa_nil)) (pe_op op_fAdd (fe_var 7) pe_int) (nomark _))))) (pss_one (ps_ret pe_bl)) pss_nil)
      (pss_one (ps_expr (fe_bm PySem.F.plainAttrs_list PySem.F.slot_list_append PySem.F.type_list_append isLst_ty mt_fAppend (fe_var 3) (pa_cons (fe_lst (pa_cons (fe_var 8) (pa_cons (fe_var 5) (pa_cons (pe_callTy call_fListOf (by rfl) T.no_list (by decide +kernel) (pa_cons (fe_var 6) pa_nil)) pa_nil)))) pa_nil)))))))))
      (pss_cons (ps_for PassesOwn.never rfl (pi_range1 (by rfl) T.no_range (pa_cons (pe_callB (call_fMin rfl) (by rfl) T.no_min (by decide +kernel) (pa_cons pe_int (pa_cons (pe_callB (call_fMax rfl) (by rfl) T.no_max (by decide +kernel) (pa_cons pe_int (pa_cons (pe_callB call_fLen (by rfl) T.no_len (by decide +kernel) (pa_cons (fe_var 0) pa_nil)) pa_nil))) pa_nil))) pa_nil)) (pg_name (i := 4) Sc.nd rfl (.inl rfl)) (pss_cons (ps_set (i := 9) Sc.nd rfl (.inl rfl) (pe_ix ix_fx (fe_var 3) (fe_call H_law_draw (hr.mono (by walk_at "rm")) (by rfl) pass0 (pa_cons (fe_var 1) (pa_cons (pe_callB call_fLen (by rfl) T.no_len (by decide +kernel) (pa_cons (fe_var 3) pa_nil)) pa_nil))) (fun _ _ => rfl)))
      (pss_cons (ps_set (i := 10) Sc.nd rfl (.inl rfl) (fe_call H_law_draw (hr.mono (by walk_at "rm")) (by rfl) pass0 (pa_cons (fe_var 1) (pa_cons pe_int pa_nil))))
      (pss_one (ps_if (pt_cmpR (op_fEq hr.units) (fe_var 10) pe_int (nomark _)) (pss_one (ps_expr (fe_call H_law_spoilt (hr.mono (by walk_at "rm")) (by rfl) pass0 (pa_cons (fe_var 2) (pa_cons (pe_ix ix_fx (fe_var 9) pe_int (fun _ _ => rfl)) (pa_cons (fe_var 1) pa_nil)))))) (pss_one (ps_if (pt_cmpR (op_fEq hr.units) (fe_var 10) pe_int (nomark _)) (pss_cons (ps_set (i := 11) Sc.nd rfl (.inl rfl) (fe_meth0 M_Store_fork T.cl_Store (hr.mono (by walk_at "rm")) pass0 (fe_var 2)))
      (pss_one (ps_if (pt_not (pt_val (fe_call H_law_same (hr.mono (by walk_at "rm")) (by rfl) pass0 (pa_cons (fe_call H_next_of (hr.mono (by walk_at "rm")) (by rfl) pass0 (pa_cons (fe_var 11) (pa_cons (pe_ix ix_fx (fe_var 9) pe_int (fun _ _ => rfl)) pa_nil))) (pa_cons (pe_slice sl_fx (pe_ix ix_fx (fe_var 9) pe_int (fun _ _ => rfl)) po_none (po_some pe_int)) pa_nil))))) (pss_one (ps_ret pe_bl)) pss_nil))) (pss_cons (ps_set (i := 12) Sc.nd rfl (.inl rfl) (fe_call H_next_of (hr.mono (by walk_at "rm")) (by rfl) pass0 (pa_cons (fe_var 2) (pa_cons (pe_ix ix_fx (fe_var 9) pe_int (fun _ _ => rfl)) pa_nil))))
      (pss_cons (ps_if (PW.pt (pw_or (pt_not (pt_val (pe_callB (call_fIsiA T.kit) (by rfl) T.no_isinstance (by decide +kernel) (pa_cons (fe_var 12) (pa_cons (fe_ty (n := "list") (by rfl) T.no_list (by decide +kernel)) pa_nil))))) (pw_or1 (pt_not (pt_val (fe_call H_law_same (hr.mono (by walk_at "rm")) (by rfl) pass0 (pa_cons (fe_var 12) (pa_cons (pe_slice sl_fx (pe_ix ix_fx (fe_var 9) pe_int (fun _ _ => rfl)) po_none (po_some pe_int)) pa_nil)))))))) (pss_one (ps_ret pe_bl)) pss_nil)
      (pss_cons (ps_asg (pe_slice sl_fx (pe_ix ix_fx (fe_var 9) pe_int (fun _ _ => rfl)) (po_some pe_int) po_none) (pg_sub (fe_var 9) pe_int set_fx))
      (pss_one (ps_expr (fe_bm PySem.F.plainAttrs_list PySem.F.slot_list_append PySem.F.type_list_append isLst_ty mt_fAppend (fe_var 12) (pa_cons pe_int pa_nil))))))))))))))
      (pss_cons (ps_for PassesOwn.never rfl (pi_list (fe_var 3)) (pg_name (i := 9) Sc.nd rfl (.inl rfl)) (pss_one (ps_if (pt_not (pt_val (fe_call H_law_same (hr.mono (by walk_at "rm")) (by rfl) pass0 (pa_cons (fe_fld (pe_ix ix_fx (fe_fld (fe_var 2) T.pl_things rfl) (fe_fld (pe_ix ix_fx (fe_var 9) pe_int (fun _ _ => rfl)) T.pl_number rfl) (fun _ _ => rfl)) T.pl_rest rfl) (pa_cons (pe_ix ix_fx (fe_var 9) pe_int (fun _ _ => rfl)) pa_nil))))) (pss_one (ps_ret pe_bl)) pss_nil)))
      (pss_one (ps_ret (fe_call H_law_refused (hr.mono (by walk_at "rm")) (by rfl) pass0 (pa_cons (fe_var 2) pa_nil)))))))))), ?_⟩
    walk_at "fx0"
    walk_at "ox"
    refine ⟨by decide, ?_⟩
    intro s H1 ns1 sm1 es
    have D : Dr K H s sc ns H1 := ⟨⟨0, 0, es, by decide, by decide⟩, hS, sm1, ns1, hn⟩
    walk_at "ox"
    intro l0 H2 nl0 s2 el0
    refine ⟨[], rl_l el0, fun x H3 St s3 hfr => ?_⟩
    have W0 : Wd K w c H s sc ns x (st0 []) (fun _ => True) [] H3 := by
      refine ⟨(D.same s2).same s3, St, trivial, fun _ _ _ _ _ => trivial, (fun q m => by cases m), ?_, ?_⟩
      · rw [List.append_nil, List.nodup_cons]
        exact ⟨(fun m => by have := hfr s m; rw [s2 _ _ es] at this; cases this), St.nd⟩
      · intro q m
        rw [List.append_nil] at m
        rcases List.mem_cons.mp m with rfl | m
        · exact ns1
        · exact (sm1.trans s2).free (hfr q m)
    walk_at "ox"
    intro rl H4 nrl s4 erl
    have W4 : LW K w c H s sc ns x (st0 []) rl [] [] H4 :=
      W0.grow (qs := [rl]) s4 (fun q m => by rw [List.mem_singleton.mp m]; exact nrl) (by simp) (fun q m => by rw [List.mem_singleton.mp m]; exact ⟨_, erl⟩) ⟨erl, .nil⟩ GR.gm
    have LI4 : LI (st0 []) 8 [] := ⟨(fun i r e => by cases i <;> cases e), (fun i j r r' e => by cases i <;> cases e), (fun t m => by rw [List.mem_singleton.mp m]; trivial), rfl, rfl⟩
    refine cut_ fun N hN => for_ ?_
    walk_at "ox"
    refine ⟨H, sc, ns, Wd.dr W4, by omega, by omega, fun H5 d kp D5 d0 d1 => ?_⟩
    have W5 : LW K w c H s sc ns x (st0 []) rl [] [] H5 := Wd.draw W4 kp D5
    walk_at "ox"
    refine ⟨by omega, by omega, ?_⟩
    refine loop_range (I1 K w c H s sc ns x.y rl) ⟨x, st0 [], [], [], _, rfl, rfl, rfl, W5, LI4, rfl, by decide⟩ ?_ ?_
    · rintro k σ H6 hk ⟨X, S, L, rows, vs, rfl, hvs, ey, W, hI, hrl, hsl⟩
      obtain ⟨v5, v6, v7, v8, v9, v10, v11, v12, v13, rfl⟩ := nine hvs
      rw [← ey]
      walk_at "ox"
      refine ⟨H, sc, ns, X, S, _, _, rfl, W, (List.getElem?_eq_some_iff.mp hI.zero).1, by omega, fun tp v dl ys x' S' due src H7 W7 e7 etp edl hv hsrc hok hdl hS' => ?_⟩
      have hI7 : LI S' 8 rows := by
        rcases hS' with rfl | ⟨t, ht, rfl⟩
        · exact hI
        · exact hI.add ht
      have hl7 : S'.things.length ≤ S.things.length + 1 := by
        rcases hS' with rfl | ⟨t, ht, rfl⟩
        · omega
        · show (S.things ++ [t]).length ≤ _; rw [List.length_append]; exact Nat.le_refl _
      obtain ⟨sdx, es7⟩ := W7.st.st
      rw [e7] at es7
      walk_at "ox"
      refine ⟨_, SqT.of etp, ?_⟩
      repeat (first | walk_at "oxs" | simp only [es7])
      refine ⟨_, rl_l W7.st.et, ?_⟩
      have hlen : x'.L.length = S'.things.length := Paired.length W7.st.th
      rw [List.length_map, hlen]
      obtain ⟨ok1, ok2, ok3, ok4⟩ := hok
      refine ⟨x', S', src, e7.symm, W7.st, hsrc, ?_, ?_, by omega, ?_⟩
      · intro n e
        subst e
        obtain ⟨t, et, _⟩ := ok4
        exact (List.getElem?_eq_some_iff.mp et).1
      · cases src with
        | txt z => exact ok4
        | ob n => exact fun t et => hI7.sz t (List.mem_of_getElem? et)
        | _ => trivial
      rw [ok1]
      dsimp only
      intro r a b H8 nr hf8 k8 st8 rr
      have W8 := W7.make hf8 k8 st8
      repeat (walk_at "oxs")
      intro r2 dx2 H9 nr2 s9 er2
      have W9 := W8.same s9
      have rr9 := rr.same s9
      obtain ⟨odx, eow⟩ := id rr9
      refine .inl ⟨by rw [eow], by rw [er2], (S'.things.length : Nat), (S'.things.length : Nat), ⟨odx, eow⟩, ⟨_, er2⟩, ?_⟩
      rw [decide_eq_true rfl]
      obtain ⟨d9, es9⟩ := W9.st.st
      have es9' : H9 X.y = some (.ins c.Store d9 [("things", .ref (x'.add a b).tl), ("output", .ref (x'.add a b).ol), ("lines", .ref (x'.add a b).ll), ("taken", .int ((S'.add (.cur due)).taken : Nat))]) := by rw [← e7]; exact es9
      repeat (first | walk_at "oxs" | simp only [es9'])
      refine ⟨_, rl_l W9.st.et, ?_⟩
      rw [if_neg (by simp [SA.add, hlen])]
      have erl9 := W9.g.1
      have htl : x'.tl ≠ dl := fun z => hdl (by rw [← z]; simp [SA.foot])
      have edl9 : H9 dl = some (.lst ys) := s9 _ _ (k8 _ _ (by simpa using Ne.symm htl) edl)
      refine ⟨by rw [erl9]; trivial, _, rl_l edl9, fun l H10 nl s10 el p H11 np s11 ep => ?_⟩
      have hlp : l ≠ p := fun z => by rw [← z, el] at np; cases np
      simp only [s11 _ _ (s10 _ _ erl9)]
      have hs9 : HardStay c H7 H9 := HardStay.trans (.keep k8 W7.st.soft_tl) (.same s9)
      have hs11 : HardStay c H7 H11 := HardStay.trans hs9 (.same (s10.trans s11))
      have WF := LW.snoc (r := ⟨S'.things.length, src, due⟩) W9 (s10.trans s11) (s10.free np) nl hlp ep (s11 _ _ el) (rr9.same (s10.trans s11)) (hsrc.hs hs11) (Paired.mapP hv fun _ _ z => z.hs hs11)
      refine ⟨len_line' (by rw [List.length_map, Paired.length (Wd.g W).2]; omega), x'.add a b, _, _, _, _, rfl, rfl, e7, WF, hI7.snoc ok2 ok3 ok4, by rw [List.length_append, hrl]; rfl, ?_⟩
      show (S'.things ++ [_]).length ≤ _
      rw [List.length_append, List.length_singleton]; omega
    · rintro σ H6 ⟨X, S, L, rows, vs, rfl, hvs, ey, W, hI, hrl, hsl⟩
      obtain ⟨v5, v6, v7, v8, v9, v10, v11, v12, v13, rfl⟩ := nine hvs
      refine hN _ _ ?_
      walk_at "ox"
      refine cut_ fun N2 hN2 => for_ ?_
      walk_at "ox"
      refine ⟨_, .inl ((Wd.dr W).sm.seq hS), ?_⟩
      rw [List.length_map]
      generalize hm : (if (if (ns.length : Int) > 8 then (ns.length : Int) else 8) < 30 then (if (ns.length : Int) > 8 then (ns.length : Int) else 8) else 30) = m
      have hm9 : 0 ≤ m ∧ m ≤ 30 := by
        rw [← hm]
        split <;> split <;> omega
      refine ⟨by omega, by omega, ?_⟩
      refine loop_range (I2 K w c H s sc ns x.y rl rows.length) ⟨X, S, L, rows, _, rfl, rfl, ey, W, hI, rfl, by omega⟩ ?_ ?_
      · rintro k σ H7 hk ⟨X, S, L, rows2, vs, rfl, hvs, ey, W, hI, hrl, hsl⟩
        obtain ⟨u5, u6, u7, u8, u9, u10, u11, u12, u13, rfl⟩ := nine hvs
        rw [← ey]
        walk_at "ox"
        refine ⟨_, rl_l W.g.1, ?_⟩
        rw [List.length_map, Paired.length W.g.2]
        refine ⟨H, sc, ns, Wd.dr W, by omega, by omega, fun H8 at_ kp D8 a0 a1 => ?_⟩
        have W8 := Wd.draw W kp D8
        obtain ⟨n, rfl⟩ : ∃ n : Nat, at_ = n := ⟨at_.toNat, by omega⟩
        obtain ⟨r, er⟩ : ∃ r, rows2[n]? = some r := ⟨rows2[n]'(by omega), List.getElem?_eq_getElem _⟩
        obtain ⟨a, b, eL, ⟨ra, v, dl, ys, eb, ea, hra, hv, edl, hys⟩, hat⟩ := W8.g.row er
        have ro := hI.ok n r er
        refine ⟨_, rl_l W8.g.1, _, hat, ?_⟩
        walk_at "ox"
        refine ⟨H, sc, ns, Wd.dr W8, by omega, by omega, fun H9 kd kp9 D9 c0 c1 => ?_⟩
        have W9 := Wd.draw W8 kp9 D9
        have na : a ≠ s := fun z => (Wd.s_gf W8 (List.mem_cons_of_mem _ (mem_footL (List.mem_of_getElem? eL) (by simp [footT])))) z.symm
        have ndl : dl ≠ s := fun z => (Wd.s_gf W8 (List.mem_cons_of_mem _ (mem_footL (List.mem_of_getElem? eL) (by rw [eb]; simp [footT])))) z.symm
        have ea9 := kp9 _ _ (by simpa using na) ea
        have edl9 := kp9 _ _ (by simpa using ndl) edl
        have hs9 : HardStay c H8 H9 := .keep kp9 (Wd.s_soft W8)
        have hv9 := hv.hs hs9
        have hra9 := hra.hs hs9
        have hys9 := VsAt.hs hys hs9
        repeat (walk_at "oxs")
        split
        · refine ⟨_, rl_l ea9, _, rfl, ?_⟩
          refine ⟨H, sc, ns, X, S, _, _, _, 8 + k, rfl, W9, hv9, ro.sr, by omega, fun S' H10 W10 hsp => ?_⟩
          have hl10 : S'.things.length = S.things.length := by
            rcases hsp with rfl | ⟨n, t, t', _, _, _, _, rfl⟩
            · rfl
            · exact List.length_set ..
          exact ⟨X, S', L, rows2, _, rfl, rfl, rfl, W10, hI.spoilt (by omega) hsp, hrl, by omega⟩
        · repeat (walk_at "oxs")
          have ma : a ∈ rl :: footL L := List.mem_cons_of_mem _ (mem_footL (List.mem_of_getElem? eL) (by simp [footT]))
          have mdl : dl ∈ rl :: footL L := List.mem_cons_of_mem _ (mem_footL (List.mem_of_getElem? eL) (by rw [eb]; simp [footT]))
          obtain ⟨d9, es9⟩ := (Wd.st W9).st
          have hnb1 : NoBt (r.due.take 1) := fun z m => ro.nb z (List.mem_of_mem_take m)
          have hl1 : (r.due.take 1).length ≤ 1000 := by rw [List.length_take]; omega
          have hle8 := ro.le
          split
          · simp only [es9]
            walk_at "ox"
            refine ⟨X, S, rfl, Wd.st W9, by omega, by rw [hI.out]; decide, hI.sz, fun x' H10 s10 S10 hfr => ?_⟩
            refine ⟨_, rl_l (s10 _ _ ea9), _, rfl, ?_⟩
            refine ⟨x', S, r.cn, r.due, rfl, S10, hra9.same s10, ro.cu, by omega, fun f ys2 x2 ps H11 e2 nf hfx ef hvs kps hps so st2 hf2 => ?_⟩
            have W10 : LW K w c H s sc ns X S rl L rows2 H10 := Wd.same W9 s10
            have W11 : LW K w c H s sc ns X S rl L rows2 H11 := Wd.junk W10 kps so (fun p m => (Wd.dr W9).sm.free (hfr p (hps p m))) fun p m => (Wd.off W9 (hfr p (hps p m))).2
            have offp : ∀ {q : Addr} {o : HO}, H9 q = some o → q ∉ ps := fun e m => by rw [hfr _ (hps _ m)] at e; cases e
            have ea11 := kps _ _ (offp ea9) (s10 _ _ ea9)
            have edl11 := kps _ _ (offp edl9) (s10 _ _ edl9)
            refine ⟨_, rl_l ea11, _, rfl, _, .inl (.inl edl11), fun g H12 ng s12 eg => ?_⟩
            rw [cut_first] at eg
            refine ⟨ys2, _, r.due.take 1, s12 _ _ ef, eg, Paired.mapP hvs fun _ _ z => z.same s12, ?_, hl1, hnb1, ?_⟩
            · exact Paired.mapP (paired_tk hys9 1) fun _ _ z => ((z.same s10).hs (.keep kps so)).same s12
            · repeat (walk_at "oxs")
              exact ⟨X, S, L, rows2, _, rfl, rfl, rfl, Wd.same W11 s12, hI.up (Nat.le_succ _), hrl, by omega⟩
          · refine ⟨_, rl_l ea9, _, rfl, ?_⟩
            refine ⟨X, S, r.cn, r.due, rfl, Wd.st W9, hra9, ro.cu, by omega, fun f ys2 x2 ps H10 e2 nf hfx ef hvs kps hps so st2 hf2 => ?_⟩
            have W10 : LW K w c H s sc ns x2 (S.setT r.cn (.cur (r.due.drop 1))) rl L rows2 H10 := Wd.mv W9 kps hps so st2 hf2
            have hs10 : HardStay c H9 H10 := .keep kps so
            have offp : ∀ {q : Addr}, q ∈ rl :: footL L → q ∉ ps := fun m n => Wd.f_gf W9 (hps _ n) m rfl
            have ea10 := kps _ _ (offp ma) ea9
            have edl10 := kps _ _ (offp mdl) edl9
            have oF : Off H X (rl :: footL L) s f := Wd.off W9 nf
            refine ⟨.type "list", by dsimp only; rw [ef], ?_⟩
            repeat (walk_at "oxs")
            refine ⟨_, rl_l ea10, _, rfl, _, .inl (.inl edl10), fun g H11 ng s11 eg => ?_⟩
            rw [cut_first] at eg
            have W11 : LW K w c H s sc ns x2 (S.setT r.cn (.cur (r.due.drop 1))) rl L rows2 H11 := Wd.same W10 s11
            refine ⟨ys2, _, r.due.take 1, s11 _ _ ef, eg, Paired.mapP hvs fun _ _ z => z.same s11, Paired.mapP (paired_tk hys9 1) fun _ _ z => (z.hs hs10).same s11, hl1, hnb1, ?_⟩
            repeat (walk_at "oxs")
            refine ⟨_, rl_l (s11 _ _ ea10), _, rfl, _, .inl (.inl (s11 _ _ edl10)), fun l3 H12 nl3 s12 el3 => ?_⟩
            rw [cut_rest] at el3
            have nfa : f ≠ a := fun z => by rw [z, ea9] at nf; cases nf
            have hs12 : HardStay c H9 H12 := HardStay.trans hs10 (.same (s11.trans s12))
            simp only [s12 _ _ (s11 _ _ ea10)]
            refine ⟨2, rfl, ?_⟩
            simp only [upd_ne nfa, s12 _ _ (s11 _ _ ef)]
            have hl2 : ys2.length ≤ 1 := by
              have := Paired.length hvs
              rw [List.length_take] at this
              omega
            have WS := LW.setRow (r := ⟨r.cn, r.src, r.due.drop 1⟩) W11 eL s12 nl3 el3 (hra9.hs hs12) (hv9.hs hs12) (Paired.mapP (paired_dp hys9 1) fun _ _ z => z.hs hs12)
            have oF2 : Off H x2 (rl :: footL (L.set n (a, some l3))) s f := by
              refine ⟨oF.1, fun m => ?_⟩
              rcases List.mem_cons.mp m with m | m
              · exact oF.2 (by rw [m]; exact List.mem_cons_self ..)
              · rcases List.mem_append.mp m with m | m
                · exact hfx m
                · rcases List.mem_cons.mp m with m | m
                  · exact oF.2 (by rw [m]; exact List.mem_cons_of_mem _ (List.mem_append_right _ (List.mem_cons_self ..)))
                  · rcases footL_mem_set m with m | m
                    · exact oF.2 (List.mem_cons_of_mem _ (List.mem_append_right _ (List.mem_cons_of_mem _ m)))
                    · simp only [footT, Option.toList_some, List.mem_cons, List.not_mem_nil, or_false] at m
                      rcases m with m | m
                      · exact nfa m
                      · rw [← m, s11 _ _ ef] at nl3; cases nl3
            have WP := Wd.put (zs := ys2 ++ [.int 3]) WS oF2 ((upd_ne nfa).trans (s12 _ _ (s11 _ _ ef)))
            exact ⟨trivial, len_line' (by omega), x2, _, _, _, _, rfl, rfl, e2, WP, hI.next er, by rw [List.length_set]; exact hrl, by show (S.things.set _ _).length ≤ 10; rw [List.length_set]; exact hsl⟩
      · rintro σ H7 ⟨X, S, L, rows2, vs, rfl, hvs, ey, W, hI, hrl, hsl⟩
        obtain ⟨u5, u6, u7, u8, u9, u10, u11, u12, u13, rfl⟩ := nine hvs
        refine hN2 _ _ ?_
        rw [← ey]
        walk_at "ox"
        refine cut_ fun N3 hN3 => for_ ?_
        walk_at "ox"
        refine ⟨⟨_, .inl (.inl (Wd.g W).1)⟩, ?_⟩
        obtain ⟨d7, es7⟩ := (Wd.st W).st
        refine loop_list (L.map fun p => V.ref p.1) (fun i σ H' => H' = H7 ∧ ∃ vs : List (Option V), σ = some (.ref sc) :: some (.ref s) :: some (.ref X.y) :: some (.ref rl) :: vs ∧ vs.length = 9) ⟨rfl, _, rfl, rfl⟩ (fun i σ H' _ ⟨e, _⟩ => by rw [e]; exact .inl (.inl (Wd.g W).1)) ?_ ?_
        · rintro i rv σ H8 hrv ⟨rfl, vs, rfl, hvs⟩
          obtain ⟨w5, w6, w7, w8, w9, w10, w11, w12, w13, rfl⟩ := nine hvs
          rw [List.getElem?_map] at hrv
          obtain ⟨p, ep, rfl⟩ := Option.map_eq_some_iff.mp hrv
          obtain ⟨r, er, ra, v, dl, ys, eb, ea, hra, hv, edl, hys⟩ := paired_get (Wd.g W).2 ep
          obtain ⟨rdx, era⟩ := id hra
          have ro := hI.ok i r er
          obtain ⟨a3, b3, h1, h2, h3⟩ := (Wd.st W).num ro.cu
          obtain ⟨cdx, cl, cxs, _, ec1, ec2, ec3⟩ := h2
          repeat (first | walk_at "oxs" | simp only [es7])
          refine ⟨_, rl_l ea, _, rfl, ?_⟩
          repeat (first | walk_at "oxs" | simp only [era])
          refine ⟨_, rl_l (Wd.st W).et, _, h3, ?_⟩
          repeat (first | walk_at "oxs" | simp only [ec1])
          refine ⟨_, rl_l ea, _, rfl, ?_⟩
          refine ⟨cxs, ys, r.due, ec2, edl, ec3, hys, by have := ro.le; omega, ro.nb, ?_⟩
          repeat (walk_at "oxs")
        · rintro σ H8 ⟨rfl, vs, rfl, hvs⟩
          obtain ⟨w5, w6, w7, w8, w9, w10, w11, w12, w13, rfl⟩ := nine hvs
          refine hN3 _ _ ?_
          walk_at "ox"
          refine ⟨X, S, rfl, Wd.st W, hI.zero, by omega, fun H9 => ?_⟩
          walk_at "ox"
          exact hq _
end
section
variable {P : Program} {w : World} {K : PySem.W.Frag} {mg : Str → Option Value} {base : Heap} {c : Cs}
theorem law_fn {fa : Addr} {fd : FuncData} (F : Fun K "law" "law" s_law fa fd) (T : Txt K mg c)
    (a_ScriptError___init__ : AtE K c.ScriptError "ScriptError.__init__" s_ScriptError___init__ ["self", "kind", "message"])
    (a_Ref___init__ : AtM K c.Ref "__init__" "Ref.__init__" s_Ref___init__ ["self", "number"])
    (a_Ref___eq__ : AtM K c.Ref "__eq__" "Ref.__eq__" s_Ref___eq__ ["self", "other"])
    (a_Builtin___init__ : AtM K c.Builtin "__init__" "Builtin.__init__" s_Builtin___init__ ["self", "name"])
    (a_Builtin___eq__ : AtM K c.Builtin "__eq__" "Builtin.__eq__" s_Builtin___eq__ ["self", "other"])
    (a_key_of : At K mg "key_of" "key_of" s_key_of ["value"])
    (a_Parts___init__ : AtM K c.Parts "__init__" "Parts.__init__" s_Parts___init__ ["self", "held"])
    (a_Parts_fork : AtM K c.Parts "fork" "Parts.fork" s_Parts_fork ["self"])
    (a_Table___init__ : AtM K c.Table "__init__" "Table.__init__" s_Table___init__ ["self"])
    (a_Table_many : AtP K c.Table "many" "Table.many" s_Table_many ["self"])
    (a_Table_has : AtM K c.Table "has" "Table.has" s_Table_has ["self", "key"])
    (a_Table_put : AtM K c.Table "put" "Table.put" s_Table_put ["self", "key", "value"])
    (a_Table_pairs : AtM K c.Table "pairs" "Table.pairs" s_Table_pairs ["self"])
    (a_Table_fork : AtM K c.Table "fork" "Table.fork" s_Table_fork ["self"])
    (a_Instance___init__ : AtM K c.Instance "__init__" "Instance.__init__" s_Instance___init__ ["self", "owner"])
    (a_Instance_fork : AtM K c.Instance "fork" "Instance.fork" s_Instance_fork ["self"])
    (a_Kin___init__ : AtM K c.Kin "__init__" "Kin.__init__" s_Kin___init__ ["self", "name", "parent"])
    (a_Kin_fork : AtM K c.Kin "fork" "Kin.fork" s_Kin_fork ["self"])
    (a_Cursor___init__ : AtM K c.Cursor "__init__" "Cursor.__init__" s_Cursor___init__ ["self", "rest"])
    (a_Cursor_fork : AtM K c.Cursor "fork" "Cursor.fork" s_Cursor_fork ["self"])
    (a_Store___init__ : AtM K c.Store "__init__" "Store.__init__" s_Store___init__ ["self", "lines"])
    (a_Store_make : AtM K c.Store "make" "Store.make" s_Store_make ["self", "thing"])
    (a_Store_at : AtM K c.Store "at" "Store.at" s_Store_at ["self", "ref"])
    (a_Store_fork : AtM K c.Store "fork" "Store.fork" s_Store_fork ["self"])
    (a_thing_of : At K mg "thing_of" "thing_of" s_thing_of ["store", "value"])
    (a_kind_of : At K mg "kind_of" "kind_of" s_kind_of ["store", "value"])
    (a_is_key : At K mg "is_key" "is_key" s_is_key ["value"])
    (a_check_parts : At K mg "check_parts" "check_parts" s_check_parts ["count"])
    (a_checked_key : At K mg "checked_key" "checked_key" s_checked_key ["i"])
    (a_put_key : At K mg "put_key" "put_key" s_put_key ["table", "key", "value"])
    (a_make_list : At K mg "make_list" "make_list" s_make_list ["store", "values"])
    (a_make_map : At K mg "make_map" "make_map" s_make_map ["store", "pairs"])
    (a_make_cursor : At K mg "make_cursor" "make_cursor" s_make_cursor ["store", "x"])
    (a_next_of : At K mg "next_of" "next_of" s_next_of ["store", "ref"])
    (a_law_cell : At K mg "_law_cell" "_law_cell" s_law_cell ["script", "k"])
    (a_law_begin : At K mg "_law_begin" "_law_begin" s_law_begin ["script", "k"])
    (a_law_draw : At K mg "_law_draw" "_law_draw" s_law_draw ["state", "many"])
    (a_law_pick : At K mg "_law_pick" "_law_pick" s_law_pick ["state", "row"])
    (a_law_source : At K mg "_law_source" "_law_source" s_law_source ["store", "state"])
    (a_law_same : At K mg "_law_same" "_law_same" s_law_same ["told", "due"])
    (a_law_spoilt : At K mg "_law_spoilt" "_law_spoilt" s_law_spoilt ["store", "value", "state"])
    (a_law_refused : At K mg "_law_refused" "_law_refused" s_law_refused ["store"]) :
    FnOk P w K mg base CX0 7 fa fd ["script"] (spLaw K) := by
  have E_ScriptError := mkE_ScriptError (P := P) (w := w) (base := base) a_ScriptError___init__ T 
  have M_Ref := mk_Ref (P := P) (w := w) (base := base) a_Ref___init__ T 
  have M_Ref___eq__ := ok_eqRef (P := P) (w := w) (base := base) a_Ref___eq__ T 
  have M_Builtin := mk_Builtin (P := P) (w := w) (base := base) a_Builtin___init__ T 
  have M_Builtin___eq__ := ok_eqBt (P := P) (w := w) (base := base) a_Builtin___eq__ T 
  have H_key_of := ok_keyof (P := P) (w := w) (base := base) a_key_of T 
  have M_Parts := mk_Parts (P := P) (w := w) (base := base) a_Parts___init__ T 
  have M_Parts_fork := ok_forkParts (P := P) (w := w) (base := base) a_Parts_fork T M_Parts
  have M_Table := ok_mktab (P := P) (w := w) (base := base) a_Table___init__ T 
  have P_Table_many := ok_many (P := P) (w := w) (base := base) a_Table_many T 
  have M_Table_has := ok_has (P := P) (w := w) (base := base) a_Table_has T H_key_of
  have M_Table_put := ok_put (P := P) (w := w) (base := base) a_Table_put T H_key_of
  have M_Table_pairs := ok_pairs (P := P) (w := w) (base := base) a_Table_pairs T 
  have M_Table_fork := ok_forkTable (P := P) (w := w) (base := base) a_Table_fork T M_Table M_Table_put M_Table_pairs
  have M_Instance := mk_Instance (P := P) (w := w) (base := base) a_Instance___init__ T 
  have M_Instance_fork := ok_forkInstance (P := P) (w := w) (base := base) a_Instance_fork T M_Instance
  have M_Kin := mk_Kin (P := P) (w := w) (base := base) a_Kin___init__ T 
  have M_Kin_fork := ok_forkKin (P := P) (w := w) (base := base) a_Kin_fork T M_Kin
  have M_Cursor := mk_Cursor (P := P) (w := w) (base := base) a_Cursor___init__ T 
  have M_Cursor_fork := ok_forkCursor (P := P) (w := w) (base := base) a_Cursor_fork T M_Cursor
  have M_Store := ok_store (P := P) (w := w) (base := base) a_Store___init__ T M_Kin
  have M_Store_make := ok_make (P := P) (w := w) (base := base) a_Store_make T M_Ref
  have M_Store_at := ok_at (P := P) (w := w) (base := base) a_Store_at T 
  have M_Store_fork := ok_sfork (P := P) (w := w) (base := base) a_Store_fork T M_Store M_Parts_fork M_Table_fork M_Kin_fork M_Cursor_fork M_Instance_fork
  have H_thing_of := ok_thing (P := P) (w := w) (base := base) a_thing_of T M_Store_at
  have H_kind_of := ok_kind (P := P) (w := w) (base := base) a_kind_of T H_thing_of
  have H_is_key := ok_iskey (P := P) (w := w) (base := base) a_is_key T 
  have H_check_parts := ok_check (P := P) (w := w) (base := base) a_check_parts T E_ScriptError
  have H_checked_key := ok_chkkey (P := P) (w := w) (base := base) a_checked_key T H_is_key E_ScriptError
  have H_put_key := ok_putkey (P := P) (w := w) (base := base) a_put_key T M_Table_has M_Table_put P_Table_many H_check_parts
  have H_make_list := ok_mklist (P := P) (w := w) (base := base) a_make_list T H_check_parts M_Parts M_Store_make
  have H_make_map := ok_mkmap (P := P) (w := w) (base := base) a_make_map T M_Table H_checked_key H_put_key M_Store_make
  have H_make_cursor := ok_mkcur (P := P) (w := w) (base := base) a_make_cursor T H_thing_of H_kind_of M_Cursor M_Table_pairs M_Store_make E_ScriptError
  have H_next_of := ok_next (P := P) (w := w) (base := base) a_next_of T M_Store_at
  have H_law_cell := ok_cell (P := P) (w := w) (base := base) a_law_cell T 
  have H_law_begin := ok_begin (P := P) (w := w) (base := base) a_law_begin T 
  have H_law_draw := ok_draw (P := P) (w := w) (base := base) a_law_draw T H_law_cell
  have H_law_pick := ok_pick2 (P := P) (w := w) (base := base) a_law_pick T H_law_draw
  have H_law_source := ok_source (P := P) (w := w) (base := base) a_law_source T H_law_draw H_law_pick M_Ref H_make_list H_make_map
  have H_law_same := ok_same (P := P) (w := w) (base := base) a_law_same T M_Ref___eq__ M_Builtin___eq__
  have H_law_spoilt := ok_spoilt (P := P) (w := w) (base := base) a_law_spoilt T H_law_draw M_Table_put
  have H_law_refused := ok_refused (P := P) (w := w) (base := base) a_law_refused T H_make_cursor M_Ref M_Builtin
  exact law_has F T H_law_begin H_law_draw M_Store M_Store_fork M_Ref H_make_cursor H_next_of H_law_source H_law_same H_law_spoilt H_law_refused M_Ref___eq__ M_Builtin___eq__
end
theorem all_mk {P : Program} {w : World} {K : PySem.W.Frag} {h : Heap} {mg : Str → Option Value} {fa : Addr} {C_Ref C_Builtin C_Parts C_Table C_Instance C_Kin C_Cursor C_Store C_LivequillError C_ScriptError : Addr} (X : K.In h) (G : h.Ns mainGlobals mg) (hfa : mg "law" = some (.ref fa))
    (n_Ref : PySem.W.nsIn K mainGlobals "Ref" = some (some (.ref C_Ref)))
    (n_Builtin : PySem.W.nsIn K mainGlobals "Builtin" = some (some (.ref C_Builtin)))
    (n_Parts : PySem.W.nsIn K mainGlobals "Parts" = some (some (.ref C_Parts)))
    (n_Table : PySem.W.nsIn K mainGlobals "Table" = some (some (.ref C_Table)))
    (n_Instance : PySem.W.nsIn K mainGlobals "Instance" = some (some (.ref C_Instance)))
    (n_Kin : PySem.W.nsIn K mainGlobals "Kin" = some (some (.ref C_Kin)))
    (n_Cursor : PySem.W.nsIn K mainGlobals "Cursor" = some (some (.ref C_Cursor)))
    (n_Store : PySem.W.nsIn K mainGlobals "Store" = some (some (.ref C_Store)))
    (n_LivequillError : PySem.W.nsIn K mainGlobals "LivequillError" = some (some (.ref C_LivequillError)))
    (n_ScriptError : PySem.W.nsIn K mainGlobals "ScriptError" = some (some (.ref C_ScriptError)))
    (x_Ref : ClsFact K C_Ref)
    (x_Builtin : ClsFact K C_Builtin)
    (x_Parts : ClsFact K C_Parts)
    (x_Table : ClsFact K C_Table)
    (x_Instance : ClsFact K C_Instance)
    (x_Kin : ClsFact K C_Kin)
    (x_Cursor : ClsFact K C_Cursor)
    (x_Store : ClsFact K C_Store)
    (x_LivequillError : ExcFact K C_LivequillError)
    (x_ScriptError : ExcFact K C_ScriptError)
    (xn_kind_ScriptError : PySem.W.findIn K (.ref C_ScriptError) "kind" = some none)
    (xn_message_ScriptError : PySem.W.findIn K (.ref C_ScriptError) "message" = some none)
    (em_ScriptError_ScriptError : PySem.W.subIn K (.ref C_ScriptError) (.ref C_ScriptError) = some true)
    (ob : ObjFact K)
    (na__rows_Table : PySem.W.findIn K (.ref C_Table) "_rows" = some none)
    (na_held_Parts : PySem.W.findIn K (.ref C_Parts) "held" = some none)
    (na_lines_Store : PySem.W.findIn K (.ref C_Store) "lines" = some none)
    (na_methods_Kin : PySem.W.findIn K (.ref C_Kin) "methods" = some none)
    (na_name_Builtin : PySem.W.findIn K (.ref C_Builtin) "name" = some none)
    (na_name_Kin : PySem.W.findIn K (.ref C_Kin) "name" = some none)
    (na_named_Instance : PySem.W.findIn K (.ref C_Instance) "named" = some none)
    (na_number_Ref : PySem.W.findIn K (.ref C_Ref) "number" = some none)
    (na_output_Store : PySem.W.findIn K (.ref C_Store) "output" = some none)
    (na_owner_Instance : PySem.W.findIn K (.ref C_Instance) "owner" = some none)
    (na_parent_Kin : PySem.W.findIn K (.ref C_Kin) "parent" = some none)
    (na_rest_Cursor : PySem.W.findIn K (.ref C_Cursor) "rest" = some none)
    (na_taken_Store : PySem.W.findIn K (.ref C_Store) "taken" = some none)
    (na_things_Store : PySem.W.findIn K (.ref C_Store) "things" = some none)
    (oo_Ref_Ref : PySem.W.kitOne K (.ref C_Ref) (.ref C_Ref) = some (decide (C_Ref = C_Ref)))
    (oo_Ref_Parts : PySem.W.kitOne K (.ref C_Ref) (.ref C_Parts) = some (decide (C_Ref = C_Parts)))
    (oo_Ref_Table : PySem.W.kitOne K (.ref C_Ref) (.ref C_Table) = some (decide (C_Ref = C_Table)))
    (oo_Ref_Instance : PySem.W.kitOne K (.ref C_Ref) (.ref C_Instance) = some (decide (C_Ref = C_Instance)))
    (oo_Ref_Kin : PySem.W.kitOne K (.ref C_Ref) (.ref C_Kin) = some (decide (C_Ref = C_Kin)))
    (oo_Ref_Builtin : PySem.W.kitOne K (.ref C_Ref) (.ref C_Builtin) = some (decide (C_Ref = C_Builtin)))
    (oo_Builtin_Ref : PySem.W.kitOne K (.ref C_Builtin) (.ref C_Ref) = some (decide (C_Builtin = C_Ref)))
    (oo_Builtin_Parts : PySem.W.kitOne K (.ref C_Builtin) (.ref C_Parts) = some (decide (C_Builtin = C_Parts)))
    (oo_Builtin_Table : PySem.W.kitOne K (.ref C_Builtin) (.ref C_Table) = some (decide (C_Builtin = C_Table)))
    (oo_Builtin_Instance : PySem.W.kitOne K (.ref C_Builtin) (.ref C_Instance) = some (decide (C_Builtin = C_Instance)))
    (oo_Builtin_Kin : PySem.W.kitOne K (.ref C_Builtin) (.ref C_Kin) = some (decide (C_Builtin = C_Kin)))
    (oo_Builtin_Builtin : PySem.W.kitOne K (.ref C_Builtin) (.ref C_Builtin) = some (decide (C_Builtin = C_Builtin)))
    (oo_Parts_Ref : PySem.W.kitOne K (.ref C_Parts) (.ref C_Ref) = some (decide (C_Parts = C_Ref)))
    (oo_Parts_Parts : PySem.W.kitOne K (.ref C_Parts) (.ref C_Parts) = some (decide (C_Parts = C_Parts)))
    (oo_Parts_Table : PySem.W.kitOne K (.ref C_Parts) (.ref C_Table) = some (decide (C_Parts = C_Table)))
    (oo_Parts_Instance : PySem.W.kitOne K (.ref C_Parts) (.ref C_Instance) = some (decide (C_Parts = C_Instance)))
    (oo_Parts_Kin : PySem.W.kitOne K (.ref C_Parts) (.ref C_Kin) = some (decide (C_Parts = C_Kin)))
    (oo_Parts_Builtin : PySem.W.kitOne K (.ref C_Parts) (.ref C_Builtin) = some (decide (C_Parts = C_Builtin)))
    (oo_Table_Ref : PySem.W.kitOne K (.ref C_Table) (.ref C_Ref) = some (decide (C_Table = C_Ref)))
    (oo_Table_Parts : PySem.W.kitOne K (.ref C_Table) (.ref C_Parts) = some (decide (C_Table = C_Parts)))
    (oo_Table_Table : PySem.W.kitOne K (.ref C_Table) (.ref C_Table) = some (decide (C_Table = C_Table)))
    (oo_Table_Instance : PySem.W.kitOne K (.ref C_Table) (.ref C_Instance) = some (decide (C_Table = C_Instance)))
    (oo_Table_Kin : PySem.W.kitOne K (.ref C_Table) (.ref C_Kin) = some (decide (C_Table = C_Kin)))
    (oo_Table_Builtin : PySem.W.kitOne K (.ref C_Table) (.ref C_Builtin) = some (decide (C_Table = C_Builtin)))
    (oo_Instance_Ref : PySem.W.kitOne K (.ref C_Instance) (.ref C_Ref) = some (decide (C_Instance = C_Ref)))
    (oo_Instance_Parts : PySem.W.kitOne K (.ref C_Instance) (.ref C_Parts) = some (decide (C_Instance = C_Parts)))
    (oo_Instance_Table : PySem.W.kitOne K (.ref C_Instance) (.ref C_Table) = some (decide (C_Instance = C_Table)))
    (oo_Instance_Instance : PySem.W.kitOne K (.ref C_Instance) (.ref C_Instance) = some (decide (C_Instance = C_Instance)))
    (oo_Instance_Kin : PySem.W.kitOne K (.ref C_Instance) (.ref C_Kin) = some (decide (C_Instance = C_Kin)))
    (oo_Instance_Builtin : PySem.W.kitOne K (.ref C_Instance) (.ref C_Builtin) = some (decide (C_Instance = C_Builtin)))
    (oo_Kin_Ref : PySem.W.kitOne K (.ref C_Kin) (.ref C_Ref) = some (decide (C_Kin = C_Ref)))
    (oo_Kin_Parts : PySem.W.kitOne K (.ref C_Kin) (.ref C_Parts) = some (decide (C_Kin = C_Parts)))
    (oo_Kin_Table : PySem.W.kitOne K (.ref C_Kin) (.ref C_Table) = some (decide (C_Kin = C_Table)))
    (oo_Kin_Instance : PySem.W.kitOne K (.ref C_Kin) (.ref C_Instance) = some (decide (C_Kin = C_Instance)))
    (oo_Kin_Kin : PySem.W.kitOne K (.ref C_Kin) (.ref C_Kin) = some (decide (C_Kin = C_Kin)))
    (oo_Kin_Builtin : PySem.W.kitOne K (.ref C_Kin) (.ref C_Builtin) = some (decide (C_Kin = C_Builtin)))
    (oo_Cursor_Ref : PySem.W.kitOne K (.ref C_Cursor) (.ref C_Ref) = some (decide (C_Cursor = C_Ref)))
    (oo_Cursor_Parts : PySem.W.kitOne K (.ref C_Cursor) (.ref C_Parts) = some (decide (C_Cursor = C_Parts)))
    (oo_Cursor_Table : PySem.W.kitOne K (.ref C_Cursor) (.ref C_Table) = some (decide (C_Cursor = C_Table)))
    (oo_Cursor_Instance : PySem.W.kitOne K (.ref C_Cursor) (.ref C_Instance) = some (decide (C_Cursor = C_Instance)))
    (oo_Cursor_Kin : PySem.W.kitOne K (.ref C_Cursor) (.ref C_Kin) = some (decide (C_Cursor = C_Kin)))
    (oo_Cursor_Builtin : PySem.W.kitOne K (.ref C_Cursor) (.ref C_Builtin) = some (decide (C_Cursor = C_Builtin)))
    (oo_Store_Ref : PySem.W.kitOne K (.ref C_Store) (.ref C_Ref) = some (decide (C_Store = C_Ref)))
    (oo_Store_Parts : PySem.W.kitOne K (.ref C_Store) (.ref C_Parts) = some (decide (C_Store = C_Parts)))
    (oo_Store_Table : PySem.W.kitOne K (.ref C_Store) (.ref C_Table) = some (decide (C_Store = C_Table)))
    (oo_Store_Instance : PySem.W.kitOne K (.ref C_Store) (.ref C_Instance) = some (decide (C_Store = C_Instance)))
    (oo_Store_Kin : PySem.W.kitOne K (.ref C_Store) (.ref C_Kin) = some (decide (C_Store = C_Kin)))
    (oo_Store_Builtin : PySem.W.kitOne K (.ref C_Store) (.ref C_Builtin) = some (decide (C_Store = C_Builtin)))
    (bo_NoneType_Ref : PySem.W.kitOne K (.type "NoneType") (.ref C_Ref) = some false)
    (bo_NoneType_Parts : PySem.W.kitOne K (.type "NoneType") (.ref C_Parts) = some false)
    (bo_NoneType_Table : PySem.W.kitOne K (.type "NoneType") (.ref C_Table) = some false)
    (bo_NoneType_Instance : PySem.W.kitOne K (.type "NoneType") (.ref C_Instance) = some false)
    (bo_NoneType_Kin : PySem.W.kitOne K (.type "NoneType") (.ref C_Kin) = some false)
    (bo_NoneType_Builtin : PySem.W.kitOne K (.type "NoneType") (.ref C_Builtin) = some false)
    (bo_bool_Ref : PySem.W.kitOne K (.type "bool") (.ref C_Ref) = some false)
    (bo_bool_Parts : PySem.W.kitOne K (.type "bool") (.ref C_Parts) = some false)
    (bo_bool_Table : PySem.W.kitOne K (.type "bool") (.ref C_Table) = some false)
    (bo_bool_Instance : PySem.W.kitOne K (.type "bool") (.ref C_Instance) = some false)
    (bo_bool_Kin : PySem.W.kitOne K (.type "bool") (.ref C_Kin) = some false)
    (bo_bool_Builtin : PySem.W.kitOne K (.type "bool") (.ref C_Builtin) = some false)
    (bo_int_Ref : PySem.W.kitOne K (.type "int") (.ref C_Ref) = some false)
    (bo_int_Parts : PySem.W.kitOne K (.type "int") (.ref C_Parts) = some false)
    (bo_int_Table : PySem.W.kitOne K (.type "int") (.ref C_Table) = some false)
    (bo_int_Instance : PySem.W.kitOne K (.type "int") (.ref C_Instance) = some false)
    (bo_int_Kin : PySem.W.kitOne K (.type "int") (.ref C_Kin) = some false)
    (bo_int_Builtin : PySem.W.kitOne K (.type "int") (.ref C_Builtin) = some false)
    (bo_str_Ref : PySem.W.kitOne K (.type "str") (.ref C_Ref) = some false)
    (bo_str_Parts : PySem.W.kitOne K (.type "str") (.ref C_Parts) = some false)
    (bo_str_Table : PySem.W.kitOne K (.type "str") (.ref C_Table) = some false)
    (bo_str_Instance : PySem.W.kitOne K (.type "str") (.ref C_Instance) = some false)
    (bo_str_Kin : PySem.W.kitOne K (.type "str") (.ref C_Kin) = some false)
    (bo_str_Builtin : PySem.W.kitOne K (.type "str") (.ref C_Builtin) = some false)
    (bo_list_Ref : PySem.W.kitOne K (.type "list") (.ref C_Ref) = some false)
    (bo_list_Parts : PySem.W.kitOne K (.type "list") (.ref C_Parts) = some false)
    (bo_list_Table : PySem.W.kitOne K (.type "list") (.ref C_Table) = some false)
    (bo_list_Instance : PySem.W.kitOne K (.type "list") (.ref C_Instance) = some false)
    (bo_list_Kin : PySem.W.kitOne K (.type "list") (.ref C_Kin) = some false)
    (bo_list_Builtin : PySem.W.kitOne K (.type "list") (.ref C_Builtin) = some false)
    (bo_tuple_Ref : PySem.W.kitOne K (.type "tuple") (.ref C_Ref) = some false)
    (bo_tuple_Parts : PySem.W.kitOne K (.type "tuple") (.ref C_Parts) = some false)
    (bo_tuple_Table : PySem.W.kitOne K (.type "tuple") (.ref C_Table) = some false)
    (bo_tuple_Instance : PySem.W.kitOne K (.type "tuple") (.ref C_Instance) = some false)
    (bo_tuple_Kin : PySem.W.kitOne K (.type "tuple") (.ref C_Kin) = some false)
    (bo_tuple_Builtin : PySem.W.kitOne K (.type "tuple") (.ref C_Builtin) = some false)
    (bo_dict_Ref : PySem.W.kitOne K (.type "dict") (.ref C_Ref) = some false)
    (bo_dict_Parts : PySem.W.kitOne K (.type "dict") (.ref C_Parts) = some false)
    (bo_dict_Table : PySem.W.kitOne K (.type "dict") (.ref C_Table) = some false)
    (bo_dict_Instance : PySem.W.kitOne K (.type "dict") (.ref C_Instance) = some false)
    (bo_dict_Kin : PySem.W.kitOne K (.type "dict") (.ref C_Kin) = some false)
    (bo_dict_Builtin : PySem.W.kitOne K (.type "dict") (.ref C_Builtin) = some false)
    (ob_Ref_bool : PySem.W.kitOne K (.ref C_Ref) (.type "bool") = some false)
    (ob_Ref_int : PySem.W.kitOne K (.ref C_Ref) (.type "int") = some false)
    (ob_Ref_str : PySem.W.kitOne K (.ref C_Ref) (.type "str") = some false)
    (ob_Ref_list : PySem.W.kitOne K (.ref C_Ref) (.type "list") = some false)
    (ob_Ref_tuple : PySem.W.kitOne K (.ref C_Ref) (.type "tuple") = some false)
    (ob_Ref_dict : PySem.W.kitOne K (.ref C_Ref) (.type "dict") = some false)
    (ob_Builtin_bool : PySem.W.kitOne K (.ref C_Builtin) (.type "bool") = some false)
    (ob_Builtin_int : PySem.W.kitOne K (.ref C_Builtin) (.type "int") = some false)
    (ob_Builtin_str : PySem.W.kitOne K (.ref C_Builtin) (.type "str") = some false)
    (ob_Builtin_list : PySem.W.kitOne K (.ref C_Builtin) (.type "list") = some false)
    (ob_Builtin_tuple : PySem.W.kitOne K (.ref C_Builtin) (.type "tuple") = some false)
    (ob_Builtin_dict : PySem.W.kitOne K (.ref C_Builtin) (.type "dict") = some false)
    (ob_Parts_bool : PySem.W.kitOne K (.ref C_Parts) (.type "bool") = some false)
    (ob_Parts_int : PySem.W.kitOne K (.ref C_Parts) (.type "int") = some false)
    (ob_Parts_str : PySem.W.kitOne K (.ref C_Parts) (.type "str") = some false)
    (ob_Parts_list : PySem.W.kitOne K (.ref C_Parts) (.type "list") = some false)
    (ob_Parts_tuple : PySem.W.kitOne K (.ref C_Parts) (.type "tuple") = some false)
    (ob_Parts_dict : PySem.W.kitOne K (.ref C_Parts) (.type "dict") = some false)
    (ob_Table_bool : PySem.W.kitOne K (.ref C_Table) (.type "bool") = some false)
    (ob_Table_int : PySem.W.kitOne K (.ref C_Table) (.type "int") = some false)
    (ob_Table_str : PySem.W.kitOne K (.ref C_Table) (.type "str") = some false)
    (ob_Table_list : PySem.W.kitOne K (.ref C_Table) (.type "list") = some false)
    (ob_Table_tuple : PySem.W.kitOne K (.ref C_Table) (.type "tuple") = some false)
    (ob_Table_dict : PySem.W.kitOne K (.ref C_Table) (.type "dict") = some false)
    (ob_Instance_bool : PySem.W.kitOne K (.ref C_Instance) (.type "bool") = some false)
    (ob_Instance_int : PySem.W.kitOne K (.ref C_Instance) (.type "int") = some false)
    (ob_Instance_str : PySem.W.kitOne K (.ref C_Instance) (.type "str") = some false)
    (ob_Instance_list : PySem.W.kitOne K (.ref C_Instance) (.type "list") = some false)
    (ob_Instance_tuple : PySem.W.kitOne K (.ref C_Instance) (.type "tuple") = some false)
    (ob_Instance_dict : PySem.W.kitOne K (.ref C_Instance) (.type "dict") = some false)
    (ob_Kin_bool : PySem.W.kitOne K (.ref C_Kin) (.type "bool") = some false)
    (ob_Kin_int : PySem.W.kitOne K (.ref C_Kin) (.type "int") = some false)
    (ob_Kin_str : PySem.W.kitOne K (.ref C_Kin) (.type "str") = some false)
    (ob_Kin_list : PySem.W.kitOne K (.ref C_Kin) (.type "list") = some false)
    (ob_Kin_tuple : PySem.W.kitOne K (.ref C_Kin) (.type "tuple") = some false)
    (ob_Kin_dict : PySem.W.kitOne K (.ref C_Kin) (.type "dict") = some false)
    (ob_Cursor_bool : PySem.W.kitOne K (.ref C_Cursor) (.type "bool") = some false)
    (ob_Cursor_int : PySem.W.kitOne K (.ref C_Cursor) (.type "int") = some false)
    (ob_Cursor_str : PySem.W.kitOne K (.ref C_Cursor) (.type "str") = some false)
    (ob_Cursor_list : PySem.W.kitOne K (.ref C_Cursor) (.type "list") = some false)
    (ob_Cursor_tuple : PySem.W.kitOne K (.ref C_Cursor) (.type "tuple") = some false)
    (ob_Cursor_dict : PySem.W.kitOne K (.ref C_Cursor) (.type "dict") = some false)
    (ob_Store_bool : PySem.W.kitOne K (.ref C_Store) (.type "bool") = some false)
    (ob_Store_int : PySem.W.kitOne K (.ref C_Store) (.type "int") = some false)
    (ob_Store_str : PySem.W.kitOne K (.ref C_Store) (.type "str") = some false)
    (ob_Store_list : PySem.W.kitOne K (.ref C_Store) (.type "list") = some false)
    (ob_Store_tuple : PySem.W.kitOne K (.ref C_Store) (.type "tuple") = some false)
    (ob_Store_dict : PySem.W.kitOne K (.ref C_Store) (.type "dict") = some false)
    (ne_Ref_Builtin : C_Ref ≠ C_Builtin)
    (ne_Ref_Parts : C_Ref ≠ C_Parts)
    (ne_Ref_Table : C_Ref ≠ C_Table)
    (ne_Ref_Instance : C_Ref ≠ C_Instance)
    (ne_Ref_Kin : C_Ref ≠ C_Kin)
    (ne_Ref_Cursor : C_Ref ≠ C_Cursor)
    (ne_Ref_Store : C_Ref ≠ C_Store)
    (ne_Builtin_Parts : C_Builtin ≠ C_Parts)
    (ne_Builtin_Table : C_Builtin ≠ C_Table)
    (ne_Builtin_Instance : C_Builtin ≠ C_Instance)
    (ne_Builtin_Kin : C_Builtin ≠ C_Kin)
    (ne_Builtin_Cursor : C_Builtin ≠ C_Cursor)
    (ne_Builtin_Store : C_Builtin ≠ C_Store)
    (ne_Parts_Table : C_Parts ≠ C_Table)
    (ne_Parts_Instance : C_Parts ≠ C_Instance)
    (ne_Parts_Kin : C_Parts ≠ C_Kin)
    (ne_Parts_Cursor : C_Parts ≠ C_Cursor)
    (ne_Parts_Store : C_Parts ≠ C_Store)
    (ne_Table_Instance : C_Table ≠ C_Instance)
    (ne_Table_Kin : C_Table ≠ C_Kin)
    (ne_Table_Cursor : C_Table ≠ C_Cursor)
    (ne_Table_Store : C_Table ≠ C_Store)
    (ne_Instance_Kin : C_Instance ≠ C_Kin)
    (ne_Instance_Cursor : C_Instance ≠ C_Cursor)
    (ne_Instance_Store : C_Instance ≠ C_Store)
    (ne_Kin_Cursor : C_Kin ≠ C_Cursor)
    (ne_Kin_Store : C_Kin ≠ C_Store)
    (ne_Cursor_Store : C_Cursor ≠ C_Store)
    (f0 : EFact K C_ScriptError  "ScriptError.__init__" s_ScriptError___init__) (f1 : MFact K C_Ref "__init__" "Ref.__init__" s_Ref___init__) (f2 : MFact K C_Ref "__eq__" "Ref.__eq__" s_Ref___eq__) (f3 : MFact K C_Builtin "__init__" "Builtin.__init__" s_Builtin___init__) (f4 : MFact K C_Builtin "__eq__" "Builtin.__eq__" s_Builtin___eq__) (f5 : FnFact K "key_of" "key_of" s_key_of) (f6 : MFact K C_Parts "__init__" "Parts.__init__" s_Parts___init__) (f7 : MFact K C_Parts "fork" "Parts.fork" s_Parts_fork) (f8 : MFact K C_Table "__init__" "Table.__init__" s_Table___init__) (f9 : PFact K C_Table "many" "Table.many" s_Table_many) (f10 : MFact K C_Table "has" "Table.has" s_Table_has) (f11 : MFact K C_Table "put" "Table.put" s_Table_put) (f12 : MFact K C_Table "pairs" "Table.pairs" s_Table_pairs) (f13 : MFact K C_Table "fork" "Table.fork" s_Table_fork) (f14 : MFact K C_Instance "__init__" "Instance.__init__" s_Instance___init__) (f15 : MFact K C_Instance "fork" "Instance.fork" s_Instance_fork) (f16 : MFact K C_Kin "__init__" "Kin.__init__" s_Kin___init__) (f17 : MFact K C_Kin "fork" "Kin.fork" s_Kin_fork) (f18 : MFact K C_Cursor "__init__" "Cursor.__init__" s_Cursor___init__) (f19 : MFact K C_Cursor "fork" "Cursor.fork" s_Cursor_fork) (f20 : MFact K C_Store "__init__" "Store.__init__" s_Store___init__) (f21 : MFact K C_Store "make" "Store.make" s_Store_make) (f22 : MFact K C_Store "at" "Store.at" s_Store_at) (f23 : MFact K C_Store "fork" "Store.fork" s_Store_fork) (f24 : FnFact K "thing_of" "thing_of" s_thing_of) (f25 : FnFact K "kind_of" "kind_of" s_kind_of) (f26 : FnFact K "is_key" "is_key" s_is_key) (f27 : FnFact K "check_parts" "check_parts" s_check_parts) (f28 : FnFact K "checked_key" "checked_key" s_checked_key) (f29 : FnFact K "put_key" "put_key" s_put_key) (f30 : FnFact K "make_list" "make_list" s_make_list) (f31 : FnFact K "make_map" "make_map" s_make_map) (f32 : FnFact K "make_cursor" "make_cursor" s_make_cursor) (f33 : FnFact K "next_of" "next_of" s_next_of) (f34 : FnFact K "_law_cell" "_law_cell" s_law_cell) (f35 : FnFact K "_law_begin" "_law_begin" s_law_begin) (f36 : FnFact K "_law_draw" "_law_draw" s_law_draw) (f37 : FnFact K "_law_pick" "_law_pick" s_law_pick) (f38 : FnFact K "_law_source" "_law_source" s_law_source) (f39 : FnFact K "_law_same" "_law_same" s_law_same) (f40 : FnFact K "_law_spoilt" "_law_spoilt" s_law_spoilt) (f41 : FnFact K "_law_refused" "_law_refused" s_law_refused) (f42 : FnFact K "law" "law" s_law)
    (z_abs : PySem.W.nsIn K mainGlobals "abs" = some none) (z_bool : PySem.W.nsIn K mainGlobals "bool" = some none) (z_dict : PySem.W.nsIn K mainGlobals "dict" = some none) (z_int : PySem.W.nsIn K mainGlobals "int" = some none) (z_isinstance : PySem.W.nsIn K mainGlobals "isinstance" = some none) (z_len : PySem.W.nsIn K mainGlobals "len" = some none) (z_list : PySem.W.nsIn K mainGlobals "list" = some none) (z_max : PySem.W.nsIn K mainGlobals "max" = some none) (z_min : PySem.W.nsIn K mainGlobals "min" = some none) (z_range : PySem.W.nsIn K mainGlobals "range" = some none) (z_str : PySem.W.nsIn K mainGlobals "str" = some none) (z_tuple : PySem.W.nsIn K mainGlobals "tuple" = some none)
    (q_ERROR : ∃ t, PySem.W.nsIn K mainGlobals "ERROR" = some (some (.str "Error" t))) (q_MOST_PARTS : ∃ t, PySem.W.nsIn K mainGlobals "MOST_PARTS" = some (some (.int 1000 t))) :
    ∃ fd : FuncData, (∀ (s : Shared) (v : Value), BindsTo s fd ⟨[v], []⟩ [("script", v)]) ∧ ∀ base : Heap, K.In base → base.Ns mainGlobals mg → FnOk P w K mg base CX0 7 fa fd ["script"] (spLaw K) := by
  have T : Txt K mg ⟨C_Ref, C_Builtin, C_Parts, C_Table, C_Instance, C_Kin, C_Cursor, C_Store, C_LivequillError, C_ScriptError⟩ := ⟨PySem.W.mg_none_of X G z_abs,
    PySem.W.mg_none_of X G z_bool,
    PySem.W.mg_none_of X G z_dict,
    PySem.W.mg_none_of X G z_int,
    PySem.W.mg_none_of X G z_isinstance,
    PySem.W.mg_none_of X G z_len,
    PySem.W.mg_none_of X G z_list,
    PySem.W.mg_none_of X G z_max,
    PySem.W.mg_none_of X G z_min,
    PySem.W.mg_none_of X G z_range,
    PySem.W.mg_none_of X G z_str,
    PySem.W.mg_none_of X G z_tuple,
    (let ⟨t, h⟩ := q_ERROR; ⟨t, PySem.W.mg_of X G h⟩),
    (let ⟨t, h⟩ := q_MOST_PARTS; ⟨t, PySem.W.mg_of X G h⟩),
    PySem.W.mg_of X G n_Ref,
    x_Ref.cls,
    ⟨x_Ref.mks, x_Ref.kp, PySem.W.mg_of X G n_Ref⟩,
    PySem.W.mg_of X G n_Builtin,
    x_Builtin.cls,
    ⟨x_Builtin.mks, x_Builtin.kp, PySem.W.mg_of X G n_Builtin⟩,
    PySem.W.mg_of X G n_Parts,
    x_Parts.cls,
    ⟨x_Parts.mks, x_Parts.kp, PySem.W.mg_of X G n_Parts⟩,
    PySem.W.mg_of X G n_Table,
    x_Table.cls,
    ⟨x_Table.mks, x_Table.kp, PySem.W.mg_of X G n_Table⟩,
    PySem.W.mg_of X G n_Instance,
    x_Instance.cls,
    ⟨x_Instance.mks, x_Instance.kp, PySem.W.mg_of X G n_Instance⟩,
    PySem.W.mg_of X G n_Kin,
    x_Kin.cls,
    ⟨x_Kin.mks, x_Kin.kp, PySem.W.mg_of X G n_Kin⟩,
    PySem.W.mg_of X G n_Cursor,
    x_Cursor.cls,
    ⟨x_Cursor.mks, x_Cursor.kp, PySem.W.mg_of X G n_Cursor⟩,
    PySem.W.mg_of X G n_Store,
    x_Store.cls,
    ⟨x_Store.mks, x_Store.kp, PySem.W.mg_of X G n_Store⟩,
    (all_cons ⟨x_Table.cls, na__rows_Table⟩ all_nil),
    (all_cons ⟨x_Parts.cls, na_held_Parts⟩ all_nil),
    (all_cons ⟨x_Store.cls, na_lines_Store⟩ all_nil),
    (all_cons ⟨x_Kin.cls, na_methods_Kin⟩ all_nil),
    (all_cons ⟨x_Builtin.cls, na_name_Builtin⟩ (all_cons ⟨x_Kin.cls, na_name_Kin⟩ all_nil)),
    (all_cons ⟨x_Instance.cls, na_named_Instance⟩ all_nil),
    (all_cons ⟨x_Ref.cls, na_number_Ref⟩ all_nil),
    (all_cons ⟨x_Store.cls, na_output_Store⟩ all_nil),
    (all_cons ⟨x_Instance.cls, na_owner_Instance⟩ all_nil),
    (all_cons ⟨x_Kin.cls, na_parent_Kin⟩ all_nil),
    (all_cons ⟨x_Cursor.cls, na_rest_Cursor⟩ all_nil),
    (all_cons ⟨x_Store.cls, na_taken_Store⟩ all_nil),
    (all_cons ⟨x_Store.cls, na_things_Store⟩ all_nil),
    (all_cons ⟨x_ScriptError.xf, xn_kind_ScriptError⟩ all_nil),
    (all_cons ⟨x_ScriptError.xf, xn_message_ScriptError⟩ all_nil),
    (all_cons x_LivequillError (all_cons x_ScriptError all_nil)),
    PySem.W.mg_of X G n_LivequillError,
    PySem.W.mg_of X G n_ScriptError,
    xn_kind_ScriptError,
    xn_message_ScriptError,
    PySem.W.exm_ref x_ScriptError.exC x_ScriptError.hdC x_ScriptError.tyC em_ScriptError_ScriptError,
    ob,
    ⟨(all_cons (x_Ref.ocls ob) (all_cons (x_Builtin.ocls ob) (all_cons (x_Parts.ocls ob) (all_cons (x_Table.ocls ob) (all_cons (x_Instance.ocls ob) (all_cons (x_Kin.ocls ob) (all_cons (x_Cursor.ocls ob) (all_cons (x_Store.ocls ob) all_nil)))))))), (all_cons (all_cons oo_Ref_Ref (all_cons oo_Ref_Parts (all_cons oo_Ref_Table (all_cons oo_Ref_Instance (all_cons oo_Ref_Kin (all_cons oo_Ref_Builtin all_nil)))))) (all_cons (all_cons oo_Builtin_Ref (all_cons oo_Builtin_Parts (all_cons oo_Builtin_Table (all_cons oo_Builtin_Instance (all_cons oo_Builtin_Kin (all_cons oo_Builtin_Builtin all_nil)))))) (all_cons (all_cons oo_Parts_Ref (all_cons oo_Parts_Parts (all_cons oo_Parts_Table (all_cons oo_Parts_Instance (all_cons oo_Parts_Kin (all_cons oo_Parts_Builtin all_nil)))))) (all_cons (all_cons oo_Table_Ref (all_cons oo_Table_Parts (all_cons oo_Table_Table (all_cons oo_Table_Instance (all_cons oo_Table_Kin (all_cons oo_Table_Builtin all_nil)))))) (all_cons (all_cons oo_Instance_Ref (all_cons oo_Instance_Parts (all_cons oo_Instance_Table (all_cons oo_Instance_Instance (all_cons oo_Instance_Kin (all_cons oo_Instance_Builtin all_nil)))))) (all_cons (all_cons oo_Kin_Ref (all_cons oo_Kin_Parts (all_cons oo_Kin_Table (all_cons oo_Kin_Instance (all_cons oo_Kin_Kin (all_cons oo_Kin_Builtin all_nil)))))) (all_cons (all_cons oo_Cursor_Ref (all_cons oo_Cursor_Parts (all_cons oo_Cursor_Table (all_cons oo_Cursor_Instance (all_cons oo_Cursor_Kin (all_cons oo_Cursor_Builtin all_nil)))))) (all_cons (all_cons oo_Store_Ref (all_cons oo_Store_Parts (all_cons oo_Store_Table (all_cons oo_Store_Instance (all_cons oo_Store_Kin (all_cons oo_Store_Builtin all_nil)))))) all_nil)))))))), (all_cons (all_cons bo_NoneType_Ref (all_cons bo_NoneType_Parts (all_cons bo_NoneType_Table (all_cons bo_NoneType_Instance (all_cons bo_NoneType_Kin (all_cons bo_NoneType_Builtin all_nil)))))) (all_cons (all_cons bo_bool_Ref (all_cons bo_bool_Parts (all_cons bo_bool_Table (all_cons bo_bool_Instance (all_cons bo_bool_Kin (all_cons bo_bool_Builtin all_nil)))))) (all_cons (all_cons bo_int_Ref (all_cons bo_int_Parts (all_cons bo_int_Table (all_cons bo_int_Instance (all_cons bo_int_Kin (all_cons bo_int_Builtin all_nil)))))) (all_cons (all_cons bo_str_Ref (all_cons bo_str_Parts (all_cons bo_str_Table (all_cons bo_str_Instance (all_cons bo_str_Kin (all_cons bo_str_Builtin all_nil)))))) (all_cons (all_cons bo_list_Ref (all_cons bo_list_Parts (all_cons bo_list_Table (all_cons bo_list_Instance (all_cons bo_list_Kin (all_cons bo_list_Builtin all_nil)))))) (all_cons (all_cons bo_tuple_Ref (all_cons bo_tuple_Parts (all_cons bo_tuple_Table (all_cons bo_tuple_Instance (all_cons bo_tuple_Kin (all_cons bo_tuple_Builtin all_nil)))))) (all_cons (all_cons bo_dict_Ref (all_cons bo_dict_Parts (all_cons bo_dict_Table (all_cons bo_dict_Instance (all_cons bo_dict_Kin (all_cons bo_dict_Builtin all_nil)))))) all_nil))))))), (all_cons (all_cons ob_Ref_bool (all_cons ob_Ref_int (all_cons ob_Ref_str (all_cons ob_Ref_list (all_cons ob_Ref_tuple (all_cons ob_Ref_dict all_nil)))))) (all_cons (all_cons ob_Builtin_bool (all_cons ob_Builtin_int (all_cons ob_Builtin_str (all_cons ob_Builtin_list (all_cons ob_Builtin_tuple (all_cons ob_Builtin_dict all_nil)))))) (all_cons (all_cons ob_Parts_bool (all_cons ob_Parts_int (all_cons ob_Parts_str (all_cons ob_Parts_list (all_cons ob_Parts_tuple (all_cons ob_Parts_dict all_nil)))))) (all_cons (all_cons ob_Table_bool (all_cons ob_Table_int (all_cons ob_Table_str (all_cons ob_Table_list (all_cons ob_Table_tuple (all_cons ob_Table_dict all_nil)))))) (all_cons (all_cons ob_Instance_bool (all_cons ob_Instance_int (all_cons ob_Instance_str (all_cons ob_Instance_list (all_cons ob_Instance_tuple (all_cons ob_Instance_dict all_nil)))))) (all_cons (all_cons ob_Kin_bool (all_cons ob_Kin_int (all_cons ob_Kin_str (all_cons ob_Kin_list (all_cons ob_Kin_tuple (all_cons ob_Kin_dict all_nil)))))) (all_cons (all_cons ob_Cursor_bool (all_cons ob_Cursor_int (all_cons ob_Cursor_str (all_cons ob_Cursor_list (all_cons ob_Cursor_tuple (all_cons ob_Cursor_dict all_nil)))))) (all_cons (all_cons ob_Store_bool (all_cons ob_Store_int (all_cons ob_Store_str (all_cons ob_Store_list (all_cons ob_Store_tuple (all_cons ob_Store_dict all_nil)))))) all_nil))))))))⟩,
    ⟨eq_false ne_Ref_Builtin, eq_false ne_Ref_Parts, eq_false ne_Ref_Table, eq_false ne_Ref_Instance, eq_false ne_Ref_Kin, eq_false ne_Ref_Cursor, eq_false ne_Ref_Store, eq_false (fun h => ne_Ref_Builtin h.symm), eq_false ne_Builtin_Parts, eq_false ne_Builtin_Table, eq_false ne_Builtin_Instance, eq_false ne_Builtin_Kin, eq_false ne_Builtin_Cursor, eq_false ne_Builtin_Store, eq_false (fun h => ne_Ref_Parts h.symm), eq_false (fun h => ne_Builtin_Parts h.symm), eq_false ne_Parts_Table, eq_false ne_Parts_Instance, eq_false ne_Parts_Kin, eq_false ne_Parts_Cursor, eq_false ne_Parts_Store, eq_false (fun h => ne_Ref_Table h.symm), eq_false (fun h => ne_Builtin_Table h.symm), eq_false (fun h => ne_Parts_Table h.symm), eq_false ne_Table_Instance, eq_false ne_Table_Kin, eq_false ne_Table_Cursor, eq_false ne_Table_Store, eq_false (fun h => ne_Ref_Instance h.symm), eq_false (fun h => ne_Builtin_Instance h.symm), eq_false (fun h => ne_Parts_Instance h.symm), eq_false (fun h => ne_Table_Instance h.symm), eq_false ne_Instance_Kin, eq_false ne_Instance_Cursor, eq_false ne_Instance_Store, eq_false (fun h => ne_Ref_Kin h.symm), eq_false (fun h => ne_Builtin_Kin h.symm), eq_false (fun h => ne_Parts_Kin h.symm), eq_false (fun h => ne_Table_Kin h.symm), eq_false (fun h => ne_Instance_Kin h.symm), eq_false ne_Kin_Cursor, eq_false ne_Kin_Store, eq_false (fun h => ne_Ref_Cursor h.symm), eq_false (fun h => ne_Builtin_Cursor h.symm), eq_false (fun h => ne_Parts_Cursor h.symm), eq_false (fun h => ne_Table_Cursor h.symm), eq_false (fun h => ne_Instance_Cursor h.symm), eq_false (fun h => ne_Kin_Cursor h.symm), eq_false ne_Cursor_Store, eq_false (fun h => ne_Ref_Store h.symm), eq_false (fun h => ne_Builtin_Store h.symm), eq_false (fun h => ne_Parts_Store h.symm), eq_false (fun h => ne_Table_Store h.symm), eq_false (fun h => ne_Instance_Store h.symm), eq_false (fun h => ne_Kin_Store h.symm), eq_false (fun h => ne_Cursor_Store h.symm)⟩⟩
  have a0 : AtE K C_ScriptError "ScriptError.__init__" s_ScriptError___init__ ["self", "kind", "message"] := AtE.of f0 fun _ _ _ _ _ _ us hl => match us, hl with | [_, _, _], _ => rfl
  have a1 : AtM K C_Ref "__init__" "Ref.__init__" s_Ref___init__ ["self", "number"] := AtM.of f1 fun _ _ _ _ _ _ us hl => match us, hl with | [_, _], _ => rfl
  have a2 : AtM K C_Ref "__eq__" "Ref.__eq__" s_Ref___eq__ ["self", "other"] := AtM.of f2 fun _ _ _ _ _ _ us hl => match us, hl with | [_, _], _ => rfl
  have a3 : AtM K C_Builtin "__init__" "Builtin.__init__" s_Builtin___init__ ["self", "name"] := AtM.of f3 fun _ _ _ _ _ _ us hl => match us, hl with | [_, _], _ => rfl
  have a4 : AtM K C_Builtin "__eq__" "Builtin.__eq__" s_Builtin___eq__ ["self", "other"] := AtM.of f4 fun _ _ _ _ _ _ us hl => match us, hl with | [_, _], _ => rfl
  have a5 : At K mg "key_of" "key_of" s_key_of ["value"] := At.of X G f5 fun _ _ _ _ _ _ us hl => match us, hl with | [_], _ => rfl
  have a6 : AtM K C_Parts "__init__" "Parts.__init__" s_Parts___init__ ["self", "held"] := AtM.of f6 fun _ _ _ _ _ _ us hl => match us, hl with | [_, _], _ => rfl
  have a7 : AtM K C_Parts "fork" "Parts.fork" s_Parts_fork ["self"] := AtM.of f7 fun _ _ _ _ _ _ us hl => match us, hl with | [_], _ => rfl
  have a8 : AtM K C_Table "__init__" "Table.__init__" s_Table___init__ ["self"] := AtM.of f8 fun _ _ _ _ _ _ us hl => match us, hl with | [_], _ => rfl
  have a9 : AtP K C_Table "many" "Table.many" s_Table_many ["self"] := AtP.of f9 fun _ _ _ _ _ _ us hl => match us, hl with | [_], _ => rfl
  have a10 : AtM K C_Table "has" "Table.has" s_Table_has ["self", "key"] := AtM.of f10 fun _ _ _ _ _ _ us hl => match us, hl with | [_, _], _ => rfl
  have a11 : AtM K C_Table "put" "Table.put" s_Table_put ["self", "key", "value"] := AtM.of f11 fun _ _ _ _ _ _ us hl => match us, hl with | [_, _, _], _ => rfl
  have a12 : AtM K C_Table "pairs" "Table.pairs" s_Table_pairs ["self"] := AtM.of f12 fun _ _ _ _ _ _ us hl => match us, hl with | [_], _ => rfl
  have a13 : AtM K C_Table "fork" "Table.fork" s_Table_fork ["self"] := AtM.of f13 fun _ _ _ _ _ _ us hl => match us, hl with | [_], _ => rfl
  have a14 : AtM K C_Instance "__init__" "Instance.__init__" s_Instance___init__ ["self", "owner"] := AtM.of f14 fun _ _ _ _ _ _ us hl => match us, hl with | [_, _], _ => rfl
  have a15 : AtM K C_Instance "fork" "Instance.fork" s_Instance_fork ["self"] := AtM.of f15 fun _ _ _ _ _ _ us hl => match us, hl with | [_], _ => rfl
  have a16 : AtM K C_Kin "__init__" "Kin.__init__" s_Kin___init__ ["self", "name", "parent"] := AtM.of f16 fun _ _ _ _ _ _ us hl => match us, hl with | [_, _, _], _ => rfl
  have a17 : AtM K C_Kin "fork" "Kin.fork" s_Kin_fork ["self"] := AtM.of f17 fun _ _ _ _ _ _ us hl => match us, hl with | [_], _ => rfl
  have a18 : AtM K C_Cursor "__init__" "Cursor.__init__" s_Cursor___init__ ["self", "rest"] := AtM.of f18 fun _ _ _ _ _ _ us hl => match us, hl with | [_, _], _ => rfl
  have a19 : AtM K C_Cursor "fork" "Cursor.fork" s_Cursor_fork ["self"] := AtM.of f19 fun _ _ _ _ _ _ us hl => match us, hl with | [_], _ => rfl
  have a20 : AtM K C_Store "__init__" "Store.__init__" s_Store___init__ ["self", "lines"] := AtM.of f20 fun _ _ _ _ _ _ us hl => match us, hl with | [_, _], _ => rfl
  have a21 : AtM K C_Store "make" "Store.make" s_Store_make ["self", "thing"] := AtM.of f21 fun _ _ _ _ _ _ us hl => match us, hl with | [_, _], _ => rfl
  have a22 : AtM K C_Store "at" "Store.at" s_Store_at ["self", "ref"] := AtM.of f22 fun _ _ _ _ _ _ us hl => match us, hl with | [_, _], _ => rfl
  have a23 : AtM K C_Store "fork" "Store.fork" s_Store_fork ["self"] := AtM.of f23 fun _ _ _ _ _ _ us hl => match us, hl with | [_], _ => rfl
  have a24 : At K mg "thing_of" "thing_of" s_thing_of ["store", "value"] := At.of X G f24 fun _ _ _ _ _ _ us hl => match us, hl with | [_, _], _ => rfl
  have a25 : At K mg "kind_of" "kind_of" s_kind_of ["store", "value"] := At.of X G f25 fun _ _ _ _ _ _ us hl => match us, hl with | [_, _], _ => rfl
  have a26 : At K mg "is_key" "is_key" s_is_key ["value"] := At.of X G f26 fun _ _ _ _ _ _ us hl => match us, hl with | [_], _ => rfl
  have a27 : At K mg "check_parts" "check_parts" s_check_parts ["count"] := At.of X G f27 fun _ _ _ _ _ _ us hl => match us, hl with | [_], _ => rfl
  have a28 : At K mg "checked_key" "checked_key" s_checked_key ["i"] := At.of X G f28 fun _ _ _ _ _ _ us hl => match us, hl with | [_], _ => rfl
  have a29 : At K mg "put_key" "put_key" s_put_key ["table", "key", "value"] := At.of X G f29 fun _ _ _ _ _ _ us hl => match us, hl with | [_, _, _], _ => rfl
  have a30 : At K mg "make_list" "make_list" s_make_list ["store", "values"] := At.of X G f30 fun _ _ _ _ _ _ us hl => match us, hl with | [_, _], _ => rfl
  have a31 : At K mg "make_map" "make_map" s_make_map ["store", "pairs"] := At.of X G f31 fun _ _ _ _ _ _ us hl => match us, hl with | [_, _], _ => rfl
  have a32 : At K mg "make_cursor" "make_cursor" s_make_cursor ["store", "x"] := At.of X G f32 fun _ _ _ _ _ _ us hl => match us, hl with | [_, _], _ => rfl
  have a33 : At K mg "next_of" "next_of" s_next_of ["store", "ref"] := At.of X G f33 fun _ _ _ _ _ _ us hl => match us, hl with | [_, _], _ => rfl
  have a34 : At K mg "_law_cell" "_law_cell" s_law_cell ["script", "k"] := At.of X G f34 fun _ _ _ _ _ _ us hl => match us, hl with | [_, _], _ => rfl
  have a35 : At K mg "_law_begin" "_law_begin" s_law_begin ["script", "k"] := At.of X G f35 fun _ _ _ _ _ _ us hl => match us, hl with | [_, _], _ => rfl
  have a36 : At K mg "_law_draw" "_law_draw" s_law_draw ["state", "many"] := At.of X G f36 fun _ _ _ _ _ _ us hl => match us, hl with | [_, _], _ => rfl
  have a37 : At K mg "_law_pick" "_law_pick" s_law_pick ["state", "row"] := At.of X G f37 fun _ _ _ _ _ _ us hl => match us, hl with | [_, _], _ => rfl
  have a38 : At K mg "_law_source" "_law_source" s_law_source ["store", "state"] := At.of X G f38 fun _ _ _ _ _ _ us hl => match us, hl with | [_, _], _ => rfl
  have a39 : At K mg "_law_same" "_law_same" s_law_same ["told", "due"] := At.of X G f39 fun _ _ _ _ _ _ us hl => match us, hl with | [_, _], _ => rfl
  have a40 : At K mg "_law_spoilt" "_law_spoilt" s_law_spoilt ["store", "value", "state"] := At.of X G f40 fun _ _ _ _ _ _ us hl => match us, hl with | [_, _, _], _ => rfl
  have a41 : At K mg "_law_refused" "_law_refused" s_law_refused ["store"] := At.of X G f41 fun _ _ _ _ _ _ us hl => match us, hl with | [_], _ => rfl
  obtain ⟨f, oc, od, an, sl, kV, dc, pm, cd, ct, a, l, cc, k⟩ := f42.ex
  have e := hfa.symm.trans (PySem.W.mg_of X G a)
  cases e
  have F1 := fun_mk (st := s_law) l cc k
  have al : At K mg "law" "law" s_law ["script"] := ⟨_, _, F1, F1.binds fun _ _ _ _ _ _ us hl => match us, hl with | [_], _ => rfl, PySem.W.mg_of X G a⟩
  refine ⟨PySem.W.fnOf "law" "law" (defArgs s_law) (defBody s_law) (defScope s_law) .none kV dc pm an cd ct, fun s v => .of_eq rfl, fun base _ _ => ?_⟩
  exact law_fn F1 T a0 a1 a2 a3 a4 a5 a6 a7 a8 a9 a10 a11 a12 a13 a14 a15 a16 a17 a18 a19 a20 a21 a22 a23 a24 a25 a26 a27 a28 a29 a30 a31 a32 a33 a34 a35 a36 a37 a38 a39 a40 a41
end My
open PySem PySem.W PyProof.Rows
set_option maxRecDepth 100000 in
set_option maxHeartbeats 0 in
theorem PySem.Challenge.cw_livequill_k29_iterators_holds : PySem.Challenge.rw_livequill_k29_iterators.Holds := by
  w_on; o_law; k_head; (case hw => w_witness2)
  k_fill
  refine L2.walk_ofB (l := PySem.Challenge.rw_livequill_k29_iterators) (n := 63) (k := 7) (x := "script") (CX := fun _ => L2.CX0) (sp := fun w => My.spLaw _) rfl (by decide) rfl ⟨rfl, by decide, by decide⟩ (fun w h Y => PySem.W.kIn_of Y) ?F (fun _ _ a ns hl hb _ hS => ⟨a, ns, rfl, hS, hl, hb, fun _ => rfl⟩) (fun _ _ _ _ _ h => h)
  case F =>
    intro w mg fa h KX G hmg
    refine' My.all_mk KX G hmg ?n_Ref ?n_Builtin ?n_Parts ?n_Table ?n_Instance ?n_Kin ?n_Cursor ?n_Store ?n_LivequillError ?n_ScriptError (Fx.ClsFact.mk ?pg_Ref ?hd_Ref ?po_Ref ?sa_Ref ?ci_Ref ?mr_Ref ?mk_Ref ?kp_Ref) (Fx.ClsFact.mk ?pg_Builtin ?hd_Builtin ?po_Builtin ?sa_Builtin ?ci_Builtin ?mr_Builtin ?mk_Builtin ?kp_Builtin) (Fx.ClsFact.mk ?pg_Parts ?hd_Parts ?po_Parts ?sa_Parts ?ci_Parts ?mr_Parts ?mk_Parts ?kp_Parts) (Fx.ClsFact.mk ?pg_Table ?hd_Table ?po_Table ?sa_Table ?ci_Table ?mr_Table ?mk_Table ?kp_Table) (Fx.ClsFact.mk ?pg_Instance ?hd_Instance ?po_Instance ?sa_Instance ?ci_Instance ?mr_Instance ?mk_Instance ?kp_Instance) (Fx.ClsFact.mk ?pg_Kin ?hd_Kin ?po_Kin ?sa_Kin ?ci_Kin ?mr_Kin ?mk_Kin ?kp_Kin) (Fx.ClsFact.mk ?pg_Cursor ?hd_Cursor ?po_Cursor ?sa_Cursor ?ci_Cursor ?mr_Cursor ?mk_Cursor ?kp_Cursor) (Fx.ClsFact.mk ?pg_Store ?hd_Store ?po_Store ?sa_Store ?ci_Store ?mr_Store ?mk_Store ?kp_Store) (Fx.ExcFact.of ?xl_LivequillError ?xr_LivequillError ?xsa_LivequillError ?xga_LivequillError ?xgg_LivequillError ?xexC_LivequillError ?xtyC_LivequillError ?xkC_LivequillError ?xhdC_LivequillError ?xci_LivequillError ?xmr_LivequillError) (Fx.ExcFact.of ?xl_ScriptError ?xr_ScriptError ?xsa_ScriptError ?xga_ScriptError ?xgg_ScriptError ?xexC_ScriptError ?xtyC_ScriptError ?xkC_ScriptError ?xhdC_ScriptError ?xci_ScriptError ?xmr_ScriptError) ?xn_kind_ScriptError ?xn_message_ScriptError ?em_ScriptError_ScriptError (Fx.ObjFact.mk ?ob_gd ?ob_tk) ?na__rows_Table ?na_held_Parts ?na_lines_Store ?na_methods_Kin ?na_name_Builtin ?na_name_Kin ?na_named_Instance ?na_number_Ref ?na_output_Store ?na_owner_Instance ?na_parent_Kin ?na_rest_Cursor ?na_taken_Store ?na_things_Store ?oo_Ref_Ref ?oo_Ref_Parts ?oo_Ref_Table ?oo_Ref_Instance ?oo_Ref_Kin ?oo_Ref_Builtin ?oo_Builtin_Ref ?oo_Builtin_Parts ?oo_Builtin_Table ?oo_Builtin_Instance ?oo_Builtin_Kin ?oo_Builtin_Builtin ?oo_Parts_Ref ?oo_Parts_Parts ?oo_Parts_Table ?oo_Parts_Instance ?oo_Parts_Kin ?oo_Parts_Builtin ?oo_Table_Ref ?oo_Table_Parts ?oo_Table_Table ?oo_Table_Instance ?oo_Table_Kin ?oo_Table_Builtin ?oo_Instance_Ref ?oo_Instance_Parts ?oo_Instance_Table ?oo_Instance_Instance ?oo_Instance_Kin ?oo_Instance_Builtin ?oo_Kin_Ref ?oo_Kin_Parts ?oo_Kin_Table ?oo_Kin_Instance ?oo_Kin_Kin ?oo_Kin_Builtin ?oo_Cursor_Ref ?oo_Cursor_Parts ?oo_Cursor_Table ?oo_Cursor_Instance ?oo_Cursor_Kin ?oo_Cursor_Builtin ?oo_Store_Ref ?oo_Store_Parts ?oo_Store_Table ?oo_Store_Instance ?oo_Store_Kin ?oo_Store_Builtin ?bo_NoneType_Ref ?bo_NoneType_Parts ?bo_NoneType_Table ?bo_NoneType_Instance ?bo_NoneType_Kin ?bo_NoneType_Builtin ?bo_bool_Ref ?bo_bool_Parts ?bo_bool_Table ?bo_bool_Instance ?bo_bool_Kin ?bo_bool_Builtin ?bo_int_Ref ?bo_int_Parts ?bo_int_Table ?bo_int_Instance ?bo_int_Kin ?bo_int_Builtin ?bo_str_Ref ?bo_str_Parts ?bo_str_Table ?bo_str_Instance ?bo_str_Kin ?bo_str_Builtin ?bo_list_Ref ?bo_list_Parts ?bo_list_Table ?bo_list_Instance ?bo_list_Kin ?bo_list_Builtin ?bo_tuple_Ref ?bo_tuple_Parts ?bo_tuple_Table ?bo_tuple_Instance ?bo_tuple_Kin ?bo_tuple_Builtin ?bo_dict_Ref ?bo_dict_Parts ?bo_dict_Table ?bo_dict_Instance ?bo_dict_Kin ?bo_dict_Builtin ?ob_Ref_bool ?ob_Ref_int ?ob_Ref_str ?ob_Ref_list ?ob_Ref_tuple ?ob_Ref_dict ?ob_Builtin_bool ?ob_Builtin_int ?ob_Builtin_str ?ob_Builtin_list ?ob_Builtin_tuple ?ob_Builtin_dict ?ob_Parts_bool ?ob_Parts_int ?ob_Parts_str ?ob_Parts_list ?ob_Parts_tuple ?ob_Parts_dict ?ob_Table_bool ?ob_Table_int ?ob_Table_str ?ob_Table_list ?ob_Table_tuple ?ob_Table_dict ?ob_Instance_bool ?ob_Instance_int ?ob_Instance_str ?ob_Instance_list ?ob_Instance_tuple ?ob_Instance_dict ?ob_Kin_bool ?ob_Kin_int ?ob_Kin_str ?ob_Kin_list ?ob_Kin_tuple ?ob_Kin_dict ?ob_Cursor_bool ?ob_Cursor_int ?ob_Cursor_str ?ob_Cursor_list ?ob_Cursor_tuple ?ob_Cursor_dict ?ob_Store_bool ?ob_Store_int ?ob_Store_str ?ob_Store_list ?ob_Store_tuple ?ob_Store_dict ?ne_Ref_Builtin ?ne_Ref_Parts ?ne_Ref_Table ?ne_Ref_Instance ?ne_Ref_Kin ?ne_Ref_Cursor ?ne_Ref_Store ?ne_Builtin_Parts ?ne_Builtin_Table ?ne_Builtin_Instance ?ne_Builtin_Kin ?ne_Builtin_Cursor ?ne_Builtin_Store ?ne_Parts_Table ?ne_Parts_Instance ?ne_Parts_Kin ?ne_Parts_Cursor ?ne_Parts_Store ?ne_Table_Instance ?ne_Table_Kin ?ne_Table_Cursor ?ne_Table_Store ?ne_Instance_Kin ?ne_Instance_Cursor ?ne_Instance_Store ?ne_Kin_Cursor ?ne_Kin_Store ?ne_Cursor_Store (Fx.EFact.of ?a0 ?l0 ?c0 ?k0 ?i0) (Fx.MFact.of ?a1 ?l1 ?c1 ?k1 ?i1) (Fx.MFact.of ?a2 ?l2 ?c2 ?k2 ?i2) (Fx.MFact.of ?a3 ?l3 ?c3 ?k3 ?i3) (Fx.MFact.of ?a4 ?l4 ?c4 ?k4 ?i4) (Fx.FnFact.of ?a5 ?l5 ?c5 ?k5) (Fx.MFact.of ?a6 ?l6 ?c6 ?k6 ?i6) (Fx.MFact.of ?a7 ?l7 ?c7 ?k7 ?i7) (Fx.MFact.of ?a8 ?l8 ?c8 ?k8 ?i8) (Fx.PFact.of ?a9 ?pg9 ?pt9 ?pr9 ?l9 ?c9 ?k9) (Fx.MFact.of ?a10 ?l10 ?c10 ?k10 ?i10) (Fx.MFact.of ?a11 ?l11 ?c11 ?k11 ?i11) (Fx.MFact.of ?a12 ?l12 ?c12 ?k12 ?i12) (Fx.MFact.of ?a13 ?l13 ?c13 ?k13 ?i13) (Fx.MFact.of ?a14 ?l14 ?c14 ?k14 ?i14) (Fx.MFact.of ?a15 ?l15 ?c15 ?k15 ?i15) (Fx.MFact.of ?a16 ?l16 ?c16 ?k16 ?i16) (Fx.MFact.of ?a17 ?l17 ?c17 ?k17 ?i17) (Fx.MFact.of ?a18 ?l18 ?c18 ?k18 ?i18) (Fx.MFact.of ?a19 ?l19 ?c19 ?k19 ?i19) (Fx.MFact.of ?a20 ?l20 ?c20 ?k20 ?i20) (Fx.MFact.of ?a21 ?l21 ?c21 ?k21 ?i21) (Fx.MFact.of ?a22 ?l22 ?c22 ?k22 ?i22) (Fx.MFact.of ?a23 ?l23 ?c23 ?k23 ?i23) (Fx.FnFact.of ?a24 ?l24 ?c24 ?k24) (Fx.FnFact.of ?a25 ?l25 ?c25 ?k25) (Fx.FnFact.of ?a26 ?l26 ?c26 ?k26) (Fx.FnFact.of ?a27 ?l27 ?c27 ?k27) (Fx.FnFact.of ?a28 ?l28 ?c28 ?k28) (Fx.FnFact.of ?a29 ?l29 ?c29 ?k29) (Fx.FnFact.of ?a30 ?l30 ?c30 ?k30) (Fx.FnFact.of ?a31 ?l31 ?c31 ?k31) (Fx.FnFact.of ?a32 ?l32 ?c32 ?k32) (Fx.FnFact.of ?a33 ?l33 ?c33 ?k33) (Fx.FnFact.of ?a34 ?l34 ?c34 ?k34) (Fx.FnFact.of ?a35 ?l35 ?c35 ?k35) (Fx.FnFact.of ?a36 ?l36 ?c36 ?k36) (Fx.FnFact.of ?a37 ?l37 ?c37 ?k37) (Fx.FnFact.of ?a38 ?l38 ?c38 ?k38) (Fx.FnFact.of ?a39 ?l39 ?c39 ?k39) (Fx.FnFact.of ?a40 ?l40 ?c40 ?k40) (Fx.FnFact.of ?a41 ?l41 ?c41 ?k41) (Fx.FnFact.of ?a42 ?l42 ?c42 ?k42) ?z_abs ?z_bool ?z_dict ?z_int ?z_isinstance ?z_len ?z_list ?z_max ?z_min ?z_range ?z_str ?z_tuple (Fx.gstr_of ?q_ERROR) (Fx.gint_of ?q_MOST_PARTS)
    (case n_Ref => k_is)
    (case n_Builtin => k_is)
    (case n_Parts => k_is)
    (case n_Table => k_is)
    (case n_Instance => k_is)
    (case n_Kin => k_is)
    (case n_Cursor => k_is)
    (case n_Store => k_is)
    (case n_LivequillError => k_is)
    (case n_ScriptError => k_is)
    (case pg_Ref => k_is); (case hd_Ref => k_is); (case po_Ref => k_is); (case sa_Ref => k_is); (case ci_Ref => k_is); (case mr_Ref => k_is); (case mk_Ref => k_is); (case kp_Ref => k_is)
    (case pg_Builtin => k_is); (case hd_Builtin => k_is); (case po_Builtin => k_is); (case sa_Builtin => k_is); (case ci_Builtin => k_is); (case mr_Builtin => k_is); (case mk_Builtin => k_is); (case kp_Builtin => k_is)
    (case pg_Parts => k_is); (case hd_Parts => k_is); (case po_Parts => k_is); (case sa_Parts => k_is); (case ci_Parts => k_is); (case mr_Parts => k_is); (case mk_Parts => k_is); (case kp_Parts => k_is)
    (case pg_Table => k_is); (case hd_Table => k_is); (case po_Table => k_is); (case sa_Table => k_is); (case ci_Table => k_is); (case mr_Table => k_is); (case mk_Table => k_is); (case kp_Table => k_is)
    (case pg_Instance => k_is); (case hd_Instance => k_is); (case po_Instance => k_is); (case sa_Instance => k_is); (case ci_Instance => k_is); (case mr_Instance => k_is); (case mk_Instance => k_is); (case kp_Instance => k_is)
    (case pg_Kin => k_is); (case hd_Kin => k_is); (case po_Kin => k_is); (case sa_Kin => k_is); (case ci_Kin => k_is); (case mr_Kin => k_is); (case mk_Kin => k_is); (case kp_Kin => k_is)
    (case pg_Cursor => k_is); (case hd_Cursor => k_is); (case po_Cursor => k_is); (case sa_Cursor => k_is); (case ci_Cursor => k_is); (case mr_Cursor => k_is); (case mk_Cursor => k_is); (case kp_Cursor => k_is)
    (case pg_Store => k_is); (case hd_Store => k_is); (case po_Store => k_is); (case sa_Store => k_is); (case ci_Store => k_is); (case mr_Store => k_is); (case mk_Store => k_is); (case kp_Store => k_is)
    (case xl_LivequillError => k_is); (case xr_LivequillError => decide +kernel); (case xsa_LivequillError => k_is); (case xga_LivequillError => k_is); (case xgg_LivequillError => k_is); (case xexC_LivequillError => k_is); (case xtyC_LivequillError => k_is); (case xkC_LivequillError => k_is); (case xhdC_LivequillError => k_is); (case xci_LivequillError => k_is); (case xmr_LivequillError => k_is)
    (case xl_ScriptError => k_is); (case xr_ScriptError => decide +kernel); (case xsa_ScriptError => k_is); (case xga_ScriptError => k_is); (case xgg_ScriptError => k_is); (case xexC_ScriptError => k_is); (case xtyC_ScriptError => k_is); (case xkC_ScriptError => k_is); (case xhdC_ScriptError => k_is); (case xci_ScriptError => k_is); (case xmr_ScriptError => k_is)
    (case xn_kind_ScriptError => k_is)
    (case xn_message_ScriptError => k_is)
    (case em_ScriptError_ScriptError => k_is)
    (case ob_gd => k_is); (case ob_tk => k_is)
    (case na__rows_Table => k_is)
    (case na_held_Parts => k_is)
    (case na_lines_Store => k_is)
    (case na_methods_Kin => k_is)
    (case na_name_Builtin => k_is)
    (case na_name_Kin => k_is)
    (case na_named_Instance => k_is)
    (case na_number_Ref => k_is)
    (case na_output_Store => k_is)
    (case na_owner_Instance => k_is)
    (case na_parent_Kin => k_is)
    (case na_rest_Cursor => k_is)
    (case na_taken_Store => k_is)
    (case na_things_Store => k_is)
    (case oo_Ref_Ref => kit_is)
    (case oo_Ref_Parts => kit_is)
    (case oo_Ref_Table => kit_is)
    (case oo_Ref_Instance => kit_is)
    (case oo_Ref_Kin => kit_is)
    (case oo_Ref_Builtin => kit_is)
    (case oo_Builtin_Ref => kit_is)
    (case oo_Builtin_Parts => kit_is)
    (case oo_Builtin_Table => kit_is)
    (case oo_Builtin_Instance => kit_is)
    (case oo_Builtin_Kin => kit_is)
    (case oo_Builtin_Builtin => kit_is)
    (case oo_Parts_Ref => kit_is)
    (case oo_Parts_Parts => kit_is)
    (case oo_Parts_Table => kit_is)
    (case oo_Parts_Instance => kit_is)
    (case oo_Parts_Kin => kit_is)
    (case oo_Parts_Builtin => kit_is)
    (case oo_Table_Ref => kit_is)
    (case oo_Table_Parts => kit_is)
    (case oo_Table_Table => kit_is)
    (case oo_Table_Instance => kit_is)
    (case oo_Table_Kin => kit_is)
    (case oo_Table_Builtin => kit_is)
    (case oo_Instance_Ref => kit_is)
    (case oo_Instance_Parts => kit_is)
    (case oo_Instance_Table => kit_is)
    (case oo_Instance_Instance => kit_is)
    (case oo_Instance_Kin => kit_is)
    (case oo_Instance_Builtin => kit_is)
    (case oo_Kin_Ref => kit_is)
    (case oo_Kin_Parts => kit_is)
    (case oo_Kin_Table => kit_is)
    (case oo_Kin_Instance => kit_is)
    (case oo_Kin_Kin => kit_is)
    (case oo_Kin_Builtin => kit_is)
    (case oo_Cursor_Ref => kit_is)
    (case oo_Cursor_Parts => kit_is)
    (case oo_Cursor_Table => kit_is)
    (case oo_Cursor_Instance => kit_is)
    (case oo_Cursor_Kin => kit_is)
    (case oo_Cursor_Builtin => kit_is)
    (case oo_Store_Ref => kit_is)
    (case oo_Store_Parts => kit_is)
    (case oo_Store_Table => kit_is)
    (case oo_Store_Instance => kit_is)
    (case oo_Store_Kin => kit_is)
    (case oo_Store_Builtin => kit_is)
    (case bo_NoneType_Ref => kit_is)
    (case bo_NoneType_Parts => kit_is)
    (case bo_NoneType_Table => kit_is)
    (case bo_NoneType_Instance => kit_is)
    (case bo_NoneType_Kin => kit_is)
    (case bo_NoneType_Builtin => kit_is)
    (case bo_bool_Ref => kit_is)
    (case bo_bool_Parts => kit_is)
    (case bo_bool_Table => kit_is)
    (case bo_bool_Instance => kit_is)
    (case bo_bool_Kin => kit_is)
    (case bo_bool_Builtin => kit_is)
    (case bo_int_Ref => kit_is)
    (case bo_int_Parts => kit_is)
    (case bo_int_Table => kit_is)
    (case bo_int_Instance => kit_is)
    (case bo_int_Kin => kit_is)
    (case bo_int_Builtin => kit_is)
    (case bo_str_Ref => kit_is)
    (case bo_str_Parts => kit_is)
    (case bo_str_Table => kit_is)
    (case bo_str_Instance => kit_is)
    (case bo_str_Kin => kit_is)
    (case bo_str_Builtin => kit_is)
    (case bo_list_Ref => kit_is)
    (case bo_list_Parts => kit_is)
    (case bo_list_Table => kit_is)
    (case bo_list_Instance => kit_is)
    (case bo_list_Kin => kit_is)
    (case bo_list_Builtin => kit_is)
    (case bo_tuple_Ref => kit_is)
    (case bo_tuple_Parts => kit_is)
    (case bo_tuple_Table => kit_is)
    (case bo_tuple_Instance => kit_is)
    (case bo_tuple_Kin => kit_is)
    (case bo_tuple_Builtin => kit_is)
    (case bo_dict_Ref => kit_is)
    (case bo_dict_Parts => kit_is)
    (case bo_dict_Table => kit_is)
    (case bo_dict_Instance => kit_is)
    (case bo_dict_Kin => kit_is)
    (case bo_dict_Builtin => kit_is)
    (case ob_Ref_bool => kit_is)
    (case ob_Ref_int => kit_is)
    (case ob_Ref_str => kit_is)
    (case ob_Ref_list => kit_is)
    (case ob_Ref_tuple => kit_is)
    (case ob_Ref_dict => kit_is)
    (case ob_Builtin_bool => kit_is)
    (case ob_Builtin_int => kit_is)
    (case ob_Builtin_str => kit_is)
    (case ob_Builtin_list => kit_is)
    (case ob_Builtin_tuple => kit_is)
    (case ob_Builtin_dict => kit_is)
    (case ob_Parts_bool => kit_is)
    (case ob_Parts_int => kit_is)
    (case ob_Parts_str => kit_is)
    (case ob_Parts_list => kit_is)
    (case ob_Parts_tuple => kit_is)
    (case ob_Parts_dict => kit_is)
    (case ob_Table_bool => kit_is)
    (case ob_Table_int => kit_is)
    (case ob_Table_str => kit_is)
    (case ob_Table_list => kit_is)
    (case ob_Table_tuple => kit_is)
    (case ob_Table_dict => kit_is)
    (case ob_Instance_bool => kit_is)
    (case ob_Instance_int => kit_is)
    (case ob_Instance_str => kit_is)
    (case ob_Instance_list => kit_is)
    (case ob_Instance_tuple => kit_is)
    (case ob_Instance_dict => kit_is)
    (case ob_Kin_bool => kit_is)
    (case ob_Kin_int => kit_is)
    (case ob_Kin_str => kit_is)
    (case ob_Kin_list => kit_is)
    (case ob_Kin_tuple => kit_is)
    (case ob_Kin_dict => kit_is)
    (case ob_Cursor_bool => kit_is)
    (case ob_Cursor_int => kit_is)
    (case ob_Cursor_str => kit_is)
    (case ob_Cursor_list => kit_is)
    (case ob_Cursor_tuple => kit_is)
    (case ob_Cursor_dict => kit_is)
    (case ob_Store_bool => kit_is)
    (case ob_Store_int => kit_is)
    (case ob_Store_str => kit_is)
    (case ob_Store_list => kit_is)
    (case ob_Store_tuple => kit_is)
    (case ob_Store_dict => kit_is)
    (case ne_Ref_Builtin => decide)
    (case ne_Ref_Parts => decide)
    (case ne_Ref_Table => decide)
    (case ne_Ref_Instance => decide)
    (case ne_Ref_Kin => decide)
    (case ne_Ref_Cursor => decide)
    (case ne_Ref_Store => decide)
    (case ne_Builtin_Parts => decide)
    (case ne_Builtin_Table => decide)
    (case ne_Builtin_Instance => decide)
    (case ne_Builtin_Kin => decide)
    (case ne_Builtin_Cursor => decide)
    (case ne_Builtin_Store => decide)
    (case ne_Parts_Table => decide)
    (case ne_Parts_Instance => decide)
    (case ne_Parts_Kin => decide)
    (case ne_Parts_Cursor => decide)
    (case ne_Parts_Store => decide)
    (case ne_Table_Instance => decide)
    (case ne_Table_Kin => decide)
    (case ne_Table_Cursor => decide)
    (case ne_Table_Store => decide)
    (case ne_Instance_Kin => decide)
    (case ne_Instance_Cursor => decide)
    (case ne_Instance_Store => decide)
    (case ne_Kin_Cursor => decide)
    (case ne_Kin_Store => decide)
    (case ne_Cursor_Store => decide)
    (case a0 => k_is); (case l0 => k_is); (case c0 => k_is); (case k0 => k_is); (case i0 => k_is)
    (case a1 => k_is); (case l1 => k_is); (case c1 => k_is); (case k1 => k_is); (case i1 => k_is)
    (case a2 => k_is); (case l2 => k_is); (case c2 => k_is); (case k2 => k_is); (case i2 => k_is)
    (case a3 => k_is); (case l3 => k_is); (case c3 => k_is); (case k3 => k_is); (case i3 => k_is)
    (case a4 => k_is); (case l4 => k_is); (case c4 => k_is); (case k4 => k_is); (case i4 => k_is)
    (case a5 => k_is); (case l5 => k_is); (case c5 => k_is); (case k5 => k_is)
    (case a6 => k_is); (case l6 => k_is); (case c6 => k_is); (case k6 => k_is); (case i6 => k_is)
    (case a7 => k_is); (case l7 => k_is); (case c7 => k_is); (case k7 => k_is); (case i7 => k_is)
    (case a8 => k_is); (case l8 => k_is); (case c8 => k_is); (case k8 => k_is); (case i8 => k_is)
    (case a9 => k_is); (case pg9 => k_is); (case pt9 => k_is); (case pr9 => k_is); (case l9 => k_is); (case c9 => k_is); (case k9 => k_is)
    (case a10 => k_is); (case l10 => k_is); (case c10 => k_is); (case k10 => k_is); (case i10 => k_is)
    (case a11 => k_is); (case l11 => k_is); (case c11 => k_is); (case k11 => k_is); (case i11 => k_is)
    (case a12 => k_is); (case l12 => k_is); (case c12 => k_is); (case k12 => k_is); (case i12 => k_is)
    (case a13 => k_is); (case l13 => k_is); (case c13 => k_is); (case k13 => k_is); (case i13 => k_is)
    (case a14 => k_is); (case l14 => k_is); (case c14 => k_is); (case k14 => k_is); (case i14 => k_is)
    (case a15 => k_is); (case l15 => k_is); (case c15 => k_is); (case k15 => k_is); (case i15 => k_is)
    (case a16 => k_is); (case l16 => k_is); (case c16 => k_is); (case k16 => k_is); (case i16 => k_is)
    (case a17 => k_is); (case l17 => k_is); (case c17 => k_is); (case k17 => k_is); (case i17 => k_is)
    (case a18 => k_is); (case l18 => k_is); (case c18 => k_is); (case k18 => k_is); (case i18 => k_is)
    (case a19 => k_is); (case l19 => k_is); (case c19 => k_is); (case k19 => k_is); (case i19 => k_is)
    (case a20 => k_is); (case l20 => k_is); (case c20 => k_is); (case k20 => k_is); (case i20 => k_is)
    (case a21 => k_is); (case l21 => k_is); (case c21 => k_is); (case k21 => k_is); (case i21 => k_is)
    (case a22 => k_is); (case l22 => k_is); (case c22 => k_is); (case k22 => k_is); (case i22 => k_is)
    (case a23 => k_is); (case l23 => k_is); (case c23 => k_is); (case k23 => k_is); (case i23 => k_is)
    (case a24 => k_is); (case l24 => k_is); (case c24 => k_is); (case k24 => k_is)
    (case a25 => k_is); (case l25 => k_is); (case c25 => k_is); (case k25 => k_is)
    (case a26 => k_is); (case l26 => k_is); (case c26 => k_is); (case k26 => k_is)
    (case a27 => k_is); (case l27 => k_is); (case c27 => k_is); (case k27 => k_is)
    (case a28 => k_is); (case l28 => k_is); (case c28 => k_is); (case k28 => k_is)
    (case a29 => k_is); (case l29 => k_is); (case c29 => k_is); (case k29 => k_is)
    (case a30 => k_is); (case l30 => k_is); (case c30 => k_is); (case k30 => k_is)
    (case a31 => k_is); (case l31 => k_is); (case c31 => k_is); (case k31 => k_is)
    (case a32 => k_is); (case l32 => k_is); (case c32 => k_is); (case k32 => k_is)
    (case a33 => k_is); (case l33 => k_is); (case c33 => k_is); (case k33 => k_is)
    (case a34 => k_is); (case l34 => k_is); (case c34 => k_is); (case k34 => k_is)
    (case a35 => k_is); (case l35 => k_is); (case c35 => k_is); (case k35 => k_is)
    (case a36 => k_is); (case l36 => k_is); (case c36 => k_is); (case k36 => k_is)
    (case a37 => k_is); (case l37 => k_is); (case c37 => k_is); (case k37 => k_is)
    (case a38 => k_is); (case l38 => k_is); (case c38 => k_is); (case k38 => k_is)
    (case a39 => k_is); (case l39 => k_is); (case c39 => k_is); (case k39 => k_is)
    (case a40 => k_is); (case l40 => k_is); (case c40 => k_is); (case k40 => k_is)
    (case a41 => k_is); (case l41 => k_is); (case c41 => k_is); (case k41 => k_is)
    (case a42 => k_is); (case l42 => k_is); (case c42 => k_is); (case k42 => k_is)
    (case z_abs => k_is); (case z_bool => k_is); (case z_dict => k_is); (case z_int => k_is); (case z_isinstance => k_is); (case z_len => k_is); (case z_list => k_is); (case z_max => k_is); (case z_min => k_is); (case z_range => k_is); (case z_str => k_is); (case z_tuple => k_is)
    (case q_ERROR => k_is)
    (case q_MOST_PARTS => k_is)
