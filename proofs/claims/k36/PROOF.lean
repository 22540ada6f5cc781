import PyProof.Rows.All
import Wide.All
import OpenK.AllK
import Wide.FinOn
import HandS.ForMost
import HandS.StrMore
import HandS.Wide
import HandS.IsInst
import HandS.Flow
import HandS.Codes
import HandS.Deep
import HandS.EndBits
import HandS.Walk
import KE.DataEq
import HandS.OwnEq
import HandS.Comp
import HandS.Property
import KE.KIsAll
import KE.KExcIs
import HandS.Exc
import HandS.ExcOwn
import HandS.ExcInit
import HandS.ExcField
import HandS.ExcIs
import HandS.TryOnly
import HandS.TryMany
import HandS.CallSlots
import HandS.WordsExc
import HandS.Small
import HandS.FStr
import HandS.More
import KE.KeyNested
import KE.KDictKeyed
import HandS.TupLen
import HandS.Iter
import HandS.DictComp
import HandS.List
import KE.GoesZip
import KE.GoesMore
import HandS.Zip
import HandS.Style
import HandS.Replace
import HandS.ReplaceLit
import HandS.ReplaceDef
import HandS.ReplaceList
import HandS.Defaults
import KE.KStateDown
import HandS.Head0
import HandS.Head1
import HandS.Head2
import HandS.HeadEnd
import HandS.HeadHook1
import HandS.HeadHook2
import PySem.Challenge.RW_livequill_k36_code_that_is_refused
set_option Elab.async false
set_option linter.all false
set_option maxRecDepth 100000
/-! Fx: readings that compute: every operation is one function of its values, whatever their kinds. -/
namespace Fx
open PySem PySem.Spec PyProof.Rows L2

/-! ### weakening -/
section
variable {X : Cx}
theorem pe_wk {e : Expr} {t t' : TE} (h : PE X e t) (w : ∀ σ H Q, t' σ H Q → t σ H Q) : PE X e t' := ⟨fun pins s σ H Q I q => h.run pins s σ H Q I (w σ H Q q)⟩
theorem pt_wk {e : Expr} {t t' : TT} (h : PT X e t) (w : ∀ σ H Q, t' σ H Q → t σ H Q) : PT X e t' := ⟨fun pins s σ H Q I q => h.run pins s σ H Q I (w σ H Q q)⟩
theorem ps_wk {e : Stmt} {t t' : TS} (h : PS X e t) (w : ∀ D σ H, t' D σ H → t D σ H) : PS X e t' := ⟨fun pins s σ H D I q => h.run pins s σ H D I (w D σ H q)⟩
theorem op_wk {f : Value → Value → Sem Value} {r r' : R2} (h : OpR X f r) (w : ∀ x y H Q, r' x y H Q → r x y H Q) : OpR X f r' := fun pins s σ H x y v u Q I rx ry q => h pins s σ H x y v u Q I rx ry (w x y H Q q)
theorem call_wk {f : Value} {r r' : List V → Hp → VK → Prop} (h : CallR X f r) (w : ∀ xs H Q, r' xs H Q → r xs H Q) : CallR X f r' := fun pins s σ H xs us Q I rx q => h pins s σ H xs us Q I rx (w xs H Q q)

/-! ### names -/
def fVar (i : Nat) : TE := fun σ H Q => match σ[i]? with
  | some (some v) => Q v H
  | _ => False
theorem fe_var (i : Nat) {x : Str} {pos : Pos} (hN : X.N[i]? = some x := by rfl) (hv : Vis X.env.scope x := by first | exact Or.inl rfl | exact Or.inr (Or.inl rfl) | exact Or.inr (Or.inr rfl)) (hd : (x == ("__debug__" : Str)) = false := by decide)
    (hcd : (x == ("__classdict__" : Str)) = false := by decide) : PE X (.Name x pos) (fVar i) := pe_wk (pe_var hN hv hd hcd) fun σ H Q q => by
  unfold fVar at q
  split at q
  · exact ⟨_, by assumption, q⟩
  · exact q.elim

theorem same_new {H : Hp} {p : Addr} {o : HO} (h : H p = none) : Same H (upd H p o) := fun b x e => by
  rw [upd_ne (ne_of_none e h)]
  exact e
/-- a new tuple, a new list: behind it a heap that has it and keeps the rest -/
def fTup (t : TA) : TE := fun σ H Q => t σ H fun xs H1 => xs.length ≤ 100000 ∧ ∀ p H2, H1 p = none → Same H1 H2 → H2 p = some (.tup xs) → Q (.ref p) H2
def fLst (t : TA) : TE := fun σ H Q => t σ H fun xs H1 => xs.length ≤ 100000 ∧ ∀ p H2, H1 p = none → Same H1 H2 → H2 p = some (.lst xs) → Q (.ref p) H2
theorem line5 {n : Nat} (h : n ≤ 100000) : n ≤ sizeLine := Nat.le_trans h (by decide)
section
variable {es : List Expr} {t : TA} {pos : Pos}
theorem fe_tup {x1} (h : PA X es t) : PE X (.Tuple es x1 pos) (fTup t) := by
  refine ⟨fun pins s σ H Q I hq => ?_⟩
  refine wpAny_Tuple_spliced (thn (h.run pos pins s σ H _ I hq) fun us s1 ⟨xs, H1, I1, r, z, q⟩ => ⟨by rw [← r.length]; exact line5 z, ?_⟩)
  have hf : H1 s1.heap.objs.size = none := I1.hok.fresh (Nat.le_refl _)
  refine ⟨.ref s1.heap.objs.size, upd H1 s1.heap.objs.size (.tup xs), I1.laid (t' := s1.toks) (fun b u e => Heap.get?_push_of_some _ e) (Nat.le_refl _) ?_, rfl, q _ _ hf (same_new hf) upd_same⟩
  exact ⟨line5 z, us, r, ⟨_, Heap.get?_push_size _ rfl, rfl, _, rfl⟩⟩
theorem fe_lst (h : PA X es t) : PE X (.List es pos) (fLst t) := by
  refine ⟨fun pins s σ H Q I hq => ?_⟩
  refine wpAny_List_spliced (thn (h.run pos pins s σ H _ I hq) fun us s1 ⟨xs, H1, I1, r, z, q⟩ => ⟨by rw [← r.length]; exact line5 z, ?_⟩)
  have hf : H1 s1.heap.objs.size = none := I1.hok.fresh (Nat.le_refl _)
  refine ⟨.ref s1.heap.objs.size, upd H1 s1.heap.objs.size (.lst xs), I1.laid (t' := s1.toks) (fun b u e => Heap.get?_push_of_some _ e) (Nat.le_refl _) ?_, rfl, q _ _ hf (same_new hf) upd_same⟩
  exact ⟨line5 z, us, 0, r, Heap.get?_push_size _ rfl⟩
end
/-! ### a list or a tuple that is read -/
def Rl (K : PySem.W.Frag) (H : Hp) (a : Addr) (xs : List V) : Prop := SqL K H a xs ∨ SqT K H a xs
theorem rl_l {K : PySem.W.Frag} {H : Hp} {a : Addr} {xs : List V} (h : H a = some (.lst xs)) : Rl K H a xs := .inl (SqL.of h)
theorem rl_t {K : PySem.W.Frag} {H : Hp} {a : Addr} {xs : List V} (h : H a = some (.tup xs)) : Rl K H a xs := .inr (SqT.of h)

/-! ### operators by values -/
def fAdd (K : PySem.W.Frag) : R2 := fun x y H Q => match x, y with
  | .int i, .int j => Q (.int (i + j)) H
  | .str a, .str b => a.length + b.length ≤ sizeLine ∧ Q (.str (a ++ b)) H
  | .ref l, .ref b => match H l, H b with
    | some (.lst xs), some (.lst zs) => xs.length + zs.length ≤ sizeLine ∧ ∀ p H1, H p = none → Same H H1 → H1 p = some (.lst (xs ++ zs)) → Q (.ref p) H1
    | _, _ => False
  | _, _ => False
theorem op_fAdd : OpR X (binaryOp .Add) (fAdd X.K) := by
  intro pins s σ H x y v u Q I rx ry h
  cases x <;> cases y <;> first
    | exact False.elim h
    | exact op_add pins s σ H _ _ v u Q I rx ry ⟨_, _, rfl, rfl, h⟩
    | exact op_add_str pins s σ H _ _ v u Q I rx ry ⟨_, _, rfl, rfl, h⟩
    | (dsimp only [fAdd] at h
       split at h
       · exact op_cat pins s σ H _ _ v u Q I rx ry ⟨_, _, _, _, rfl, rfl, by assumption, by assumption, h.1, fun p np => h.2 p _ np (same_new np) upd_same⟩
       · exact h.elim)
def fSub : R2 := fun x y H Q => match x, y with
  | .int i, .int j => Q (.int (i - j)) H
  | _, _ => False
theorem op_fSub : OpR X (binaryOp .Sub) fSub := by
  intro pins s σ H x y v u Q I rx ry h
  cases x <;> cases y <;> first
    | exact False.elim h
    | exact op_sub pins s σ H _ _ v u Q I rx ry ⟨_, _, rfl, rfl, h⟩
def fMul : R2 := fun x y H Q => match x, y with
  | .int i, .int j => IntMulOk i j ∧ Q (.int (i * j)) H
  | .str a, .int j => MulOk a j ∧ Q (.str (Txt.mul a j)) H
  | .ref l, .int k => rRep (.ref l) (.int k) H Q
  | _, _ => False
theorem op_fMul : OpR X (binaryOp .Mult) fMul := by
  intro pins s σ H x y v u Q I rx ry h
  match x, y, rx, ry, h with
  | .int i, .int j, ⟨t, e⟩, ⟨t', e'⟩, ⟨hm, q⟩ =>
    subst e e'
    exact mul_int ⟨.int _, H, I.tok _, ⟨_, rfl⟩, q⟩ hm
  | .str a, .int j, ⟨t, e⟩, ⟨t', e'⟩, ⟨hm, q⟩ =>
    subst e e'
    exact SB.mul hm fun t' k => ⟨.str _, H, I.tok _, ⟨_, rfl⟩, q⟩
  | .ref l, .int k, rx, ry, h => exact op_rep pins s σ H _ _ v u Q I rx ry h
def fDiv : R2 := fun x y H Q => match x, y with
  | .int i, .int j => CDivW i j ∧ Q (.int (i / j)) H
  | _, _ => False
theorem op_fDiv : OpR X (binaryOp .FloorDiv) fDiv := by
  intro pins s σ H x y v u Q I rx ry h
  cases x <;> cases y <;> first
    | exact False.elim h
    | exact op_fdivW pins s σ H _ _ v u Q I rx ry ⟨_, _, rfl, rfl, h⟩
def fMod : R2 := fun x y H Q => match x, y with
  | .int i, .int j => 0 < j ∧ Q (.int (i % j)) H
  | _, _ => False
theorem op_fMod : OpR X (binaryOp .Mod) fMod := by
  intro pins s σ H x y v u Q I rx ry h
  cases x <;> cases y <;> first
    | exact False.elim h
    | exact op_mod pins s σ H _ _ v u Q I rx ry ⟨_, _, rfl, rfl, h⟩
def fNeg : V → Hp → VK → Prop := fun x H Q => match x with
  | .int i => Q (.int (-i)) H
  | _ => False
theorem un_fNeg : UnR X (unaryOp .USub) fNeg := by
  intro pins s σ H x v Q I rx h
  cases x <;> first
    | exact False.elim h
    | exact un_neg pins s σ H _ v Q I rx ⟨_, rfl, h⟩
/-- data that == may look at -/
def okd (d : PyData) : Bool := d.plain && decide (d.depth ≤ 64)
/-- == of scalars as such, of lists and tuples as data -/
def fEq (K : PySem.W.Frag) (neg : Bool) : R2 := fun x y H Q =>
  if scal x y = true then Q (.bl (if neg = true then !decide (x = y) else decide (x = y))) H
  else ∃ d e, Dp K H x d ∧ Dp K H y e ∧ okd d = true ∧ okd e = true ∧ Q (.bl (if neg = true then !PyData.eqv d e else PyData.eqv d e)) H
theorem op_fEq (hu : X.A.units + 64 < cLine) : OpR X (compareOp .Eq) (fEq X.K false) := by
  intro pins s σ H x y v u Q I rx ry h
  unfold fEq at h
  split at h
  · exact op_eq pins s σ H x y v u Q I rx ry ⟨by assumption, h⟩
  · obtain ⟨d, e, hd, he, sd, se, q⟩ := h
    obtain ⟨as, r1⟩ := Dp.reads I d x v hd rx
    obtain ⟨bs, r2⟩ := Dp.reads I e y u he ry
    have sd := Bool.and_eq_true_iff.mp sd
    have se := Bool.and_eq_true_iff.mp se
    have d1 := of_decide_eq_true sd.2
    exact SeqAt.eq_plain r1 r2 sd.1 se.1 (by omega) ⟨.bl _, H, I, rfl, q⟩
theorem op_fNe (hu : X.A.units + 64 < cLine) : OpR X (compareOp .NotEq) (fEq X.K true) := by
  intro pins s σ H x y v u Q I rx ry h
  unfold fEq at h
  split at h
  · exact op_ne pins s σ H x y v u Q I rx ry ⟨by assumption, h⟩
  · obtain ⟨d, e, hd, he, sd, se, q⟩ := h
    obtain ⟨as, r1⟩ := Dp.reads I d x v hd rx
    obtain ⟨bs, r2⟩ := Dp.reads I e y u he ry
    have sd := Bool.and_eq_true_iff.mp sd
    have se := Bool.and_eq_true_iff.mp se
    have d1 := of_decide_eq_true sd.2
    exact SeqAt.ne_plain r1 r2 sd.1 se.1 (by omega) ⟨.bl _, H, I, rfl, q⟩
def fLt : R2 := fun x y H Q => match x, y with
  | .int i, .int j => Q (.bl (decide (i < j))) H
  | .str i, .str j => Q (.bl (decide (i.cps.toList < j.cps.toList))) H
  | _, _ => False
theorem op_fLt : OpR X (compareOp .Lt) fLt := by
  intro pins s σ H x y v u Q I rx ry h
  cases x <;> cases y <;> first
    | exact False.elim h
    | exact op_lt pins s σ H _ _ v u Q I rx ry ⟨_, _, rfl, rfl, h⟩
    | exact op_lt_str pins s σ H _ _ v u Q I rx ry ⟨_, _, rfl, rfl, h⟩
def fLe : R2 := fun x y H Q => match x, y with
  | .int i, .int j => Q (.bl (decide (i ≤ j))) H
  | .str i, .str j => Q (.bl (!decide (j.cps.toList < i.cps.toList))) H
  | _, _ => False
theorem op_fLe : OpR X (compareOp .LtE) fLe := by
  intro pins s σ H x y v u Q I rx ry h
  cases x <;> cases y <;> first
    | exact False.elim h
    | exact op_le pins s σ H _ _ v u Q I rx ry ⟨_, _, rfl, rfl, h⟩
    | exact op_le_str pins s σ H _ _ v u Q I rx ry ⟨_, _, rfl, rfl, h⟩
def fGt : R2 := fun x y H Q => match x, y with
  | .int i, .int j => Q (.bl (decide (j < i))) H
  | .str i, .str j => Q (.bl (decide (j.cps.toList < i.cps.toList))) H
  | _, _ => False
theorem op_fGt : OpR X (compareOp .Gt) fGt := by
  intro pins s σ H x y v u Q I rx ry h
  cases x <;> cases y <;> first
    | exact False.elim h
    | exact op_gt pins s σ H _ _ v u Q I rx ry ⟨_, _, rfl, rfl, h⟩
    | exact op_gt_str pins s σ H _ _ v u Q I rx ry ⟨_, _, rfl, rfl, h⟩
def fGe : R2 := fun x y H Q => match x, y with
  | .int i, .int j => Q (.bl (decide (j ≤ i))) H
  | .str i, .str j => Q (.bl (!decide (i.cps.toList < j.cps.toList))) H
  | _, _ => False
theorem op_fGe : OpR X (compareOp .GtE) fGe := by
  intro pins s σ H x y v u Q I rx ry h
  cases x <;> cases y <;> first
    | exact False.elim h
    | exact op_ge pins s σ H _ _ v u Q I rx ry ⟨_, _, rfl, rfl, h⟩
    | exact op_ge_str pins s σ H _ _ v u Q I rx ry ⟨_, _, rfl, rfl, h⟩
/-- x in y: one sign in a text; a text in a text; a flat value in a list or tuple of flat values -/
def fIn (K : PySem.W.Frag) (neg : Bool) : R2 := fun x y H Q => match x, y with
  | .str a, .str b => match a.cps.toList with
    | [c] => Q (.bl (if neg = true then !decide (c ∈ b.cps.toList) else decide (c ∈ b.cps.toList))) H
    | _ => Q (.bl (if neg = true then !(!(Builtin.Str.occurrences b a 0 b.length 1).isEmpty) else !(Builtin.Str.occurrences b a 0 b.length 1).isEmpty)) H
  | x, .ref p => ∃ xs, Rl K H p xs ∧ flatV x = true ∧ xs.all flatV = true ∧ Q (.bl (if neg = true then !inV x xs else inV x xs)) H
  | _, _ => False
theorem str_one {a : Str} {c : Nat} (h : a.cps.toList = [c]) : a = ⟨#[c]⟩ := by
  obtain ⟨⟨l⟩⟩ := a
  have h' : l = [c] := h
  subst h'
  rfl
theorem op_fIn : OpR X (compareOp .In) (fIn X.K false) := by
  intro pins s σ H x y v u Q I rx ry h
  cases y with
  | str b =>
    cases x with
    | str a =>
      dsimp only [fIn] at h
      split at h
      · rename_i c e
        cases str_one e
        exact op_in_sign pins s σ H _ _ v u Q I rx ry ⟨_, _, rfl, rfl, h⟩
      · exact op_in_str pins s σ H _ _ v u Q I rx ry ⟨_, _, rfl, rfl, h⟩
    | _ => exact False.elim h
  | ref p =>
    have h' : ∃ xs, Rl X.K H p xs ∧ flatV x = true ∧ xs.all flatV = true ∧ Q (.bl (if false = true then !inV x xs else inV x xs)) H := by
      cases x <;> exact h
    obtain ⟨xs, h1, h2, h3, h4⟩ := h'
    exact op_in_seq pins s σ H _ _ v u Q I rx ry ⟨p, xs, rfl, h1, h2, h3, h4⟩
  | _ => cases x <;> exact False.elim h
theorem op_fNotIn : OpR X (compareOp .NotIn) (fIn X.K true) := by
  intro pins s σ H x y v u Q I rx ry h
  cases y with
  | str b =>
    cases x with
    | str a =>
      dsimp only [fIn] at h
      split at h
      · rename_i c e
        cases str_one e
        exact op_notIn_sign pins s σ H _ _ v u Q I rx ry ⟨_, _, rfl, rfl, h⟩
      · exact op_notin_str pins s σ H _ _ v u Q I rx ry ⟨_, _, rfl, rfl, h⟩
    | _ => exact False.elim h
  | ref p =>
    have h' : ∃ xs, Rl X.K H p xs ∧ flatV x = true ∧ xs.all flatV = true ∧ Q (.bl (if true = true then !inV x xs else inV x xs)) H := by
      cases x <;> exact h
    obtain ⟨xs, h1, h2, h3, h4⟩ := h'
    exact op_notIn_seq pins s σ H _ _ v u Q I rx ry ⟨p, xs, rfl, h1, h2, h3, h4⟩
  | _ => cases x <;> exact False.elim h
/-- is, with None on the right -/
def fIsN : R2 := fun x y H Q => y = .non ∧ Q (.bl (decide (x = .non))) H
def fNotN : R2 := fun x y H Q => y = .non ∧ Q (.bl (!decide (x = .non))) H
theorem op_fIsN : OpR X (compareOp .Is) fIsN := op_isN
theorem op_fNotN : OpR X (compareOp .IsNot) fNotN := op_notN
/-- x[i] -/
def fIx (K : PySem.W.Frag) : R2 := fun x y H Q => match x, y with
  | .str z, .int i => z.length ≤ sizeLine ∧ ∃ c, atI z.cps.toList i = some c ∧ Q (.str ⟨#[c]⟩) H
  | .ref p, .int i => ∃ xs, Rl K H p xs ∧ ∃ v, atI xs i = some v ∧ Q v H
  | _, _ => False
theorem ix_fx : IxR X (fIx X.K) := by
  intro e1 e2 pins s σ H x y v u Q I rx ry h hs
  cases x <;> cases y <;> first
    | exact False.elim h
    | (obtain ⟨h1, c, h2, h3⟩ := h
       exact ix_str e1 e2 pins s σ H _ _ v u Q I rx ry ⟨_, _, c, rfl, rfl, h1, h2, h3⟩ hs)
    | (obtain ⟨xs, h1, w, h2, h3⟩ := h
       rcases h1 with h1 | h1
       · exact ix_list e1 e2 pins s σ H _ _ v u Q I rx ry ⟨_, xs, _, w, rfl, rfl, h1, h2, h3⟩ hs
       · exact ix_tup e1 e2 pins s σ H _ _ v u Q I rx ry ⟨_, xs, _, w, rfl, rfl, h1, h2, h3⟩ hs)
/-- x[lo:hi] of a text, of a list -/
def fSl (K : PySem.W.Frag) : V → Option Int → Option Int → Hp → VK → Prop := fun x lo hi H Q => match x with
  | .str z => z.length ≤ sizeLine ∧ Q (.str (cutS z lo hi)) H
  | .ref a => ∃ xs, SqL K H a xs ∧ ∀ p H1, H p = none → Same H H1 → H1 p = some (.lst (cutV xs lo hi)) → Q (.ref p) H1
  | _ => False
theorem sl_fx : SlR X (fSl X.K) := by
  intro pins s σ H x v vl vu lo hi sl Q I rx hs pl pu h
  cases x <;> first
    | exact False.elim h
    | exact sl_str pins s σ H _ v vl vu lo hi sl Q I rx hs pl pu ⟨_, rfl, h⟩
    | (obtain ⟨xs, h1, h2⟩ := h
       exact sl_list pins s σ H _ v vl vu lo hi sl Q I rx hs pl pu ⟨_, xs, rfl, h1, fun p np => h2 p _ np (same_new np) upd_same⟩)
/-- o[i] = v of a list -/
def fSet : TSet := fun o i v H Q => match o, i with
  | .ref p, .int k => match H p with
    | some (.lst xs) => ∃ j, ixN xs.length k = some j ∧ Q (upd H p (.lst (xs.set j v)))
    | _ => False
  | _, _ => False
theorem set_fx : PSet X fSet := by
  intro pins s σ H o i v ov iv u Q I ro ri rv h
  cases o <;> cases i <;> first
    | exact False.elim h
    | (dsimp only [fSet] at h
       split at h
       · obtain ⟨j, h2, h3⟩ := h
         exact set_list pins s σ H _ _ v ov iv u Q I ro ri rv ⟨_, _, _, j, rfl, rfl, by assumption, h2, h3⟩
       · exact h.elim)
/-- name += e -/
def fIAdd : TIp := fun x y H Q => match x, y with
  | .int i, .int j => Q (.int (i + j)) H
  | .str a, .str b => a.length + b.length ≤ sizeLine ∧ Q (.str (a ++ b)) H
  | _, _ => False
theorem ip_fAdd : PIp X .Add fIAdd := by
  intro pins s σ H x y v u Q I rx ry h
  cases x <;> cases y <;> first
    | exact False.elim h
    | exact ip_add pins s σ H _ _ v u Q I rx ry ⟨_, _, rfl, rfl, h⟩
    | exact iop_add_str pins s σ H _ _ v u Q I rx ry ⟨_, _, rfl, rfl, h⟩
def fISub : TIp := fun x y H Q => match x, y with
  | .int i, .int j => Q (.int (i - j)) H
  | _, _ => False
theorem ip_fSub : PIp X .Sub fISub := by
  intro pins s σ H x y v u Q I rx ry h
  cases x <;> cases y <;> first
    | exact False.elim h
    | exact ip_sub pins s σ H _ _ v u Q I rx ry ⟨_, _, rfl, rfl, h⟩
/-! ### built-in calls -/
def fLen (K : PySem.W.Frag) : List V → Hp → VK → Prop := fun xs H Q => match xs with
  | [.str z] => z.length ≤ sizeLine ∧ Q (.int z.length) H
  | [.ref p] => ∃ ys, Rl K H p ys ∧ Q (.int ys.length) H
  | _ => False
theorem call_fLen : CallR X (.builtin "len") (fLen X.K) := by
  intro pins s σ H xs us Q I r h
  match xs, r, h with
  | [.str z], r, h => exact call_len_str pins s σ H _ us Q I r ⟨z, rfl, h⟩
  | [.ref p], r, h =>
    obtain ⟨ys, h1, h2⟩ := h
    exact call_len_seq pins s σ H _ us Q I r ⟨p, ys, rfl, h1, h2⟩
/-- len of a dict -/
def fLenD : List V → Hp → VK → Prop := fun xs H Q => match xs with
  | [.ref p] => ∃ kvs, H p = some (.dK kvs) ∧ Q (.int kvs.length) H
  | _ => False
theorem call_fLenD : CallR X (.builtin "len") fLenD := by
  intro pins s σ H xs us Q I r h
  match xs, r, h with
  | [.ref p], r, h =>
    obtain ⟨kvs, h1, h2⟩ := h
    exact call_lenD pins s σ H _ us Q I r ⟨p, kvs, rfl, h1, h2⟩
def fInt : List V → Hp → VK → Prop := fun xs H Q => match xs with
  | [.int i] => Q (.int i) H
  | [.bl k] => Q (.int (if k then 1 else 0)) H
  | [.str a] => ∃ n, PySem.intText? a = some n ∧ a.length ≤ 640 ∧ Q (.int n) H
  | _ => False
theorem call_fInt : CallR X (.type "int") fInt := by
  intro pins s σ H xs us Q I r h
  match xs, r, h with
  | [.int i], r, h => exact call_int1 pins s σ H _ us Q I r (.inl ⟨i, rfl, h⟩)
  | [.bl k], r, h => exact call_int1 pins s σ H _ us Q I r (.inr ⟨k, rfl, h⟩)
  | [.str a], r, h =>
    obtain ⟨n, h1, h2, h3⟩ := h
    exact call_int_str pins s σ H _ us Q I r ⟨a, n, rfl, h1, h2, h3⟩
def fStr : List V → Hp → VK → Prop := fun xs H Q => match xs with
  | [.int i] => i.natAbs.log2 < 1920 ∧ Q (.str (toString i)) H
  | _ => False
theorem call_fStr : CallR X (.type "str") fStr := by
  intro pins s σ H xs us Q I r h
  match xs, r, h with
  | [.int i], r, h => exact call_str_int pins s σ H _ us Q I r ⟨i, rfl, h⟩
def fAbs : List V → Hp → VK → Prop := fun xs H Q => match xs with
  | [.int i] => Q (.int (if i < 0 then -i else i)) H
  | _ => False
theorem call_fAbs : CallR X (.builtin "abs") fAbs := by
  intro pins s σ H xs us Q I r h
  match xs, r, h with
  | [.int i], r, h => exact call_abs pins s σ H _ us Q I r ⟨i, rfl, h⟩
def fMax : List V → Hp → VK → Prop := fun xs H Q => match xs with
  | [.int i, .int j] => Q (.int (if j > i then j else i)) H
  | _ => False
theorem call_fMax (hc : X.calm = true) : CallR X (.builtin "max") fMax := by
  intro pins s σ H xs us Q I r h
  match xs, r, h with
  | [.int i, .int j], r, h => exact call_max2 hc pins s σ H _ us Q I r ⟨i, j, rfl, h⟩
def fMin : List V → Hp → VK → Prop := fun xs H Q => match xs with
  | [.int i, .int j] => Q (.int (if j < i then j else i)) H
  | _ => False
theorem call_fMin (hc : X.calm = true) : CallR X (.builtin "min") fMin := by
  intro pins s σ H xs us Q I r h
  match xs, r, h with
  | [.int i, .int j], r, h => exact call_min2 hc pins s σ H _ us Q I r ⟨i, j, rfl, h⟩
def fOrd : List V → Hp → VK → Prop := fun xs H Q => match xs with
  | [.str x] => ∃ c, x.cps.toList = [c] ∧ Q (.int (c : Nat)) H
  | _ => False
theorem call_fOrd : CallR X (.builtin "ord") fOrd := by
  intro pins s σ H xs us Q I r h
  match xs, r, h with
  | [.str x], r, h =>
    obtain ⟨c, h1, h2⟩ := h
    cases str_one h1
    exact call_ord pins s σ H _ us Q I r ⟨_, rfl, rfl, h2⟩
def fChr : List V → Hp → VK → Prop := fun xs H Q => match xs with
  | [.int i] => (0 ≤ i ∧ i ≤ 1114111) ∧ Q (.str ⟨#[i.toNat]⟩) H
  | _ => False
theorem call_fChr : CallR X (.builtin "chr") fChr := by
  intro pins s σ H xs us Q I r h
  match xs, r, h with
  | [.int i], r, h => exact call_chr pins s σ H _ us Q I r ⟨i, rfl, h.1.1, h.1.2, h.2⟩
/-- list(x): a new list -/
def fListOf (K : PySem.W.Frag) : List V → Hp → VK → Prop := fun xs H Q => match xs with
  | [.ref p] => ∃ ys, Rl K H p ys ∧ ∀ l H1, H l = none → Same H H1 → H1 l = some (.lst ys) → Q (.ref l) H1
  | _ => False
theorem call_fListOf : CallR X (.type "list") (fListOf X.K) := by
  intro pins s σ H xs us Q I r h
  match xs, r, h with
  | [.ref p], r, h =>
    obtain ⟨ys, h1, h2⟩ := h
    exact call_list_of pins s σ H _ us Q I r ⟨p, ys, rfl, h1, fun l nl => h2 l _ nl (same_new nl) upd_same⟩
/-! ### isinstance of a built-in class -/
/-- a value's built-in class (by the abstract heap), where it is plain -/
def tyOf (H : Hp) : V → Option String
  | .non => some "NoneType"
  | .bl _ => some "bool"
  | .int _ => some "int"
  | .str _ => some "str"
  | .ref a => match H a with
    | some (.lst _) => some "list"
    | some (.tup _) => some "tuple"
    | some (.dK _) => some "dict"
    | some (.dT _) => some "dict"
    | _ => none
  | _ => none
theorem tyX_of {K : PySem.W.Frag} {H : Hp} {x : V} {t : String} (h : tyOf H x = some t) : TyX K H x (.type t) := by
  cases x with
  | non => cases h; exact .base .non
  | bl b => cases h; exact .base (.bl b)
  | int b => cases h; exact .base (.int b)
  | str b => cases h; exact .base (.str b)
  | ref a =>
    dsimp only [tyOf] at h
    split at h <;> first
      | (cases h; exact .base (.lst (by assumption)))
      | (cases h; exact .base (.tup (by assumption)))
      | (cases h; exact .base (.dK (by assumption)))
      | (cases h; exact .base (.dT (by assumption)))
      | cases h
  | _ => cases h
/-- one of some built-in classes -/
def kitBs (t : String) : List V → Option Bool
  | [] => some false
  | .ty n :: cs => match kitB t n, kitBs t cs with
    | some b, some r => some (b || r)
    | _, _ => none
  | _ => none
theorem kitBs_any {K : PySem.W.Frag} {t : String} : ∀ {cs : List V} {r : Bool}, kitBs t cs = some r → ∃ us, Paired ClsV cs us ∧ PySem.W.kitAny K (.type t) us = some r
  | [], r, h => by cases h; exact ⟨[], .nil, kitAny_nil⟩
  | c :: cs, r, h => by
    cases c <;> first
      | cases h
      | (rename_i n
         unfold kitBs at h
         split at h
         · rename_i b r' e e2
           cases h
           obtain ⟨us, p, q⟩ := kitBs_any e2
           refine ⟨_, .cons (.ty n) p, kitAny_cons (kit_ty e) (fun hb => ?_) fun hb => ?_⟩
           · rw [hb]; exact q
           · rw [hb]; rfl
         · cases h)
theorem kitBv : kitB "NoneType" "bool" = some false ∧ kitB "NoneType" "int" = some false ∧ kitB "NoneType" "str" = some false ∧ kitB "NoneType" "list" = some false ∧ kitB "NoneType" "tuple" = some false ∧ kitB "NoneType" "dict" = some false ∧ kitB "bool" "bool" = some true ∧ kitB "bool" "int" = some true ∧ kitB "bool" "str" = some false ∧ kitB "bool" "list" = some false ∧ kitB "bool" "tuple" = some false ∧ kitB "bool" "dict" = some false ∧ kitB "int" "bool" = some false ∧ kitB "int" "int" = some true ∧ kitB "int" "str" = some false ∧ kitB "int" "list" = some false ∧ kitB "int" "tuple" = some false ∧ kitB "int" "dict" = some false ∧ kitB "str" "bool" = some false ∧ kitB "str" "int" = some false ∧ kitB "str" "str" = some true ∧ kitB "str" "list" = some false ∧ kitB "str" "tuple" = some false ∧ kitB "str" "dict" = some false ∧ kitB "list" "bool" = some false ∧ kitB "list" "int" = some false ∧ kitB "list" "str" = some false ∧ kitB "list" "list" = some true ∧ kitB "list" "tuple" = some false ∧ kitB "list" "dict" = some false ∧ kitB "tuple" "bool" = some false ∧ kitB "tuple" "int" = some false ∧ kitB "tuple" "str" = some false ∧ kitB "tuple" "list" = some false ∧ kitB "tuple" "tuple" = some true ∧ kitB "tuple" "dict" = some false ∧ kitB "dict" "bool" = some false ∧ kitB "dict" "int" = some false ∧ kitB "dict" "str" = some false ∧ kitB "dict" "list" = some false ∧ kitB "dict" "tuple" = some false ∧ kitB "dict" "dict" = some true := by decide +kernel
/-- isinstance(x, T), T a built-in class, or a new tuple of such -/
def fIsi : List V → Hp → VK → Prop := fun xs H Q => match xs with
  | [x, .ty n] => ∃ t, tyOf H x = some t ∧ ∃ b, kitB t n = some b ∧ Q (.bl b) H
  | [x, .ref p] => match H p with
    | some (.tup cs) => ∃ t, tyOf H x = some t ∧ ∃ b, kitBs t cs = some b ∧ Q (.bl b) H
    | _ => False
  | _ => False
theorem call_fIsi : CallR X (.builtin "isinstance") fIsi := by
  intro pins s σ H xs us Q I r h
  match xs, r, h with
  | [x, .ty n], r, h =>
    obtain ⟨t, h1, b, h2, h3⟩ := h
    exact call_isi pins s σ H _ us Q I r ⟨x, .ty n, _, _, b, rfl, .ty n, tyX_of h1, kit_ty h2, h3⟩
  | [x, .ref p], r, h =>
    dsimp only [fIsi] at h
    split at h
    · obtain ⟨t, h1, b, h2, h3⟩ := h
      obtain ⟨ws, h4, h5⟩ := kitBs_any h2
      exact call_isiT pins s σ H _ us Q I r ⟨x, p, _, _, ws, b, rfl, by assumption, h4, tyX_of h1, h5, h3⟩
    · exact h.elim
/-! ### methods of built-in types -/
def isLst : V → Hp → Prop := fun x H => match x with
  | .ref p => match H p with
    | some (.lst _) => True
    | _ => False
  | _ => False
theorem isLst_ty {K : PySem.W.Frag} {x : V} {H : Hp} (h : isLst x H) : tyV K "list" x H := by
  unfold isLst at h
  split at h
  · split at h
    · exact .inl ⟨rfl, _, SqL.of (by assumption)⟩
    · exact h.elim
  · exact h.elim
def isDct : V → Hp → Prop := fun x H => match x with
  | .ref p => match H p with
    | some (.dK _) => True
    | _ => False
  | _ => False
theorem isDct_ty {K : PySem.W.Frag} {x : V} {H : Hp} (h : isDct x H) : tyV K "dict" x H := by
  unfold isDct at h
  split at h
  · split at h
    · exact .inr (.inr (.inl ⟨rfl, .inl ⟨_, by assumption⟩⟩))
    · exact h.elim
  · exact h.elim
def isStr : V → Hp → Prop := fun x _ => match x with
  | .str _ => True
  | _ => False
theorem isStr_ty {K : PySem.W.Frag} {x : V} {H : Hp} (h : isStr x H) : tyV K "str" x H := by
  cases x <;> first | exact rfl | exact False.elim h
section
variable {o e : Expr} {es : List Expr} {to te : TE} {t : TA} {apos cpos : Pos} {T id : String} {name : Str} {r : V → List V → Hp → VK → Prop} {ty : V → Hp → Prop}
def fBM0 (ty : V → Hp → Prop) (r : V → List V → Hp → VK → Prop) (to : TE) : TE := fun σ H Q => to σ H fun x H1 => ty x H1 ∧ r x [] H1 Q
def fBM (ty : V → Hp → Prop) (r : V → List V → Hp → VK → Prop) (to : TE) (t : TA) : TE := fun σ H Q => to σ H fun x H1 => ty x H1 ∧ t σ H1 fun xs H2 => r x xs H2 Q
theorem fe_bm0 (pa : PlainAttrs T) (slot : Slot T name id) (hty : typeOf (.builtin id) = pure (.type "method_descriptor")) (hT : ∀ {K : PySem.W.Frag} {x : V} {H : Hp}, ty x H → tyV K T x H) (hm : MtR X id r) (ho : PE X o to)
    (hbase : attributeBase o name X.env (eval o X.env) = eval o X.env := by rfl) (hline : (apos.endLine == cpos.line) = true := by rfl) : PE X (.Call (.Attribute o name apos) [] [] cpos) (fBM0 ty r to) := by
  refine ⟨fun pins s σ H Q I h => ?_⟩
  refine wpAny_Call_method0_late hbase hline (thn (ho.run pins s σ H _ I h) fun v s1 ⟨x, H1, I1, r1, tyx, q1⟩ => ?_)
  obtain ⟨h1, h2⟩ := tyV_is I1 r1 (hT tyx)
  exact ⟨T, id, pa, slot, hty, h1, h2, Calls.callWith_builtin rfl (PySem.evalArgs_none (hm pins s1 σ H1 x [] v [] Q I1 r1 .nil q1))⟩
theorem fe_bm (pa : PlainAttrs T) (slot : Slot T name id) (hty : typeOf (.builtin id) = pure (.type "method_descriptor")) (hT : ∀ {K : PySem.W.Frag} {x : V} {H : Hp}, ty x H → tyV K T x H) (hm : MtR X id r) (ho : PE X o to) (ha : PA X (e :: es) t)
    (hbase : attributeBase o name X.env (eval o X.env) = eval o X.env := by rfl)
    (hfew : ((backTo cpos (starEach (e :: es) X.env)).all (fun x => !x.1) && (backToKw cpos (keywordEach [] X.env)).all (fun x => x.1.isSome)
      && decide ((e :: es).length + ([] : List Keyword).length + (if ([] : List Keyword).isEmpty then 0 else 1) < 30)) = true := by rfl)
    (hline : (apos.endLine == cpos.line) = true := by rfl) (hs : starEach (e :: es) X.env = (false, eval e X.env) :: starEach es X.env := by rfl) (hplain : (backTo cpos (starEach es X.env)).any (·.1) = false := by rfl) :
    PE X (.Call (.Attribute o name apos) (e :: es) [] cpos) (fBM ty r to t) := by
  refine ⟨fun pins s σ H Q I h => ?_⟩
  refine wpAny_Call_method_late hbase hfew hline rfl (thn (ho.run pins s σ H _ I h) fun v s1 ⟨x, H1, I1, r1, tyx, q1⟩ => ?_)
  obtain ⟨h1, h2⟩ := tyV_is I1 r1 (hT tyx)
  refine ⟨T, id, pa, slot, hty, h1, h2, ?_⟩
  have hA := ha.run cpos pins s1 σ H1 _ I1 q1
  rw [hs] at hA ⊢
  refine Calls.callWith_builtin (by show (false || (backTo cpos (starEach es X.env)).any (·.1)) = false; rw [hplain] <;> rfl) (Calls.evalArgs_plain ?_)
  exact thn hA fun us s2 ⟨vs, H2, I2, r2, q2⟩ => hm pins s2 σ H2 x vs v us Q I2 r1 r2 q2
end
def fAppend : V → List V → Hp → VK → Prop := fun x vs H Q => match x, vs with
  | .ref l, [y] => match H l with
    | some (.lst xs) => xs.length < sizeLine ∧ Q .non (upd H l (.lst (xs ++ [y])))
    | _ => False
  | _, _ => False
theorem mt_fAppend : MtR X "list.append" fAppend := by
  intro pins s σ H x xs v us Q I rx rs h
  unfold fAppend at h
  split at h
  · split at h
    · exact mt_append pins s σ H _ _ v us Q I rx rs ⟨_, _, _, rfl, rfl, by assumption, h⟩
    · exact h.elim
  · exact h.elim
/-- a text's method with one text, by its function -/
def fS1 (g : Str → Str → V) : V → List V → Hp → VK → Prop := fun x vs H Q => match x, vs with
  | .str a, [.str b] => Q (g a b) H
  | _, _ => False
theorem mt_fS1 {id : String} {g : Str → Str → V} (h : MtR X id (fun x xs H Q => ∃ a b, x = .str a ∧ xs = [.str b] ∧ Q (g a b) H)) : MtR X id (fS1 g) := by
  intro pins s σ H x xs v us Q I rx rs q
  unfold fS1 at q
  split at q
  · exact h pins s σ H _ _ v us Q I rx rs ⟨_, _, rfl, rfl, q⟩
  · exact q.elim
theorem mt_fCount : MtR X "str.count" (fS1 fun a b => .int (Txt.count a b)) := mt_fS1 mt_count
theorem mt_fFind : MtR X "str.find" (fS1 fun a b => .int (Txt.find a b)) := mt_fS1 mt_find
theorem mt_fRfind : MtR X "str.rfind" (fS1 fun a b => .int (Txt.rfind a b)) := mt_fS1 mt_rfind
theorem mt_fStarts : MtR X "str.startswith" (fS1 fun a b => .bl (Txt.startswith a b)) := mt_fS1 mt_startswith
theorem mt_fEnds : MtR X "str.endswith" (fS1 fun a b => .bl (Txt.endswith a b)) := mt_fS1 mt_endswith

/-! ### statements, loops -/
theorem seq_ {t1 t2 : TS} {D : Ends} {σ : L2.St} {H : Hp} (h : ∀ N : L2.St → Hp → Prop, (∀ σ H, t2 D σ H → N σ H) → t1 { D with nx := N } σ H) : tSeq t1 t2 D σ H := h _ fun _ _ x => x
/-- what follows is a word of its own -/
theorem cut_ {t : TS} {D : Ends} {σ : L2.St} {H : Hp} (h : ∀ N : L2.St → Hp → Prop, (∀ σ H, D.nx σ H → N σ H) → t { D with nx := N } σ H) : t D σ H := h _ fun _ _ x => x
theorem ifs_ {c : TT} {t u : TS} {D : Ends} {σ : L2.St} {H : Hp} (h : c σ H fun b H1 => if b = true then t D σ H1 else u D σ H1) : tIfS c t u D σ H := h
/-- a loop that is at hand -/
def Loop (J : It) (g : TG) (tb : TS) (D : Ends) (σ : L2.St) (H : Hp) : Prop := ∃ W : Nat → Nat → L2.St → Hp → Prop, (∃ m, W 0 m σ H) ∧ ∀ i m σ H, W i m σ H →
  (J.stop i H ∧ D.nx σ H) ∨ (J.go i H ∧ ∃ N : L2.St → Hp → Prop, (∀ σ' H', N σ' H' → ∃ m', m' < m ∧ W (i + 1) m' σ' H') ∧ ∀ x H', J.yld i H x H' → g x σ H' fun σ2 H2 => tb { D with nx := N, ct := N, bk := D.nx } σ2 H2)
theorem for_eq (wi : TI) (g : TG) (tb : TS) (D : Ends) (σ : L2.St) (H : Hp) : tFor wi g tb D σ H = wi σ H fun J H1 => Loop J g tb D σ H1 := rfl
theorem for_ {wi : TI} {g : TG} {tb : TS} {D : Ends} {σ : L2.St} {H : Hp} (h : wi σ H fun J H1 => Loop J g tb D σ H1) : tFor wi g tb D σ H := h
theorem loop_range {lo : Int} {n : Nat} {g : TG} {tb : TS} {D : Ends} {σ : L2.St} {H : Hp} (Pv : Nat → L2.St → Hp → Prop) (h0 : Pv 0 σ H)
    (hs : ∀ i σ H, i < n → Pv i σ H → g (.int (lo + i)) σ H fun σ2 H2 => tb { D with nx := Pv (i + 1), ct := Pv (i + 1), bk := D.nx } σ2 H2) (hd : ∀ σ H, Pv n σ H → D.nx σ H) : Loop (Itr lo n) g tb D σ H := for_range Pv h0 hs hd
theorem loop_list {K : PySem.W.Frag} {a : Addr} {g : TG} {tb : TS} {D : Ends} {σ : L2.St} {H : Hp} (xs : List V) (Pv : Nat → L2.St → Hp → Prop) (h0 : Pv 0 σ H) (hl : ∀ i σ H, i ≤ xs.length → Pv i σ H → SqL K H a xs)
    (hs : ∀ i x σ H, xs[i]? = some x → Pv i σ H → g x σ H fun σ2 H2 => tb { D with nx := Pv (i + 1), ct := Pv (i + 1), bk := D.nx } σ2 H2) (hd : ∀ σ H, Pv xs.length σ H → D.nx σ H) : Loop (Itl K a) g tb D σ H := for_list Pv h0 hl hs hd
theorem loop_tup {K : PySem.W.Frag} {a : Addr} {g : TG} {tb : TS} {D : Ends} {σ : L2.St} {H : Hp} (xs : List V) (Pv : Nat → L2.St → Hp → Prop) (h0 : Pv 0 σ H) (hl : ∀ i σ H, i ≤ xs.length → Pv i σ H → SqT K H a xs)
    (hs : ∀ i x σ H, xs[i]? = some x → Pv i σ H → g x σ H fun σ2 H2 => tb { D with nx := Pv (i + 1), ct := Pv (i + 1), bk := D.nx } σ2 H2) (hd : ∀ σ H, Pv xs.length σ H → D.nx σ H) : Loop (Itt K a) g tb D σ H := for_tup Pv h0 hl hs hd
theorem loop_str {z : Str} {g : TG} {tb : TS} {D : Ends} {σ : L2.St} {H : Hp} (Pv : Nat → L2.St → Hp → Prop) (h0 : Pv 0 σ H)
    (hs : ∀ i c σ H, z.cps.toList[i]? = some c → Pv i σ H → g (.str ⟨#[c]⟩) σ H fun σ2 H2 => tb { D with nx := Pv (i + 1), ct := Pv (i + 1), bk := D.nx } σ2 H2) (hd : ∀ σ H, Pv z.length σ H → D.nx σ H) : Loop (Its z) g tb D σ H :=
  for_it walk_str Pv h0 (fun _ _ _ _ _ => trivial) (fun i x σ H H' hi p y => by
    obtain ⟨rfl, c, hc, rfl⟩ := y
    exact hs i c σ _ (by rw [Array.getElem?_toList]; exact hc) p) hd
end
end Fx

/-! ### defs by name -/
namespace Fx
open PySem PySem.Spec PyProof.Rows L2
/-- the def that stands at the module's name x keeps the promise sp -/
structure Has (P : Program) (w : World) (K : PySem.W.Frag) (mg : Str → Option Value) (base : Heap) (CX : CXT) (x : Str) (k : Nat) (ps : List Str) (sp : Sp) : Prop where
  ex : ∃ (f : Addr) (fd : FuncData), FnOk P w K mg base CX k f fd ps sp ∧ Binds K fd ps [] ∧ mg x = some (.ref f) ∧ PySem.W.keepIn K (.ref f) = true
/-- what the top has written of a def -/
structure FnFact (K : PySem.W.Frag) (x qual : Str) (st : Stmt) : Prop where
  ex : ∃ (f : Addr) (oc : Value) (od an : Option Addr) (sl : Array (Option Value)) (kV dc pm cd ct : Value),
    PySem.W.nsIn K mainGlobals x = some (some (.ref f)) ∧ K.lookup f = some ⟨oc, od, .func (PySem.W.fnOf x qual (defArgs st) (defBody st) (defScope st) .none kV dc pm an cd ct), sl⟩ ∧
    PySem.W.codeIn K cd qual = true ∧ PySem.W.keepIn K (.ref f) = true
theorem FnFact.of {K : PySem.W.Frag} {x qual : Str} {st : Stmt} {f : Addr} {oc : Value} {od an : Option Addr} {sl : Array (Option Value)} {kV dc pm cd ct : Value}
    (a : PySem.W.nsIn K mainGlobals x = some (some (.ref f))) (l : K.lookup f = some ⟨oc, od, .func (PySem.W.fnOf x qual (defArgs st) (defBody st) (defScope st) .none kV dc pm an cd ct), sl⟩)
    (c : PySem.W.codeIn K cd qual = true) (k : PySem.W.keepIn K (.ref f) = true) : FnFact K x qual st := ⟨f, oc, od, an, sl, kV, dc, pm, cd, ct, a, l, c, k⟩
/-- a def as it stands -/
structure At (K : PySem.W.Frag) (mg : Str → Option Value) (x qual : Str) (st : Stmt) (ps : List Str) : Prop where
  ex : ∃ (f : Addr) (fd : FuncData), Fun K x qual st f fd ∧ Binds K fd ps [] ∧ mg x = some (.ref f)
theorem At.of {K : PySem.W.Frag} {mg : Str → Option Value} {x qual : Str} {st : Stmt} {ps : List Str} {h : Heap} (X : K.In h) (G : h.Ns mainGlobals mg) (F : FnFact K x qual st)
    (hb : ∀ (kV doc pm : Value) (an : Option Addr) (cdv ct : Value) (us : List Value), us.length = ps.length → bindArgs (PySem.W.fnOf x qual (defArgs st) (defBody st) (defScope st) .none kV doc pm an cdv ct) ⟨us, []⟩ = pure (ps.zip us)) : At K mg x qual st ps := by
  obtain ⟨f, oc, od, an, sl, kV, dc, pm, cd, ct, a, l, c, k⟩ := F.ex
  have F1 := fun_mk (st := st) l c k
  exact ⟨_, _, F1, F1.binds hb, PySem.W.mg_of X G a⟩
section
variable {P : Program} {w : World} {K : PySem.W.Frag} {mg : Str → Option Value} {base : Heap}
theorem has_of {x qual : Str} {st : Stmt} {N ps : List Str} {k : Nat} {sp : Sp} (A : At K mg x qual st ps) (S : FnScope N ps (defScope st)) (len : ∀ vs H Q E, sp vs H Q E → vs.length = ps.length)
    (hbody : ∀ (cdv : Value) (f : Addr) (A : Around) (outer : List Env) (s : Shared) (H : Hp) (vs : List V) (Q : VK) (E : XK), Room k (A.deeper (envOfC qual (defScope st) s.heap.objs.size f cdv)) → sp vs H Q E →
      ∃ t, PSs (cxOf CX0 P w K mg base N qual (defScope st) f cdv A outer s H E).nox (defBody st) t ∧ t { nx := fun _ H' => Q .non H', rt := Q } (start N vs) H) : Has P w K mg base CX0 x (k + 1) ps sp := by
  obtain ⟨f, fd, F, B, G⟩ := A.ex
  exact ⟨f, fd, F.ok S len fun cdv A outer s H vs Q E hr h => hbody cdv f A outer s H vs Q E hr h, B, G, F.kp⟩
def spNone : Sp := fun _ _ _ _ => False
/-- a def of which nothing is promised -/
theorem At.never {x qual : Str} {st : Stmt} {ps : List Str} (A : At K mg x qual st ps) : Has P w K mg base CX0 x 0 ps spNone := by
  obtain ⟨f, fd, F, B, G⟩ := A.ex
  exact ⟨f, fd, ⟨fun _ _ _ _ h => h.elim, fun _ _ _ _ _ _ _ _ _ _ _ _ _ h => h.elim⟩, B, G, F.kp⟩
theorem Has.mono {CX : CXT} {x : Str} {j k : Nat} {ps : List Str} {sp : Sp} (h : Has P w K mg base CX x j ps sp) (hk : j ≤ k) : Has P w K mg base CX x k ps sp := by
  obtain ⟨f, fd, F, B, G, kp⟩ := h.ex
  exact ⟨f, fd, F.mono hk, B, G, kp⟩
end
section
variable {X : Cx} {CX : CXT} {k : Nat} {x : Str} {p pos : Pos} {e : Expr} {es : List Expr} {t : TA} {ps : List Str} {sp : Sp} {E : XK}
theorem fe_call (h : Has X.prog X.w X.K X.mg X.base CX x k ps sp) (hr : Room k X.A) (hg : Gl X x) (hx : Passes CX X E) (ha : PA X (e :: es) t) (hd : (x == ("__debug__" : Str)) = false := by decide)
    (hs : starEach (e :: es) X.env = (false, eval e X.env) :: starEach es X.env := by rfl) (hplain : (backTo pos (starEach es X.env)).any (·.1) = false := by rfl) : PE X (.Call (.Name x p) (e :: es) [] pos) (tCall sp [] E t) := by
  obtain ⟨f, fd, F, B, G, kp⟩ := h.ex
  exact pe_call F hr hg G kp B .nil hx ha hd hs hplain
theorem fe_call0 (h : Has X.prog X.w X.K X.mg X.base CX x k ps sp) (hr : Room k X.A) (hg : Gl X x) (hx : Passes CX X E) (hd : (x == ("__debug__" : Str)) = false := by decide) : PE X (.Call (.Name x p) [] [] pos) (tCall sp [] E tNil) := by
  obtain ⟨f, fd, F, B, G, kp⟩ := h.ex
  exact pe_call0 F hr hg G kp B .nil hx hd
end
end Fx

namespace Fx
open PySem PySem.Spec PyProof.Rows L2
section
variable {X : Cx}
/-- a built-in class as a value -/
theorem fe_ty {x : Str} {n : String} {pos : Pos} (hg : Gl X x) (hm : X.mg x = none) (hv : bootBuiltins x = some (.type n)) (hn : x ≠ "__name__" := by decide) (hd : (x == ("__debug__" : Str)) = false := by decide) : PE X (.Name x pos) (tC (.ty n)) := pe_bltn hg hm hv rfl hn hd
end
/-! ### texts as lists -/
def S (l : List Nat) : Str := ⟨l.toArray⟩
def L (z : Str) : List Nat := z.cps.toList
theorem S_L (z : Str) : S (L z) = z := by
  obtain ⟨⟨l⟩⟩ := z
  rfl
theorem L_S (l : List Nat) : L (S l) = l := rfl
theorem S_len (l : List Nat) : (S l).length = l.length := by simp [S, Str.length]
theorem L_len (z : Str) : (L z).length = z.length := by simp [L, Str.length]
theorem S_app (a b : List Nat) : S a ++ S b = S (a ++ b) := by
  show (⟨a.toArray ++ b.toArray⟩ : Str) = ⟨(a ++ b).toArray⟩
  simp
theorem S_cps (l : List Nat) : (S l).cps.toList = l := by simp [S]
theorem S_one (c : Nat) : (⟨#[c]⟩ : Str) = S [c] := rfl
theorem S_inj {a b : List Nat} (h : S a = S b) : a = b := by
  have := congrArg L h
  exact this
theorem cut_take (l : List Nat) {o : Int} (h0 : 0 ≤ o) (h1 : o ≤ l.length) : cutS (S l) none (some o) = S (l.take o.toNat) := by
  unfold cutS
  obtain ⟨k, rfl⟩ := Int.eq_ofNat_of_zero_le h0
  have e : HT.sIx (S l).length (S l).length (some (k : Int)) = min k (S l).length := HT.sIx_nat _ _ _
  rw [HT.sIx_none, e, S_len, S_cps]
  have : min k l.length = k := by omega
  rw [this]
  simp [S]
theorem cut_drop (l : List Nat) {o : Int} (h0 : 0 ≤ o) (h1 : o ≤ l.length) : cutS (S l) (some o) none = S (l.drop o.toNat) := by
  unfold cutS
  obtain ⟨k, rfl⟩ := Int.eq_ofNat_of_zero_le h0
  have e : HT.sIx (S l).length 0 (some (k : Int)) = min k (S l).length := HT.sIx_nat _ _ _
  rw [HT.sIx_none, e, S_len, S_cps]
  have : min k l.length = k := by omega
  rw [this]
  have : (l.drop k).take (l.length - k) = l.drop k := List.take_of_length_le (by rw [List.length_drop]; omega)
  simp [S, this]
theorem cut_mid (l : List Nat) {a b : Int} (h0 : 0 ≤ a) (h1 : a ≤ b) (h2 : b ≤ l.length) : cutS (S l) (some a) (some b) = S ((l.drop a.toNat).take (b.toNat - a.toNat)) := by
  unfold cutS
  obtain ⟨k, rfl⟩ := Int.eq_ofNat_of_zero_le h0
  obtain ⟨m, rfl⟩ := Int.eq_ofNat_of_zero_le (Int.le_trans h0 h1)
  have e1 : HT.sIx (S l).length 0 (some (k : Int)) = min k (S l).length := HT.sIx_nat _ _ _
  have e2 : HT.sIx (S l).length (S l).length (some (m : Int)) = min m (S l).length := HT.sIx_nat _ _ _
  rw [e1, e2, S_len, S_cps]
  have q1 : min k l.length = k := by omega
  have q2 : min m l.length = m := by omega
  rw [q1, q2]
  rfl
theorem len_line {n : Nat} (h : n ≤ 100000) : n ≤ sizeLine := Nat.le_trans h (by decide)
theorem len_line' {n : Nat} (h : n < 100000) : n < sizeLine := Nat.lt_of_lt_of_le h (by decide)
theorem small_div {i j : Int} (h : 0 < j) (h2 : j < 1073741824) : CDivW i j := wide_div (b := 30) h (by omega) (by decide) (by decide)
theorem mul_left {i j : Int} (h : -(2 ^ 64) < i) (h2 : i < 2 ^ 64) : IntMulOk i j := CMul.ok (.inl ⟨h, h2⟩)
theorem mul_right {i j : Int} (h : -(2 ^ 64) < j) (h2 : j < 2 ^ 64) : IntMulOk i j := CMul.ok (.inr ⟨h, h2⟩)
theorem same_mut {H H' : Hp} {p : Addr} {o : HO} (s : Same H H') (h : H p = none) : Same H (upd H' p o) := fun b x e => by
  rw [upd_ne (ne_of_none e h)]
  exact s b x e
theorem ex2 {α β : Type} {a : α} {b : β} {P : α → β → Prop} : (∃ i j, (a = i ∧ b = j) ∧ P i j) ↔ P a b := ⟨fun ⟨_, _, ⟨e1, e2⟩, h⟩ => e1 ▸ e2 ▸ h, fun h => ⟨a, b, ⟨rfl, rfl⟩, h⟩⟩
theorem at_ints {ns : List Int} {i : Int} (h0 : 0 ≤ i) (h1 : i < ns.length) : ∃ z, atI (ns.map V.int) i = some (.int z) := by
  obtain ⟨k, rfl⟩ := Int.eq_ofNat_of_zero_le h0
  have hk : k < ns.length := by omega
  exact ⟨ns[k], atI_nat (by rw [List.getElem?_map, List.getElem?_eq_getElem hk]; rfl)⟩
theorem at_strs {ns : List Str} {i : Int} (h0 : 0 ≤ i) (h1 : i < ns.length) : ∃ z, z ∈ ns ∧ atI (ns.map V.str) i = some (.str z) := by
  obtain ⟨k, rfl⟩ := Int.eq_ofNat_of_zero_le h0
  have hk : k < ns.length := by omega
  exact ⟨ns[k], List.getElem_mem hk, atI_nat (by rw [List.getElem?_map, List.getElem?_eq_getElem hk]; rfl)⟩
theorem getD_eq {α : Type} {ns : List α} {i : Nat} (d : α) (h : i < ns.length) : ns.getD i d = ns[i] := by
  simp [List.getD, List.getElem?_eq_getElem h]
theorem at_getD {ns : List Str} {i : Int} (d : Str) (h0 : 0 ≤ i) (h1 : i < ns.length) : atI (ns.map V.str) i = some (.str (ns.getD i.toNat d)) := by
  obtain ⟨k, rfl⟩ := Int.eq_ofNat_of_zero_le h0
  have hk : k < ns.length := by omega
  refine atI_nat ?_
  rw [List.getElem?_map, List.getElem?_eq_getElem hk, Int.toNat_natCast, getD_eq _ hk]
  rfl
theorem at_getN {ns : List Nat} {i : Int} (d : Nat) (h0 : 0 ≤ i) (h1 : i < ns.length) : atI ns i = some (ns.getD i.toNat d) := by
  obtain ⟨k, rfl⟩ := Int.eq_ofNat_of_zero_le h0
  have hk : k < ns.length := by omega
  refine atI_nat ?_
  rw [List.getElem?_eq_getElem hk, Int.toNat_natCast, getD_eq _ hk]
theorem getD_mem {α : Type} {ns : List α} {i : Nat} (d : α) (h : i < ns.length) : ns.getD i d ∈ ns := by
  rw [getD_eq _ h]
  exact List.getElem_mem h
theorem at_ints_mem {ns : List Int} {i : Int} (h0 : 0 ≤ i) (h1 : i < ns.length) : ∃ z, z ∈ ns ∧ atI (ns.map V.int) i = some (.int z) := by
  obtain ⟨k, rfl⟩ := Int.eq_ofNat_of_zero_le h0
  have hk : k < ns.length := by omega
  exact ⟨ns[k], List.getElem_mem hk, atI_nat (by rw [List.getElem?_map, List.getElem?_eq_getElem hk]; rfl)⟩
theorem emod_lo (r : Int) {m : Int} (h : 0 < m) : 0 ≤ r % m := Int.emod_nonneg _ (by omega)
theorem emod_hi (r : Int) {m : Int} (h : 0 < m) : r % m < m := Int.emod_lt_of_pos _ h
theorem at_vs {xs : List V} {i : Int} (h0 : 0 ≤ i) (h1 : i < xs.length) : ∃ z, z ∈ xs ∧ atI xs i = some z := by
  obtain ⟨k, rfl⟩ := Int.eq_ofNat_of_zero_le h0
  have hk : k < xs.length := by omega
  exact ⟨xs[k], List.getElem_mem hk, atI_nat (List.getElem?_eq_getElem hk)⟩
end Fx

/-! ### constants of the module, more of texts -/
namespace Fx
open PySem PySem.Spec PyProof.Rows L2
theorem one_list (c : Nat) : (⟨#[c]⟩ : Str).cps.toList = [c] := rfl
theorem absV_rel {u : Value} {x : V} (h : absV u = some x) : RelV x u := by
  cases u <;> first
    | (cases h; rfl)
    | (cases h; exact ⟨_, rfl⟩)
    | cases h
def absVs : List Value → Option (List V)
  | [] => some []
  | u :: us => match absV u, absVs us with
    | some x, some xs => some (x :: xs)
    | _, _ => none
theorem absVs_rel : ∀ {us : List Value} {xs : List V}, absVs us = some xs → Vals xs us
  | [], xs, h => by cases h; exact .nil
  | u :: us, xs, h => by
    unfold absVs at h
    split at h
    · rename_i x ys h1 h2
      cases h
      exact .cons (absV_rel h1) (absVs_rel h2)
    · cases h
/-- a tuple of the module -/
structure TupFact (K : PySem.W.Frag) (x : Str) (xs : List V) : Prop where
  ex : ∃ (a : Addr) (od : Option Addr) (its : Array Value) (n : Nat) (sl : Array (Option Value)), PySem.W.nsIn K mainGlobals x = some (some (.ref a)) ∧ K.lookup a = some ⟨.type "tuple", od, .seq its n, sl⟩ ∧ absVs its.toList = some xs ∧ its.size ≤ 1000
theorem TupFact.of {K : PySem.W.Frag} {x : Str} {xs : List V} {a : Addr} {od : Option Addr} {its : Array Value} {n : Nat} {sl : Array (Option Value)} (h1 : PySem.W.nsIn K mainGlobals x = some (some (.ref a))) (h2 : K.lookup a = some ⟨.type "tuple", od, .seq its n, sl⟩)
    (h3 : absVs its.toList = some xs) (h4 : its.size ≤ 1000) : TupFact K x xs := ⟨a, od, its, n, sl, h1, h2, h3, h4⟩
theorem gstr_of {K : PySem.W.Frag} {x z : Str} {t : Tok} (h : PySem.W.nsIn K mainGlobals x = some (some (.str z t))) : ∃ t, PySem.W.nsIn K mainGlobals x = some (some (.str z t)) := ⟨t, h⟩
theorem gint_of {K : PySem.W.Frag} {x : Str} {z : Int} {t : Tok} (h : PySem.W.nsIn K mainGlobals x = some (some (.int z t))) : ∃ t, PySem.W.nsIn K mainGlobals x = some (some (.int z t)) := ⟨t, h⟩
def GTup (K : PySem.W.Frag) (mg : Str → Option Value) (x : Str) (xs : List V) : Prop := ∃ a, mg x = some (.ref a) ∧ ∀ H, SqT K H a xs
theorem TupFact.get {K : PySem.W.Frag} {mg : Str → Option Value} {x : Str} {xs : List V} {h : Heap} (X : K.In h) (G : h.Ns mainGlobals mg) (F : TupFact K x xs) : GTup K mg x xs := by
  obtain ⟨a, od, its, n, sl, h1, h2, h3, h4⟩ := F.ex
  exact ⟨a, PySem.W.mg_of X G h1, fun H => .inr ⟨_, its, n, h2, rfl, rfl, Nat.le_trans h4 (by decide), absVs_rel h3⟩⟩
def fGt_ (K : PySem.W.Frag) (xs : List V) : TE := fun _ H Q => ∀ a, (∀ H', SqT K H' a xs) → Q (.ref a) H
section
variable {X : Cx} {x : Str} {pos : Pos}
theorem fe_gstr {z : Str} (hg : Gl X x) (h : ∃ t, X.mg x = some (.str z t)) (hd : (x == ("__debug__" : Str)) = false := by decide) : PE X (.Name x pos) (tC (.str z)) := by
  obtain ⟨t, h⟩ := h
  exact pe_glob hg h ⟨t, rfl⟩ hd
theorem fe_gint {z : Int} (hg : Gl X x) (h : ∃ t, X.mg x = some (.int z t)) (hd : (x == ("__debug__" : Str)) = false := by decide) : PE X (.Name x pos) (tC (.int z)) := by
  obtain ⟨t, h⟩ := h
  exact pe_glob hg h ⟨t, rfl⟩ hd
theorem fe_gtup {xs : List V} (hg : Gl X x) (h : GTup X.K X.mg x xs) (hd : (x == ("__debug__" : Str)) = false := by decide) : PE X (.Name x pos) (fGt_ X.K xs) := by
  obtain ⟨a, h, hs⟩ := h
  exact pe_wk (pe_glob hg h (v := .ref a) rfl hd) fun σ H Q q => q a hs
/-- ''.join(list or tuple of texts) -/
def fJoin (K : PySem.W.Frag) : V → List V → Hp → VK → Prop := fun x vs H Q => match x, vs with
  | .str a, [.ref p] => ∃ ys : List Str, Rl K H p (ys.map V.str) ∧ (ys.map (·.length)).sum + ys.length * a.length ≤ 16777216 ∧ Q (.str (Txt.join a ys)) H
  | _, _ => False
theorem mt_fJoin : MtR X "str.join" (fJoin X.K) := by
  intro pins s σ H x xs v us Q I rx rs q
  unfold fJoin at q
  split at q
  · obtain ⟨ys, h1, h2, h3⟩ := q
    exact mt_join pins s σ H _ _ v us Q I rx rs ⟨_, _, ys, rfl, rfl, h1, h2, h3⟩
  · exact q.elim
def fLstripC : V → List V → Hp → VK → Prop := fun x vs H Q => match x, vs with
  | .str a, [.str b] => a.length ≤ sizeLine ∧ Q (.str (Txt.lstripChars a b)) H
  | _, _ => False
theorem mt_fLstripC : MtR X "str.lstrip" fLstripC := by
  intro pins s σ H x xs v us Q I rx rs q
  unfold fLstripC at q
  split at q
  · exact mt_lstripChars pins s σ H _ _ v us Q I rx rs ⟨_, _, rfl, rfl, q⟩
  · exact q.elim
end
theorem join_ones : ∀ cs : List Nat, Txt.join (S []) (cs.map fun c => S [c]) = S cs := by
  intro cs
  show (⟨_⟩ : Str) = ⟨_⟩
  congr 1
  cases cs with
  | nil => rfl
  | cons c r =>
    have go : ∀ (r : List Nat) (acc : List Nat), ((r.map fun c => S [c]).foldl (fun (acc : Array Nat) (p : Str) => acc ++ (S []).cps ++ p.cps) acc.toArray) = (acc ++ r).toArray := by
      intro r
      induction r with
      | nil => intro acc; simp
      | cons d r ih =>
        intro acc
        rw [List.map_cons, List.foldl_cons]
        have e : acc.toArray ++ (S []).cps ++ (S [d]).cps = (acc ++ [d]).toArray := by simp [S]
        rw [e, ih, List.append_assoc]
        rfl
    have := go r [c]
    simpa [S] using this
theorem drop_tw (p : Nat → Bool) : ∀ l : List Nat, l.drop (l.takeWhile p).length = l.dropWhile p
  | [] => rfl
  | c :: r => by
    rw [List.takeWhile_cons, List.dropWhile_cons]
    by_cases h : p c = true
    · rw [if_pos h, if_pos h, List.length_cons, List.drop_succ_cons, drop_tw p r]
    · rw [if_neg h, if_neg h, List.length_nil, List.drop_zero]
theorem lstrip_zero (l : List Nat) (b : Nat) : Txt.lstripChars (S l) (S [b]) = S (l.dropWhile (· == b)) := by
  have hp : ((S [b]).cps.contains : Nat → Bool) = (· == b) := by
    funext c
    simp only [S, List.contains_toArray, List.contains_cons, List.contains_nil, Bool.or_false]
  unfold Txt.lstripChars
  rw [hp]
  have ht : (stripLo (· == b) true (S l)) = (l.takeWhile (· == b)).length := rfl
  unfold Txt.stripBy
  split
  · rename_i h
    unfold stripSame at h
    have h0 : stripLo (· == b) true (S l) = 0 := by
      have := (Bool.and_eq_true_iff.mp h).1
      exact eq_of_beq this
    rw [ht] at h0
    rw [← drop_tw, h0, List.drop_zero]
  · unfold stripped
    rw [ht]
    have e : stripHi (· == b) false (S l) (l.takeWhile (· == b)).length = (S l).length := rfl
    rw [e, ← drop_tw]
    have := StrLaws.strSub_toList (S l) (l.takeWhile (· == b)).length (S l).length
    rw [← S_L (Builtin.Str.strSub _ _ _)]
    congr 1
    show (Builtin.Str.strSub _ _ _).cps.toList = _
    rw [this, S_cps, S_len]
    exact List.take_of_length_le (by rw [List.length_drop]; exact Nat.le_refl _)
end Fx

set_option Elab.async false
set_option linter.all false
set_option maxRecDepth 100000
/-! Ox: objects of the program's own classes, over Fx. -/
namespace Fx
open PySem PySem.Spec PyProof.Rows L2
/-! ### weakening within -/
section
variable {X : Cx}
/-- whatever follows may be weaker -/
def clos (t : TE) : TE := fun σ H Q => ∃ Q0 : VK, t σ H Q0 ∧ ∀ v H1, Q0 v H1 → Q v H1
def closA (t : TA) : TA := fun σ H Q => ∃ Q0, t σ H Q0 ∧ ∀ v H1, Q0 v H1 → Q v H1
theorem pe_clos {e : Expr} {t : TE} (h : PE X e t) : PE X e (clos t) := ⟨fun pins s σ H Q I ⟨Q0, h0, w⟩ => wpAny_mono (h.run pins s σ H Q0 I h0) (fun u s' ⟨v, H', I', r, q⟩ => ⟨v, H', I', r, w v H' q⟩) fun _ _ x => x⟩
theorem pa_clos {es : List Expr} {t : TA} (h : PA X es t) : PA X es (closA t) := ⟨fun pos pins s σ H Q I ⟨Q0, h0, w⟩ => wpAny_mono (h.run pos pins s σ H Q0 I h0) (fun u s' ⟨v, H', I', r, q⟩ => ⟨v, H', I', r, w v H' q⟩) fun _ _ x => x⟩
end
/-! ### heaps but for some places -/
def Keep (ps : List Addr) (H H' : Hp) : Prop := ∀ a o, a ∉ ps → H a = some o → H' a = some o
theorem Keep.refl {ps : List Addr} {H : Hp} : Keep ps H H := fun _ _ _ h => h
theorem Keep.trans {ps : List Addr} {H H1 H2 : Hp} (h : Keep ps H H1) (k : Keep ps H1 H2) : Keep ps H H2 := fun a o n e => k a o n (h a o n e)
theorem Keep.of {ps : List Addr} {H H' : Hp} (s : Same H H') : Keep ps H H' := fun a o _ e => s a o e
theorem Keep.mono {ps qs : List Addr} {H H' : Hp} (h : Keep ps H H') (m : ∀ a ∈ ps, a ∈ qs) : Keep qs H H' := fun a o n e => h a o (fun z => n (m a z)) e
theorem Keep.same {H H' : Hp} (h : Keep [] H H') : Same H H' := fun a o e => h a o (by simp) e
theorem Keep.upd {ps : List Addr} {H H' : Hp} {p : Addr} {o : HO} (h : Keep ps H H') (m : p ∈ ps) : Keep ps H (L2.upd H' p o) := fun a x n e => by
  rw [upd_ne (fun q => n (by rw [q]; exact m))]
  exact h a x n e
theorem Keep.updN {ps : List Addr} {H H' : Hp} {p : Addr} {o : HO} (h : Keep ps H H') (m : H p = none) : Keep ps H (L2.upd H' p o) := fun a x n e => by
  rw [upd_ne (ne_of_none e m)]
  exact h a x n e
/-- what the caller does not know -/
theorem Keep.drop {p : Addr} {ps : List Addr} {H H' : Hp} (h : Keep (p :: ps) H H') (m : H p = none) : Keep ps H H' := fun a x n e => h a x (by
  intro q
  rcases List.mem_cons.mp q with rfl | q
  · rw [m] at e; cases e
  · exact n q) e
/-- the new object's heap, when only it has been changed since -/
theorem mk_same {H H0 : Hp} {y : Addr} {o : HO} (s : Same H H0) (n : H y = none) : Same H (L2.upd H0 y o) := same_mut s n
theorem mk_same2 {H H0 : Hp} {y : Addr} {o o' : HO} (s : Same H H0) (n : H y = none) : Same H (L2.upd (L2.upd H0 y o) y o') := same_mut (same_mut s n) n
theorem upd2 {H : Hp} {y : Addr} {o o' : HO} : L2.upd (L2.upd H y o) y o' = L2.upd H y o' := by
  funext a
  by_cases h : a = y
  · subst h; rw [upd_same, upd_same]
  · rw [upd_ne h, upd_ne h, upd_ne h]
theorem SqL.keep {K : PySem.W.Frag} {ps : List Addr} {H H' : Hp} {a : Addr} {xs : List V} (k : Keep ps H H') (n : a ∉ ps) (h : SqL K H a xs) : SqL K H' a xs :=
  h.elim (fun h => .inl (h.elim (fun h => .inl (k _ _ n h)) fun ⟨o, h⟩ => .inr ⟨o, k _ _ n h⟩)) fun h => .inr h
/-! ### fields -/
def fFld (cs : List Addr) (f : Str) (ta : TE) : TE := fun σ H Q => ta σ H fun x H1 => match x with
  | .ref a => match H1 a with
    | some (.ins C _ fs) => C ∈ cs ∧ match fs.lookup f with
      | some v => Q v H1
      | none => False
    | _ => False
  | _ => False
def fSetF (cs : List Addr) (f : Str) (ta tv : TE) : TS := fun D σ H => tv σ H fun y H1 => ta σ H1 fun x H2 => match x with
  | .ref a => match H2 a with
    | some (.ins C dx fs) => C ∈ cs ∧ fs.length < 1000 ∧ D.nx σ (upd H2 a (.ins C dx (putF f y fs)))
    | _ => False
  | _ => False
/-- the classes that know an attribute only by their instances -/
def Plain (K : PySem.W.Frag) (cs : List Addr) (f : Str) : Prop := ∀ C ∈ cs, Cls K C ∧ NoAttr K C f
section
variable {X : Cx} {o e value : Expr} {f : Str} {pos pos' : Pos} {ta tv : TE} {cs : List Addr}
theorem fe_fld (he : PE X e ta) (hc : Plain X.K cs f) (hb : attributeBase e f X.env (eval e X.env) = eval e X.env) : PE X (.Attribute e f pos) (fFld cs f ta) := by
  refine pe_wk (pe_fld (pe_clos he) hb) fun σ H Q q => ⟨_, q, fun x H1 q => ?_⟩
  split at q
  · split at q
    · obtain ⟨m, q⟩ := q
      split at q
      · exact ⟨_, _, _, _, _, rfl, by assumption, (hc _ m).1, (hc _ m).2, by assumption, q⟩
      · exact q.elim
    · exact q.elim
  · exact q.elim
theorem fs_fld (ha : PE X o ta) (hv : PE X value tv) (hc : Plain X.K cs f) (hs : swapsWith value (some (.Attribute o f pos')) pos.line X.env = pure false) : PS X (.Assign [.Attribute o f pos'] value pos) (fSetF cs f ta tv) := by
  refine ps_wk (ps_fld (pe_clos ha) (pe_clos hv) hs) fun D σ H q => ⟨_, q, fun y H1 q => ⟨_, q, fun x H2 q => ?_⟩⟩
  split at q
  · split at q
    · exact ⟨_, _, _, _, rfl, by assumption, (hc _ q.1).1, (hc _ q.1).2, q.2.1, q.2.2⟩
    · exact q.elim
  · exact q.elim
end
/-- {} -/
def fDnew : TE := fun _ H Q => ∀ p H2, H p = none → Same H H2 → H2 p = some (.dK []) → Q (.ref p) H2
theorem fe_dnew {X : Cx} {pos : Pos} : PE X (.Dict [] [] pos) fDnew := pe_wk pe_dnewK fun σ H Q q => fun p np => q p _ np (same_new np) upd_same
theorem rl_keep {K : PySem.W.Frag} {H H' : Hp} {a : Addr} {xs : List V} (s : Same H H') (h : Rl K H a xs) : Rl K H' a xs := h.elim (fun h => .inl (s.seq h)) fun h => .inr (SqT.ext h s)
/-! ### methods, making -/
/-- a method as it stands in its class -/
structure AtM (K : PySem.W.Frag) (C : Addr) (x qual : Str) (st : Stmt) (ps : List Str) : Prop where
  ex : ∃ (f : Addr) (fd : FuncData), Fun K x qual st f fd ∧ Binds K fd ps [] ∧ Meth K C x f
structure MFact (K : PySem.W.Frag) (C : Addr) (x qual : Str) (st : Stmt) : Prop where
  ex : ∃ (f : Addr) (oc : Value) (od an : Option Addr) (sl : Array (Option Value)) (kV dc pm cd ct : Value),
    PySem.W.findIn K (.ref C) x = some (some (.ref f)) ∧ K.lookup f = some ⟨oc, od, .func (PySem.W.fnOf x qual (defArgs st) (defBody st) (defScope st) .none kV dc pm an cd ct), sl⟩ ∧
    PySem.W.codeIn K cd qual = true ∧ PySem.W.keepIn K (.ref f) = true ∧ PySem.W.isFn K (.ref f) = true
theorem MFact.of {K : PySem.W.Frag} {C : Addr} {x qual : Str} {st : Stmt} {f : Addr} {oc : Value} {od an : Option Addr} {sl : Array (Option Value)} {kV dc pm cd ct : Value}
    (a : PySem.W.findIn K (.ref C) x = some (some (.ref f))) (l : K.lookup f = some ⟨oc, od, .func (PySem.W.fnOf x qual (defArgs st) (defBody st) (defScope st) .none kV dc pm an cd ct), sl⟩)
    (c : PySem.W.codeIn K cd qual = true) (k : PySem.W.keepIn K (.ref f) = true) (i : PySem.W.isFn K (.ref f) = true) : MFact K C x qual st := ⟨f, oc, od, an, sl, kV, dc, pm, cd, ct, a, l, c, k, i⟩
theorem AtM.of {K : PySem.W.Frag} {C : Addr} {x qual : Str} {st : Stmt} {ps : List Str} (F : MFact K C x qual st)
    (hb : ∀ (kV doc pm : Value) (an : Option Addr) (cdv ct : Value) (us : List Value), us.length = ps.length → bindArgs (PySem.W.fnOf x qual (defArgs st) (defBody st) (defScope st) .none kV doc pm an cdv ct) ⟨us, []⟩ = pure (ps.zip us)) : AtM K C x qual st ps := by
  obtain ⟨f, oc, od, an, sl, kV, dc, pm, cd, ct, a, l, c, k, i⟩ := F.ex
  have F1 := fun_mk (st := st) l c k
  exact ⟨_, _, F1, F1.binds hb, ⟨a, i, k⟩⟩
/-- a method that keeps a promise (of the object and the arguments) -/
structure HasM (P : Program) (w : World) (K : PySem.W.Frag) (mg : Str → Option Value) (base : Heap) (CX : CXT) (C : Addr) (x : Str) (k : Nat) (ps : List Str) (sp : Sp) : Prop where
  ex : ∃ (f : Addr) (fd : FuncData), FnOk P w K mg base CX k f fd ps sp ∧ Binds K fd ps [] ∧ Meth K C x f
/-- a class whose making keeps a promise (of the arguments) -/
structure HasC (P : Program) (w : World) (K : PySem.W.Frag) (mg : Str → Option Value) (base : Heap) (CX : CXT) (C : Addr) (x : Str) (k : Nat) (ps : List Str) (sp : Sp) : Prop where
  ex : ∃ (f : Addr) (fd : FuncData) (sp' : Sp), FnOk P w K mg base CX k f fd ps sp' ∧ Binds K fd ps [] ∧ Mk K C f ∧ mg x = some (.ref C) ∧
    ∀ vs H Q E, sp vs H Q E → ∀ y dx H0, H y = none → Same H H0 → H0 y = some (.ins C dx []) → sp' (.ref y :: vs) H0 (fun v H2 => v = .non ∧ Q (.ref y) H2) E
section
variable {P : Program} {w : World} {K : PySem.W.Frag} {mg : Str → Option Value} {base : Heap}
theorem hasM_of {C : Addr} {x qual : Str} {st : Stmt} {N ps : List Str} {k : Nat} {sp : Sp} (A : AtM K C x qual st ps) (S : FnScope N ps (defScope st)) (len : ∀ vs H Q E, sp vs H Q E → vs.length = ps.length)
    (hbody : ∀ (cdv : Value) (f : Addr) (A : Around) (outer : List Env) (s : Shared) (H : Hp) (vs : List V) (Q : VK) (E : XK), Room k (A.deeper (envOfC qual (defScope st) s.heap.objs.size f cdv)) → sp vs H Q E →
      ∃ t, PSs (cxOf CX0 P w K mg base N qual (defScope st) f cdv A outer s H E).nox (defBody st) t ∧ t { nx := fun _ H' => Q .non H', rt := Q } (start N vs) H) : HasM P w K mg base CX0 C x (k + 1) ps sp := by
  obtain ⟨f, fd, F, B, G⟩ := A.ex
  exact ⟨f, fd, F.ok S len fun cdv A outer s H vs Q E hr h => hbody cdv f A outer s H vs Q E hr h, B, G⟩
/-- what a class is for making -/
structure MkAt (K : PySem.W.Frag) (mg : Str → Option Value) (x : Str) (C : Addr) : Prop where
  makes : PySem.W.makesIn K C = true
  kp : PySem.W.keepIn K (.ref C) = true
  at_ : mg x = some (.ref C)
theorem hasC_of {C : Addr} {x qual : Str} {st : Stmt} {N ps : List Str} {k : Nat} {sp : Sp} (M : MkAt K mg x C) (A : AtM K C "__init__" qual st ps) (S : FnScope N ps (defScope st)) (len : ∀ vs H Q E, sp vs H Q E → vs.length + 1 = ps.length)
    (hbody : ∀ (cdv : Value) (f : Addr) (A : Around) (outer : List Env) (s : Shared) (H : Hp) (vs : List V) (Q : VK) (E : XK) (y dx : Addr) (H0 : Hp), Room k (A.deeper (envOfC qual (defScope st) s.heap.objs.size f cdv)) → sp vs H Q E → H y = none → Same H H0 → H0 y = some (.ins C dx []) →
      ∃ t, PSs (cxOf CX0 P w K mg base N qual (defScope st) f cdv A outer s H0 E).nox (defBody st) t ∧ t { nx := fun _ H' => Q (.ref y) H', rt := fun v H' => v = .non ∧ Q (.ref y) H' } (start N (.ref y :: vs)) H0) : HasC P w K mg base CX0 C x (k + 1) ps sp := by
  obtain ⟨f, fd, F, B, G⟩ := A.ex
  refine ⟨f, fd, fun ws H0 Q' E => ∃ y vs H Q dx, ws = .ref y :: vs ∧ sp vs H Q E ∧ H y = none ∧ Same H H0 ∧ H0 y = some (.ins C dx []) ∧ Q' = fun v H2 => v = .non ∧ Q (.ref y) H2, ?_, B, ⟨M.makes, G.at_, G.fn, M.kp⟩, M.at_, ?_⟩
  · refine F.ok S (fun ws H0 Q' E h => ?_) fun cdv A outer s H0 ws Q' E hr h => ?_
    · obtain ⟨y, vs, H, Q, dx, rfl, h, _⟩ := h
      exact len vs H Q E h
    · obtain ⟨y, vs, H, Q, dx, rfl, h, hy, hs, h0, rfl⟩ := h
      obtain ⟨t, h1, h2⟩ := hbody cdv f A outer s H vs Q E y dx H0 hr h hy hs h0
      refine ⟨t, h1, ?_⟩
      have e : (fun (_ : L2.St) (H' : Hp) => (fun v H2 => v = V.non ∧ Q (.ref y) H2) V.non H') = fun _ H' => Q (.ref y) H' := by
        funext _ H'
        exact propext ⟨fun h => h.2, fun h => ⟨rfl, h⟩⟩
      rw [e]
      exact h2
  · intro vs H Q E h y dx H0 hy hs h0
    exact ⟨y, vs, H, Q, dx, rfl, h, hy, hs, h0, rfl⟩
end
section
variable {X : Cx} {CX : CXT} {k : Nat} {C : Addr} {x m : Str} {p pos apos : Pos} {o e : Expr} {es : List Expr} {t : TA} {ta : TE} {ps : List Str} {sp : Sp} {E : XK}
theorem fe_make (h : HasC X.prog X.w X.K X.mg X.base CX C x k ps sp) (hr : Room (k + 1) X.A) (hg : Gl X x) (hx : Passes CX X E) (ha : PA X (e :: es) t) (hd : (x == ("__debug__" : Str)) = false := by decide)
    (hs : starEach (e :: es) X.env = (false, eval e X.env) :: starEach es X.env := by rfl) (hplain : (backTo pos (starEach es X.env)).any (·.1) = false := by rfl) : PE X (.Call (.Name x p) (e :: es) [] pos) (tCall sp [] E t) := by
  obtain ⟨f, fd, sp', F, B, M, G, h⟩ := h.ex
  refine pe_wk (pe_make M F hr hg G B .nil hx (pa_clos ha) hd hs hplain) fun σ H Q q => ⟨_, q, fun vs H1 q y dx n1 n2 n3 => ?_⟩
  rw [List.append_nil] at q ⊢
  refine h vs H1 Q E q y dx _ n1 (fun b z ez => ?_) upd_same
  rw [upd_ne (ne_of_none ez n1), upd_ne (ne_of_none ez n2)]
  exact ez
theorem fe_make0 (h : HasC X.prog X.w X.K X.mg X.base CX C x k ps sp) (hr : Room (k + 1) X.A) (hg : Gl X x) (hx : Passes CX X E) (hd : (x == ("__debug__" : Str)) = false := by decide) : PE X (.Call (.Name x p) [] [] pos) (tCall sp [] E tNil) := by
  obtain ⟨f, fd, sp', F, B, M, G, h⟩ := h.ex
  refine pe_wk (pe_make0 M F hr hg G B .nil hx hd) fun σ H Q q => ?_
  show tNil σ H _
  intro y dx n1 n2 n3
  refine h [] H Q E q y dx _ n1 (fun b z ez => ?_) upd_same
  rw [upd_ne (ne_of_none ez n1), upd_ne (ne_of_none ez n2)]
  exact ez
/-- an instance of the class, without an attribute of the name -/
def isOb (C : Addr) (m : Str) : V → Hp → Prop := fun x H => match x with
  | .ref a => match H a with
    | some (.ins D _ fs) => D = C ∧ fs.lookup m = none
    | _ => False
  | _ => False
def fMeth (C : Addr) (m : Str) (sp : Sp) (E : XK) (ta : TE) (t : TA) : TE := fun σ H Q => ta σ H fun x H1 => isOb C m x H1 ∧ t σ H1 fun vs H2 => sp (x :: vs) H2 Q E
theorem fMeth_to {σ : L2.St} {H : Hp} {Q : VK} (q : fMeth C m sp E ta t σ H Q) : tMeth C m sp [] E (clos ta) t σ H Q := by
  refine ⟨_, q, fun x H1 ⟨q1, q2⟩ => ?_⟩
  unfold isOb at q1
  split at q1
  · split at q1
    · obtain ⟨rfl, q1⟩ := q1
      refine ⟨_, _, _, rfl, by assumption, q1, ?_⟩
      simp only [List.append_nil]
      exact q2
    · exact q1.elim
  · exact q1.elim
theorem fe_meth {pl : Sem Bool} (h : HasM X.prog X.w X.K X.mg X.base CX C m k ps sp) (c : Cls X.K C) (hr : Room k X.A) (hx : Passes CX X E) (he : PE X o ta) (ha : PA X (e :: es) t)
    (hst : starEach (e :: es) X.env = (false, eval e X.env) :: starEach es X.env := by rfl) (hpl : (backTo pos (starEach es X.env)).any (·.1) = false := by rfl)
    (ht : eval (.Call (.Attribute o m apos) (e :: es) [] pos) X.env = (do
      let ov ← eval o X.env
      standAt apos.atName
      let (f, first) ← holding [ov] (getMethod ov m pl)
      callWith pos f first (backTo pos (starEach (e :: es) X.env)) (backToKw pos (keywordEach [] X.env))) := by rfl) :
    PE X (.Call (.Attribute o m apos) (e :: es) [] pos) (fMeth C m sp E ta t) := by
  obtain ⟨f, fd, F, B, M⟩ := h.ex
  exact pe_wk (pe_meth (pe_clos he) c M F hr B .nil hx ha hst hpl ht) fun σ H Q q => fMeth_to q
theorem fe_meth0 {pl : Sem Bool} (h : HasM X.prog X.w X.K X.mg X.base CX C m k ps sp) (c : Cls X.K C) (hr : Room k X.A) (hx : Passes CX X E) (he : PE X o ta)
    (ht : eval (.Call (.Attribute o m apos) [] [] pos) X.env = (do
      let ov ← eval o X.env
      standAt apos.atName
      let (f, first) ← holding [ov] (getMethod ov m pl)
      callWith pos f first (backTo pos (starEach [] X.env)) (backToKw pos (keywordEach [] X.env))) := by rfl) :
    PE X (.Call (.Attribute o m apos) [] [] pos) (fMeth C m sp E ta tNil) := by
  obtain ⟨f, fd, F, B, M⟩ := h.ex
  exact pe_wk (pe_meth0 (pe_clos he) c M F hr B .nil hx ht) fun σ H Q q => fMeth_to q
end
/-! ### isinstance of own classes -/
/-- what isinstance asks of a class of the program -/
structure OCls (K : PySem.W.Frag) (C : Addr) : Prop where
  cl : Cls K C
  ci : PySem.W.findIn K (.ref C) "__class__" = some (some (.builtin "object.__class__"))
  gd : PySem.W.specialIn K (.builtin "object.__class__") "__get__" = some (some (.builtin "getset_descriptor.__get__"))
  tk : PySem.W.takesIn K (.builtin "object.__class__") = some true
  mr : PySem.W.mroIn K C (.type "object") = some true
/-- the answers of isinstance for instances of cs and plain values, at the classes ds -/
structure Kit (K : PySem.W.Frag) (cs ds : List Addr) : Prop where
  ow : ∀ C ∈ cs, OCls K C
  oo : ∀ C ∈ cs, ∀ D ∈ ds, PySem.W.kitOne K (.ref C) (.ref D) = some (decide (C = D))
  bo : ∀ n ∈ ["NoneType", "bool", "int", "str", "list", "tuple", "dict"], ∀ D ∈ ds, PySem.W.kitOne K (.type n) (.ref D) = some false
  ob : ∀ C ∈ cs, ∀ n ∈ ["bool", "int", "str", "list", "tuple", "dict"], PySem.W.kitOne K (.ref C) (.type n) = some false
/-- a value's class -/
def tyV2 (H : Hp) : V → Option Value
  | .ref a => match H a with
    | some (.ins C _ _) => some (.ref C)
    | some (.lst _) => some (.type "list")
    | some (.tup _) => some (.type "tuple")
    | some (.dK _) => some (.type "dict")
    | some (.dT _) => some (.type "dict")
    | _ => none
  | .non => some (.type "NoneType")
  | .bl _ => some (.type "bool")
  | .int _ => some (.type "int")
  | .str _ => some (.type "str")
  | _ => none
def okT (cs : List Addr) : Value → Prop
  | .ref C => C ∈ cs
  | _ => True
def kit2 (D : Addr) : Value → Bool
  | .ref C => decide (C = D)
  | _ => false
theorem ty2_kit {K : PySem.W.Frag} {cs ds : List Addr} (k : Kit K cs ds) {H : Hp} {x : V} {t : Value} (h : tyV2 H x = some t) (ok : okT cs t) : TyX K H x t ∧ ∀ D ∈ ds, PySem.W.kitOne K t (.ref D) = some (kit2 D t) := by
  unfold tyV2 at h
  split at h <;> first
    | (cases h; exact ⟨.base .non, fun D hD => k.bo "NoneType" (by decide) D hD⟩)
    | (cases h; exact ⟨.base (.bl _), fun D hD => k.bo "bool" (by decide) D hD⟩)
    | (cases h; exact ⟨.base (.int _), fun D hD => k.bo "int" (by decide) D hD⟩)
    | (cases h; exact ⟨.base (.str _), fun D hD => k.bo "str" (by decide) D hD⟩)
    | (split at h <;> first
        | (cases h; exact ⟨.base (.lst (by assumption)), fun D hD => k.bo "list" (by decide) D hD⟩)
        | (cases h; exact ⟨.base (.tup (by assumption)), fun D hD => k.bo "tuple" (by decide) D hD⟩)
        | (cases h; exact ⟨.base (.dK (by assumption)), fun D hD => k.bo "dict" (by decide) D hD⟩)
        | (cases h; exact ⟨.base (.dT (by assumption)), fun D hD => k.bo "dict" (by decide) D hD⟩)
        | (cases h
           have O := k.ow _ ok
           exact ⟨.base (.ins (by assumption) O.cl O.ci O.gd O.tk O.mr), fun D hD => k.oo _ ok D hD⟩)
        | cases h)
    | cases h
/-- isinstance(x, C), C an own class -/
def fIsiO (cs ds : List Addr) : List V → Hp → VK → Prop := fun xs H Q => match xs with
  | [x, .ref D] => ∃ t, tyV2 H x = some t ∧ okT cs t ∧ D ∈ ds ∧ Q (.bl (kit2 D t)) H
  | _ => False
theorem call_fIsiO {X : Cx} {cs ds : List Addr} (k : Kit X.K cs ds) : CallR X (.builtin "isinstance") (fIsiO cs ds) := by
  intro pins s σ H xs us Q I r h
  match xs, r, h with
  | [x, .ref D], r, h =>
    obtain ⟨t, h1, h2, h3, h4⟩ := h
    obtain ⟨g1, g2⟩ := ty2_kit k h1 h2
    exact call_isi pins s σ H _ us Q I r ⟨x, .ref D, _, _, _, rfl, .own D, g1, g2 D h3, h4⟩
/-- isinstance(x, (C, D, ..)), own classes, the tuple just made -/
def kits2 (t : Value) : List V → Bool
  | .ref D :: r => kit2 D t || kits2 t r
  | _ => false
def allIn (ds : List Addr) : List V → Prop
  | [] => True
  | .ref D :: r => D ∈ ds ∧ allIn ds r
  | _ :: _ => False
theorem kits2_any {K : PySem.W.Frag} {ds : List Addr} {t : Value} (k : ∀ D ∈ ds, PySem.W.kitOne K t (.ref D) = some (kit2 D t)) : ∀ {vs : List V}, allIn ds vs → ∃ us, Paired ClsV vs us ∧ PySem.W.kitAny K t us = some (kits2 t vs)
  | [], _ => ⟨[], .nil, kitAny_nil⟩
  | v :: r, ha => by
    cases v <;> first
      | exact ha.elim
      | (rename_i D
         obtain ⟨us, p, q⟩ := kits2_any k ha.2
         refine ⟨_, .cons (.own D) p, kitAny_cons (k D ha.1) (fun hb => ?_) (fun hb => ?_)⟩
         · rw [q, kits2, hb]; rfl
         · rw [kits2, hb]; rfl)
def fIsiP (cs ds : List Addr) : List V → Hp → VK → Prop := fun xs H Q => match xs with
  | [x, .ref p] => match H p with
    | some (.tup vs) => ∃ t, tyV2 H x = some t ∧ okT cs t ∧ allIn ds vs ∧ Q (.bl (kits2 t vs)) H
    | _ => False
  | _ => False
theorem call_fIsiP {X : Cx} {cs ds : List Addr} (k : Kit X.K cs ds) : CallR X (.builtin "isinstance") (fIsiP cs ds) := by
  intro pins s σ H xs us Q I r h
  match xs, r, h with
  | [x, .ref p], r, h =>
    dsimp only [fIsiP] at h
    split at h
    · obtain ⟨t, h1, h2, h3, h4⟩ := h
      obtain ⟨g1, g2⟩ := ty2_kit k h1 h2
      obtain ⟨ws, g3, g4⟩ := kits2_any g2 h3
      exact call_isiT pins s σ H _ us Q I r ⟨x, p, _, _, ws, _, rfl, by assumption, g3, g1, g4, h4⟩
    · exact h.elim
/-- isinstance(x, T), T a built-in class, x an instance too -/
def fIsiA (cs : List Addr) : List V → Hp → VK → Prop := fun xs H Q => match xs with
  | [x, .ty n] => ∃ t, tyV2 H x = some t ∧ match t with
    | .ref C => C ∈ cs ∧ n ∈ ["bool", "int", "str", "list", "tuple", "dict"] ∧ Q (.bl false) H
    | .type s => ∃ b, kitB s n = some b ∧ Q (.bl b) H
    | _ => False
  | _ => False
theorem call_fIsiA {X : Cx} {cs ds : List Addr} (k : Kit X.K cs ds) : CallR X (.builtin "isinstance") (fIsiA cs) := by
  intro pins s σ H xs us Q I r h
  match xs, r, h with
  | [x, .ty n], r, h =>
    obtain ⟨t, h1, h2⟩ := h
    match t, h1, h2 with
    | .ref C, h1, h2 =>
      obtain ⟨g1, _⟩ := ty2_kit k h1 (show okT cs (.ref C) from h2.1)
      exact call_isi pins s σ H _ us Q I r ⟨x, .ty n, _, _, _, rfl, .ty n, g1, k.ob C h2.1 n h2.2.1, h2.2.2⟩
    | .type s', h1, h2 =>
      obtain ⟨b, h3, h4⟩ := h2
      obtain ⟨g1, _⟩ := ty2_kit k h1 (show okT cs (.type s') from trivial)
      exact call_isi pins s σ H _ us Q I r ⟨x, .ty n, _, _, _, rfl, .ty n, g1, kit_ty h3, h4⟩
/-- x is True, x is False; x is not .. -/
def fIsB (neg : Bool) : R2 := fun x y H Q => match y with
  | .bl b => (match x with | .non => Q (.bl neg) H | .bl c => Q (.bl (if neg = true then !decide (c = b) else decide (c = b))) H | .int _ => Q (.bl neg) H | .str _ => Q (.bl neg) H | .ref _ => Q (.bl neg) H | _ => False)
  | _ => False
theorem same_bool {M : Model} {A : Around} {E : Value → Shared → Prop} {s : Shared} {x : V} {u : Value} {b : Bool} {R : Bool → Shared → Prop} (r : RelV x u)
    (h : match x with | .non => R false s | .bl c => R (decide (c = b)) s | .int _ => R false s | .str _ => R false s | .ref _ => R false s | _ => False) : wpAny M A (isSame u (.bool b)) R E s := by
  cases x <;> first
    | exact h.elim
    | (cases r
       refine wpAny_isSame_plain rfl ?_
       exact h)
    | (obtain ⟨t, rfl⟩ := r
       refine wpAny_isSame_plain rfl ?_
       exact h)
    | (cases r
       rename_i c
       refine wpAny_isSame_plain rfl ?_
       have e : (Value.bool c == Value.bool b) = decide (c = b) := by cases c <;> cases b <;> rfl
       rw [e]
       exact h)
theorem op_fIsB {X : Cx} : OpR X (compareOp .Is) (fIsB false) := by
  intro pins s σ H x y v u Q I rx ry h
  cases y <;> first
    | exact False.elim h
    | (cases ry
       show wpAny _ _ ((isSame v (Value.bool _)) >>= fun z => pure (Value.bool z)) _ _ s
       refine wpAny_bind (same_bool rx ?_)
       cases x <;> first
         | exact False.elim h
         | exact wpAny_pure (fin_bl I h rfl))
theorem op_fNotB {X : Cx} : OpR X (compareOp .IsNot) (fIsB true) := by
  intro pins s σ H x y v u Q I rx ry h
  cases y <;> first
    | exact False.elim h
    | (cases ry
       show wpAny _ _ ((isSame v (Value.bool _)) >>= fun z => pure (Value.bool (!z))) _ _ s
       refine wpAny_bind (same_bool rx ?_)
       cases x <;> first
         | exact False.elim h
         | exact wpAny_pure (fin_bl I h rfl))
/-- one of two ways -/
def fOr (r1 r2 : R2) : R2 := fun x y H Q => r1 x y H Q ∨ r2 x y H Q
theorem op_fOr {X : Cx} {f : Value → Value → Sem Value} {r1 r2 : R2} (h1 : OpR X f r1) (h2 : OpR X f r2) : OpR X f (fOr r1 r2) := fun pins s σ H x y v u Q I rx ry q => q.elim (h1 pins s σ H x y v u Q I rx ry) (h2 pins s σ H x y v u Q I rx ry)
theorem all_nil {α : Type} {P : α → Prop} : ∀ x ∈ ([] : List α), P x := fun _ h => by cases h
theorem all_cons {α : Type} {P : α → Prop} {a : α} {l : List α} (h : P a) (t : ∀ x ∈ l, P x) : ∀ x ∈ a :: l, P x := fun x m => by
  rcases List.mem_cons.mp m with rfl | m
  · exact h
  · exact t x m
/-! ### == by an own __eq__ -/
def fEqO (C : Addr) (sp : Sp) (E : XK) : R2 := fun x y H Q => match x, y with
  | .ref a, .ref b => (match H a with | some (.ins D _ _) => D = C | _ => False) ∧ (match H b with | some (.ins D _ _) => D = C | _ => False) ∧ sp [x, y] H (fun v H' => match v with | .bl _ => Q v H' | _ => False) E
  | _, _ => False
theorem op_fEqO {X : Cx} {CX : CXT} {C : Addr} {n : Nat} {ps : List Str} {sp : Sp} {E : XK} (h : HasM X.prog X.w X.K X.mg X.base CX C "__eq__" n ps sp) (hr : Room n X.A) (hx : Passes CX X E) : OpR X (compareOp .Eq) (fEqO C sp E) := by
  intro pins s σ H x y v u Q I rx ry q
  obtain ⟨f, fd, F, B, M⟩ := h.ex
  cases x <;> cases y <;> first
    | exact False.elim q
    | skip
  rename_i a b
  dsimp only [fEqO] at q
  obtain ⟨qa, qb, q⟩ := q
  split at qa
  · rename_i D1 dx1 fs1 ea
    split at qb
    · rename_i D2 dx2 fs2 eb
      subst qa
      subst qb
      cases rx
      cases ry
      obtain ⟨mA, J, _⟩ := ins_get I.hok ea
      obtain ⟨mB, J', _⟩ := ins_get I.hok eb
      obtain ⟨od, J, _⟩ := J.look
      obtain ⟨od', J', _⟩ := J'.look
      obtain ⟨m, hF⟩ := I.fr
      show wpAny (model X.prog X.w) X.A (richCompare .Eq (.ref a) (.ref b)) (EP X pins σ Q) X.xe s
      refine PySem.W.cmp_K (op := .Eq) (tb := .ref D2) hr.units0 hF I.ok.mod.kin J J'.type (by simp [PySem.W.notFirst]) M.at_ M.fn ?_
      refine wpAny_mono (run_fn (vs := [.ref a, .ref b]) F hr B .nil hx I (.cons rfl (.cons rfl .nil)) q) (fun w s' z => ?_) fun _ _ x => x
      obtain ⟨y, H', I', r, z⟩ := z
      cases y <;> first
        | exact z.elim
        | (cases r; exact ⟨.bl _, H', I', rfl, z⟩)
    · exact qb.elim
  · exact qa.elim
/-! ### what the top has written of a class -/
structure ClsFact (K : PySem.W.Frag) (C : Addr) : Prop where
  pg : PySem.W.plainGet K C Str.empty = true
  hd : PySem.W.hasDictIn K C = true
  po : PySem.W.plainOver K C = true
  sa : PySem.W.findIn K (.ref C) "__setattr__" = some (some (.builtin "object.__setattr__"))
  ci : PySem.W.findIn K (.ref C) "__class__" = some (some (.builtin "object.__class__"))
  mr : PySem.W.mroIn K C (.type "object") = some true
  mks : PySem.W.makesIn K C = true
  kp : PySem.W.keepIn K (.ref C) = true
theorem ClsFact.cls {K : PySem.W.Frag} {C : Addr} (x : ClsFact K C) : Cls K C := ⟨x.pg, x.hd, x.po, x.sa⟩
/-- what every class has of object -/
structure ObjFact (K : PySem.W.Frag) : Prop where
  gd : PySem.W.specialIn K (.builtin "object.__class__") "__get__" = some (some (.builtin "getset_descriptor.__get__"))
  tk : PySem.W.takesIn K (.builtin "object.__class__") = some true
theorem ClsFact.ocls {K : PySem.W.Frag} {C : Addr} (x : ClsFact K C) (o : ObjFact K) : OCls K C := ⟨x.cls, x.ci, o.gd, o.tk, x.mr⟩
/-! ### comprehensions -/
def Lc (J : It) (g : TG) (tt : TT) (te : TE) (vs : List Nat) (σ : L2.St) (H1 : Hp) (D : Addr) (Q : VK) : Prop := ∃ W : Nat → Nat → Hp → Prop, (∃ m, W 0 m (upd H1 D (.lst []))) ∧ ∀ i m H, W i m H →
  (J.stop i H ∧ Q (.ref D) H) ∨ (J.go i H ∧ ∃ Nx : Hp → Prop, (∀ H', Nx H' → ∃ m', m' < m ∧ W (i + 1) m' H') ∧ ∀ x H', J.yld i H x H' → g x (wipe σ vs) H' fun σ2 H2 => wipe σ2 vs = wipe σ vs ∧ tt σ2 H2 fun b H3 =>
    if b = true then te σ2 H3 fun y H4 => ∃ acc, H4 D = some (.lst acc) ∧ acc.length < sizeLine ∧ Nx (upd H4 D (.lst (acc ++ [y]))) else Nx H3)
theorem lc_ {wi : TI} {g : TG} {tt : TT} {te : TE} {vs : List Nat} {σ : L2.St} {H : Hp} {Q : VK} (h : wi σ H fun J H1 => ∀ D, H1 D = none → Lc J g tt te vs σ H1 D Q) : tLc wi g tt te vs σ H Q := h
theorem lcx_range {lo : Int} {n : Nat} {g : TG} {tt : TT} {te : TE} {vs : List Nat} {σ : L2.St} {H1 : Hp} {D : Addr} {Q : VK} (Pv : Nat → Hp → Prop) (h0 : Pv 0 (upd H1 D (.lst [])))
    (hs : ∀ i H, i < n → Pv i H → g (.int (lo + i)) (wipe σ vs) H fun σ2 H2 => wipe σ2 vs = wipe σ vs ∧ tt σ2 H2 fun b H3 =>
      if b = true then te σ2 H3 fun y H4 => ∃ acc, H4 D = some (.lst acc) ∧ acc.length < sizeLine ∧ Pv (i + 1) (upd H4 D (.lst (acc ++ [y]))) else Pv (i + 1) H3) (hd : ∀ H, Pv n H → Q (.ref D) H) : Lc (Itr lo n) g tt te vs σ H1 D Q :=
  lc_it walk_range Pv h0 (fun _ _ _ _ => trivial) (fun i x H H' hi p y => by
    obtain ⟨rfl, rfl⟩ := y
    exact hs i _ hi p) hd
theorem lcx_list {K : PySem.W.Frag} {a : Addr} {xs : List V} {g : TG} {tt : TT} {te : TE} {vs : List Nat} {σ : L2.St} {H1 : Hp} {D : Addr} {Q : VK} (Pv : Nat → Hp → Prop) (h0 : Pv 0 (upd H1 D (.lst []))) (hl : ∀ i H, i ≤ xs.length → Pv i H → SqL K H a xs)
    (hs : ∀ i x H, xs[i]? = some x → Pv i H → g x (wipe σ vs) H fun σ2 H2 => wipe σ2 vs = wipe σ vs ∧ tt σ2 H2 fun b H3 =>
      if b = true then te σ2 H3 fun y H4 => ∃ acc, H4 D = some (.lst acc) ∧ acc.length < sizeLine ∧ Pv (i + 1) (upd H4 D (.lst (acc ++ [y]))) else Pv (i + 1) H3) (hd : ∀ H, Pv xs.length H → Q (.ref D) H) : Lc (Itl K a) g tt te vs σ H1 D Q :=
  lc_it walk_list Pv h0 hl (fun i x H H' hi p y => by
    obtain ⟨rfl, e⟩ := y
    exact hs i x _ e p) hd
end Fx

set_option Elab.async false
set_option linter.all false
set_option maxRecDepth 100000
/-! Ex: exceptions of the program's own classes, over Ox. -/
namespace Fx
open PySem PySem.Spec PyProof.Rows L2
/-! ### defs that may raise -/
/-- what leaves a def, as its promise says -/
abbrev wOf (E : XK) : WX := fun cls d _ H => E cls d H
section
variable {P : Program} {w : World} {K : PySem.W.Frag} {mg : Str → Option Value} {base : Heap}
theorem tk_of {N : List Str} {qual : Str} {sc : Scope} {f : Addr} {cd : Value} {A : Around} {outer : List Env} {s : Shared} {H : Hp} {E : XK} : Takes (cxOf (L2.CX P w) P w K mg base N qual sc f cd A outer s H E) (wOf E) := takes_of rfl rfl rfl rfl
theorem hasX_of {x qual : Str} {st : Stmt} {N ps : List Str} {k : Nat} {sp : Sp} (A : At K mg x qual st ps) (S : FnScope N ps (defScope st)) (len : ∀ vs H Q E, sp vs H Q E → vs.length = ps.length)
    (hbody : ∀ (cdv : Value) (f : Addr) (A : Around) (outer : List Env) (s : Shared) (H : Hp) (vs : List V) (Q : VK) (E : XK), Room k (A.deeper (envOfC qual (defScope st) s.heap.objs.size f cdv)) → sp vs H Q E →
      ∃ t, PSs (cxOf (L2.CX P w) P w K mg base N qual (defScope st) f cdv A outer s H E) (defBody st) t ∧ t { nx := fun _ H' => Q .non H', rt := Q } (start N vs) H) : Has P w K mg base (L2.CX P w) x (k + 1) ps sp := by
  obtain ⟨f, fd, F, B, G⟩ := A.ex
  exact ⟨f, fd, F.okX S len fun cdv A outer s H vs Q E hr h => hbody cdv f A outer s H vs Q E hr h, B, G, F.kp⟩
theorem hasMX_of {C : Addr} {x qual : Str} {st : Stmt} {N ps : List Str} {k : Nat} {sp : Sp} (A : AtM K C x qual st ps) (S : FnScope N ps (defScope st)) (len : ∀ vs H Q E, sp vs H Q E → vs.length = ps.length)
    (hbody : ∀ (cdv : Value) (f : Addr) (A : Around) (outer : List Env) (s : Shared) (H : Hp) (vs : List V) (Q : VK) (E : XK), Room k (A.deeper (envOfC qual (defScope st) s.heap.objs.size f cdv)) → sp vs H Q E →
      ∃ t, PSs (cxOf (L2.CX P w) P w K mg base N qual (defScope st) f cdv A outer s H E) (defBody st) t ∧ t { nx := fun _ H' => Q .non H', rt := Q } (start N vs) H) : HasM P w K mg base (L2.CX P w) C x (k + 1) ps sp := by
  obtain ⟨f, fd, F, B, G⟩ := A.ex
  exact ⟨f, fd, F.okX S len fun cdv A outer s H vs Q E hr h => hbody cdv f A outer s H vs Q E hr h, B, G⟩
end
section
variable {X : Cx} {CX : CXT} {k : Nat} {C : Addr} {x m : Str} {p pos apos : Pos} {o e : Expr} {es : List Expr} {t : TA} {ta : TE} {ps : List Str} {sp : Sp} {W : WX}
theorem fe_callX (h : Has X.prog X.w X.K X.mg X.base (L2.CX X.prog X.w) x k ps sp) (hr : Room k X.A) (hg : Gl X x) (tk : Takes X W) (ha : PA X (e :: es) t) (hd : (x == ("__debug__" : Str)) = false := by decide)
    (hs : starEach (e :: es) X.env = (false, eval e X.env) :: starEach es X.env := by rfl) (hplain : (backTo pos (starEach es X.env)).any (·.1) = false := by rfl) : PE X (.Call (.Name x p) (e :: es) [] pos) (tCallS sp (WE W) t) := by
  obtain ⟨f, fd, F, B, G, kp⟩ := h.ex
  exact pe_callS F hr hg G kp B (fun σ => passAt tk σ) ha hd hs hplain
theorem fe_callX0 (h : Has X.prog X.w X.K X.mg X.base (L2.CX X.prog X.w) x k ps sp) (hr : Room k X.A) (hg : Gl X x) (tk : Takes X W) (hd : (x == ("__debug__" : Str)) = false := by decide) : PE X (.Call (.Name x p) [] [] pos) (tCallS sp (WE W) tNil) := by
  obtain ⟨f, fd, F, B, G, kp⟩ := h.ex
  refine ⟨fun pins s σ H Q I h => ?_⟩
  refine wpAny_Call_Name_kw (ld_glob I hg G ?_ hd)
  exact PySem.W.callWith_K0 I.kIn kp (run_fnS (us := []) F hr B (passAt tk σ) I .nil h)
theorem isOb_some {a : Addr} {H : Hp} (h : isOb C m (.ref a) H) : ∃ dx fs, H a = some (.ins C dx fs) ∧ fs.lookup m = none := by
  unfold isOb at h
  dsimp only at h
  split at h
  · obtain ⟨rfl, l⟩ := h
    exact ⟨_, _, by assumption, l⟩
  · exact h.elim
def fMethS (C : Addr) (m : Str) (sp : Sp) (E : L2.St → XK) (ta : TE) (t : TA) : TE := fun σ H Q => ta σ H fun x H1 => isOb C m x H1 ∧ t σ H1 fun vs H2 => sp (x :: vs) H2 Q (E σ)
theorem fe_methX {pl : Sem Bool} (h : HasM X.prog X.w X.K X.mg X.base (L2.CX X.prog X.w) C m k ps sp) (c : Cls X.K C) (hr : Room k X.A) (tk : Takes X W) (he : PE X o ta) (ha : PA X (e :: es) t)
    (hst : starEach (e :: es) X.env = (false, eval e X.env) :: starEach es X.env := by rfl) (hpl : (backTo pos (starEach es X.env)).any (·.1) = false := by rfl)
    (ht : eval (.Call (.Attribute o m apos) (e :: es) [] pos) X.env = (do
      let ov ← eval o X.env
      standAt apos.atName
      let (f, first) ← holding [ov] (getMethod ov m pl)
      callWith pos f first (backTo pos (starEach (e :: es) X.env)) (backToKw pos (keywordEach [] X.env))) := by rfl) :
    PE X (.Call (.Attribute o m apos) (e :: es) [] pos) (fMethS C m sp (WE W) ta t) := by
  obtain ⟨f, fd, F, B, M⟩ := h.ex
  refine ⟨fun pins s σ H Q I h => ?_⟩
  refine PySem.W.methodCall_KW (pl := pl) (thn (he.run pins s σ H _ I h) fun u s1 ⟨x, H1, I1, rx, q1, q2⟩ => ?_) ht
  match x, q1, rx, q2 with
  | .ref a, q1, rx, q2 =>
    obtain ⟨dx, fs, ea, l⟩ := isOb_some q1
    · obtain rfl : u = Value.ref a := rx
      refine getmeth_ok I1 ea c M l ?_
      refine PySem.W.callWith_K (first := [.ref a]) (h₀ := X.base) I.ok.mod.kin M.kp (thn (ha.run pos pins s1 σ H1 _ I1 q2) fun us s2 ⟨vs, H2, I2, r, q3⟩ => ⟨I2.kIn, ?_⟩) hst hpl
      exact run_fnS (us := .ref a :: us) (vs := .ref a :: vs) F hr B (passAt tk σ) I2 (.cons rfl r) q3
theorem fe_methX0 {pl : Sem Bool} (h : HasM X.prog X.w X.K X.mg X.base (L2.CX X.prog X.w) C m k ps sp) (c : Cls X.K C) (hr : Room k X.A) (tk : Takes X W) (he : PE X o ta)
    (ht : eval (.Call (.Attribute o m apos) [] [] pos) X.env = (do
      let ov ← eval o X.env
      standAt apos.atName
      let (f, first) ← holding [ov] (getMethod ov m pl)
      callWith pos f first (backTo pos (starEach [] X.env)) (backToKw pos (keywordEach [] X.env))) := by rfl) :
    PE X (.Call (.Attribute o m apos) [] [] pos) (fMethS C m sp (WE W) ta tNil) := by
  obtain ⟨f, fd, F, B, M⟩ := h.ex
  refine ⟨fun pins s σ H Q I h => ?_⟩
  refine PySem.W.methodCall_KW (pl := pl) (thn (he.run pins s σ H _ I h) fun u s1 ⟨x, H1, I1, rx, q1, q2⟩ => ?_) ht
  match x, q1, rx, q2 with
  | .ref a, q1, rx, q2 =>
    obtain ⟨dx, fs, ea, l⟩ := isOb_some q1
    · obtain rfl : u = Value.ref a := rx
      refine getmeth_ok I1 ea c M l ?_
      exact PySem.W.callWith_K0 (first := [.ref a]) I1.kIn M.kp (run_fnS (us := [.ref a]) (vs := [.ref a]) F hr B (passAt tk σ) I1 (.cons rfl .nil) q2)
end
/-! ### exception classes -/
structure ExcFact (K : PySem.W.Frag) (C : Addr) : Prop where
  cls : ∃ nm q N bs bm sn sub ab col dd k0 k1 k2 k3 k5, K.lookup C = some (excClassObj nm q C N bs bm true sn sub ab col dd k0 k1 k2 k3 k5 "ValueError.__new__") ∧ PySem.HandSPX.refsVE bm = true
  sa : PySem.W.findIn K (.ref C) "__setattr__" = some (some (.builtin "object.__setattr__"))
  ga : PySem.W.findIn K (.ref C) "__getattribute__" = some (some (.builtin "BaseException.__getattribute__"))
  gg : PySem.W.findIn K (.ref C) "__getattr__" = some none
  exC : PySem.W.subIn K (.ref C) (.type "BaseException") = some true
  tyC : PySem.W.typeIn K (.ref C) = some (.type "type")
  kC : PySem.W.keepIn K (.ref C) = true
  hdC : PySem.W.hasDictIn K C = true
  ci : PySem.W.findIn K (.ref C) "__class__" = some (some (.builtin "object.__class__"))
  mr : PySem.W.mroIn K C (.type "object") = some true
theorem ExcFact.of {K : PySem.W.Frag} {C : Addr} {nm q N bs bm sn sub ab col dd k0 k1 k2 k3 k5} (l : K.lookup C = some (excClassObj nm q C N bs bm true sn sub ab col dd k0 k1 k2 k3 k5 "ValueError.__new__")) (r : PySem.HandSPX.refsVE bm = true)
    (sa : PySem.W.findIn K (.ref C) "__setattr__" = some (some (.builtin "object.__setattr__"))) (ga : PySem.W.findIn K (.ref C) "__getattribute__" = some (some (.builtin "BaseException.__getattribute__"))) (gg : PySem.W.findIn K (.ref C) "__getattr__" = some none)
    (exC : PySem.W.subIn K (.ref C) (.type "BaseException") = some true) (tyC : PySem.W.typeIn K (.ref C) = some (.type "type")) (kC : PySem.W.keepIn K (.ref C) = true) (hdC : PySem.W.hasDictIn K C = true)
    (ci : PySem.W.findIn K (.ref C) "__class__" = some (some (.builtin "object.__class__"))) (mr : PySem.W.mroIn K C (.type "object") = some true) : ExcFact K C :=
  ⟨⟨nm, q, N, bs, bm, sn, sub, ab, col, dd, k0, k1, k2, k3, k5, l, r⟩, sa, ga, gg, exC, tyC, kC, hdC, ci, mr⟩
theorem ExcFact.oex {K : PySem.W.Frag} {C : Addr} (F : ExcFact K C) : OexC K C := ⟨F.cls, F.sa, F.exC, F.tyC, F.kC⟩
theorem ExcFact.xf {K : PySem.W.Frag} {C : Addr} (F : ExcFact K C) : XfC K C := ⟨F.ga, F.gg, F.exC, F.hdC⟩
/-- __init__ of an exception class as it stands -/
structure AtE (K : PySem.W.Frag) (C : Addr) (qual : Str) (st : Stmt) (ps : List Str) : Prop where
  ex : ∃ (f : Addr) (fd : FuncData), Fun K "__init__" qual st f fd ∧ Binds K fd ps [] ∧ PySem.W.findIn K (.ref C) "__init__" = some (some (.ref f)) ∧ PySem.W.typeIn K (.ref f) = some (.type "function")
structure EFact (K : PySem.W.Frag) (C : Addr) (qual : Str) (st : Stmt) : Prop where
  ex : ∃ (f : Addr) (oc : Value) (od an : Option Addr) (sl : Array (Option Value)) (kV dc pm cd ct : Value),
    PySem.W.findIn K (.ref C) "__init__" = some (some (.ref f)) ∧ K.lookup f = some ⟨oc, od, .func (PySem.W.fnOf "__init__" qual (defArgs st) (defBody st) (defScope st) .none kV dc pm an cd ct), sl⟩ ∧
    PySem.W.codeIn K cd qual = true ∧ PySem.W.keepIn K (.ref f) = true ∧ PySem.W.typeIn K (.ref f) = some (.type "function")
theorem EFact.of {K : PySem.W.Frag} {C : Addr} {qual : Str} {st : Stmt} {f : Addr} {oc : Value} {od an : Option Addr} {sl : Array (Option Value)} {kV dc pm cd ct : Value}
    (a : PySem.W.findIn K (.ref C) "__init__" = some (some (.ref f))) (l : K.lookup f = some ⟨oc, od, .func (PySem.W.fnOf "__init__" qual (defArgs st) (defBody st) (defScope st) .none kV dc pm an cd ct), sl⟩)
    (c : PySem.W.codeIn K cd qual = true) (k : PySem.W.keepIn K (.ref f) = true) (i : PySem.W.typeIn K (.ref f) = some (.type "function")) : EFact K C qual st := ⟨f, oc, od, an, sl, kV, dc, pm, cd, ct, a, l, c, k, i⟩
theorem AtE.of {K : PySem.W.Frag} {C : Addr} {qual : Str} {st : Stmt} {ps : List Str} (F : EFact K C qual st)
    (hb : ∀ (kV doc pm : Value) (an : Option Addr) (cdv ct : Value) (us : List Value), us.length = ps.length → bindArgs (PySem.W.fnOf "__init__" qual (defArgs st) (defBody st) (defScope st) .none kV doc pm an cdv ct) ⟨us, []⟩ = pure (ps.zip us)) : AtE K C qual st ps := by
  obtain ⟨f, oc, od, an, sl, kV, dc, pm, cd, ct, a, l, c, k, i⟩ := F.ex
  have F1 := fun_mk (st := st) l c k
  exact ⟨_, _, F1, F1.binds hb, a, i⟩
/-- what __init__ keeps: two fields -/
def spInitE (C : Addr) (n : Nat) (flds : List V → List (Str × V)) : Sp := fun ws H0 Q _ => ∃ a vs H1, ws = .ref a :: vs ∧ vs.length = n ∧ H1 a = none ∧ H0 = upd H1 a (exo a C none) ∧
  ∀ d H2, H1 d = none → d ≠ a → (∀ b o, H1 b = some o → H2 b = some o) → H2 a = some (exo a C (some d)) → H2 d = some (exd d (flds vs)) → Q .non H2
/-- an exception class whose __init__ keeps its fields -/
structure HasE (P : Program) (w : World) (K : PySem.W.Frag) (mg : Str → Option Value) (base : Heap) (C : Addr) (x : Str) (n : Nat) (flds : List V → List (Str × V)) : Prop where
  ex : ∃ (f : Addr) (fd : FuncData) (ps : List Str), FnOk P w K mg base CX0 1 f fd ps (spInitE C n flds) ∧ Binds K fd ps [] ∧ PySem.W.findIn K (.ref C) "__init__" = some (some (.ref f)) ∧ PySem.W.typeIn K (.ref f) = some (.type "function") ∧ mg x = some (.ref C) ∧ OexC K C
def two (f1 f2 : Str) : List V → List (Str × V)
  | [a, b] => [(f2, b), (f1, a)]
  | _ => []
theorem hasE2 {P : Program} {w : World} {K : PySem.W.Frag} {mg : Str → Option Value} {base : Heap} {C : Addr} {x qual f1 f2 : Str} {st : Stmt} {q1 q2 q3 q4 r1 r2 r3 r4 : Pos} (A : AtE K C qual st ["self", f1, f2]) (S : FnScope ["self", f1, f2] ["self", f1, f2] (defScope st))
    (hb : defBody st = [.Assign [.Attribute (.Name "self" q1) f1 q2] (.Name f1 q3) q4, .Assign [.Attribute (.Name "self" r1) f2 r2] (.Name f2 r3) r4])
    (F : ExcFact K C) (n1 : PySem.W.findIn K (.ref C) f1 = some none) (n2 : PySem.W.findIn K (.ref C) f2 = some none) (g : mg x = some (.ref C)) (d1 : (f1 == ("__debug__" : Str)) = false) (d2 : (f2 == ("__debug__" : Str)) = false)
    (c1 : (f1 == ("__classdict__" : Str)) = false) (c2 : (f2 == ("__classdict__" : Str)) = false) : HasE P w K mg base C x 2 (two f1 f2) := by
  obtain ⟨f, fd, Fn, B, I, Ty⟩ := A.ex
  refine ⟨f, fd, _, ?_, B, I, Ty, g, F.oex⟩
  refine Fn.ok S (fun ws H Q E h => ?_) (fun cdv A outer s H ws Q E hr h => ?_)
  · obtain ⟨a, vs, H1, rfl, hl, _⟩ := h
    show vs.length + 1 = 3
    rw [hl]
  · obtain ⟨a, vs, H1, rfl, hl, na, rfl, k⟩ := h
    match vs, hl, k with
    | [v1, v2], hl, k =>
      have v0 : Vis (defScope st) "self" := (S.par "self" (List.Mem.head _)).elim (fun z => .inl z) (fun z => .inr (.inl z))
      have vis1 : Vis (defScope st) f1 := (S.par f1 (List.Mem.tail _ (List.Mem.head _))).elim (fun z => .inl z) (fun z => .inr (.inl z))
      have vis2 : Vis (defScope st) f2 := (S.par f2 (List.Mem.tail _ (List.Mem.tail _ (List.Mem.head _)))).elim (fun z => .inl z) (fun z => .inr (.inl z))
      rw [hb]
      refine ⟨_, pss_cons (ps_ost (fe_var 0 rfl v0) (fe_var 1 rfl vis1 d1 c1)) (pss_one (ps_ost (fe_var 0 rfl v0) (fe_var 2 rfl vis2 d2 c2))), ?_⟩
      refine ⟨a, C, rfl, F.oex, n1, .inl ⟨upd_same, fun dx ndx nea => ?_⟩⟩
      have hdx : H1 dx = none := by rw [upd_ne nea] at ndx; exact ndx
      refine ⟨a, C, rfl, F.oex, n2, .inr ⟨dx, [(f1, v1)], upd_same, (upd_ne nea).trans upd_same, (show 1 ≤ 900 by decide), ?_⟩⟩
      refine k dx _ hdx nea (fun b o e => ?_) ?_ upd_same
      · rw [upd_ne (ne_of_none e hdx), upd_ne (ne_of_none e na), upd_ne (ne_of_none e hdx), upd_ne (ne_of_none e na)]
        exact e
      · rw [upd_ne (Ne.symm nea)]
        exact upd_same
/-- C(e, ..) -/
def fMkE (C : Addr) (n : Nat) (flds : List V → List (Str × V)) (ta : TA) : L2.St → Hp → XK → Prop := fun σ H Q => ta σ H fun vs H1 => vs.length = n ∧ ∀ d H2, H1 d = none → Same H1 H2 → H2 d = some (.xd (flds vs)) → Q (.ref C) (some d) H2
section
variable {X : Cx} {C : Addr} {x : Str} {n : Nat} {flds : List V → List (Str × V)} {p pos : Pos} {e : Expr} {es : List Expr} {ta : TA}
def closAX (t : TA) : TA := closA t
theorem fmk_e (h : HasE X.prog X.w X.K X.mg X.base C x n flds) (hn : n ≤ 1000) (hr : Room 2 X.A) (hg : Gl X x) (ha : PA X (e :: es) ta) (hdb : (x == ("__debug__" : Str)) = false := by decide)
    (he : starEach (e :: es) X.env = (false, eval e X.env) :: starEach es X.env := by rfl) (hpl : (backTo pos (starEach es X.env)).any (·.1) = false := by rfl) : PMk X (.Call (.Name x p) (e :: es) [] pos) (fMkE C n flds ta) := by
  obtain ⟨f, fd, ps, F, B, I, Ty, g, O⟩ := h.ex
  intro pins s σ H Q Iv q
  refine pmk_oex O I Ty F hr B .nil (fun _ _ _ _ _ _ _ h => h.elim) hg g (pa_clos ha) hdb he hpl pins s σ H Q Iv ⟨_, q, fun vs H1 q => ?_⟩
  obtain ⟨hl, q⟩ := q
  refine ⟨by omega, fun a na => ⟨a, vs, H1, by rw [List.append_nil], hl, na, rfl, fun d H2 nd ne keep ea ed => ⟨rfl, d, flds vs, ea, ed, nd, q d _ nd (fun b o eb => ?_) upd_same⟩⟩⟩
  rw [upd_ne (ne_of_none eb nd), del_ne (ne_of_none eb na)]
  exact keep b o eb
/-- raise C(e, ..) -/
def fRaise (C : Addr) (n : Nat) (flds : List V → List (Str × V)) (W : WX) (ta : TA) : TS := fun _ σ H => ta σ H fun vs H1 => vs.length = n ∧ ∀ d H2, H1 d = none → Same H1 H2 → H2 d = some (.xd (flds vs)) → W (.ref C) (some d) σ H2
theorem fs_raise {W : WX} {pos2 : Pos} (hc : X.calm = true) (tk : Takes X W) (h : HasE X.prog X.w X.K X.mg X.base C x n flds) (hn : n ≤ 1000) (hr : Room 2 X.A) (hg : Gl X x) (ha : PA X (e :: es) ta) (hdb : (x == ("__debug__" : Str)) = false := by decide)
    (he : starEach (e :: es) X.env = (false, eval e X.env) :: starEach es X.env := by rfl) (hpl : (backTo pos (starEach es X.env)).any (·.1) = false := by rfl) : PS X (.Raise (some (.Call (.Name x p) (e :: es) [] pos)) none pos2) (fRaise C n flds W ta) :=
  ps_raise hc tk (fmk_e h hn hr hg ha hdb he hpl)
end
/-- the way out of a def: an exception of class C with two fields -/
def Out (C : Addr) (H : Hp) (fs : List (Str × V)) (E : XK) : Prop := ∀ d H2, H d = none → Same H H2 → H2 d = some (.xd fs) → E (.ref C) (some d) H2
theorem Out.same {C : Addr} {H H1 : Hp} {fs : List (Str × V)} {E : XK} (h : Out C H fs E) (s : Same H H1) : Out C H1 fs E := fun d H2 nd s2 e => h d H2 (by
  cases q : H d with
  | none => rfl
  | some o => rw [s _ _ q] at nd; cases nd) (s.trans s2) e
/-! ### the suite -/
/-- e.f, e the caught one -/
def fXf (a : Addr) (cls : Value) (d : Option Addr) (cs : List Addr) (f : Str) (te : TE) : TE := fun σ H Q => te σ H fun x H1 => x = .ref a ∧ match cls, d with
  | .ref C, some dd => C ∈ cs ∧ match H1 dd with
    | some (.xd fs) => match fs.lookup f with
      | some v => Q v H1
      | none => False
    | _ => False
  | _, _ => False
def XPlain (K : PySem.W.Frag) (cs : List Addr) (f : Str) : Prop := ∀ C ∈ cs, XfC K C ∧ PySem.W.findIn K (.ref C) f = some none
theorem fe_xf {X : Cx} {a : Addr} {cs : List Addr} {oe : Obj} {cls : Value} {d : Option Addr} {pn : List (Addr × Obj)} {e : Expr} {te : TE} {pos : Pos} {n : Str} (T : XPlain X.K cs n)
    (hz : Zc cls d oe) (hf : ∃ vs, oe.data = .fields vs) (he : PE (X.suite a ((a, oe) :: pn)) e te) (hb : attributeBase e n X.env (eval e X.env) = eval e X.env) :
    PE (X.suite a ((a, oe) :: pn)) (.Attribute e n pos) (fXf a cls d cs n te) := by
  refine ⟨fun pins s σ H Q I h => ?_⟩
  refine attr_of hb (thn (he.run pins s σ H _ I h) fun u s1 hh => ?_)
  obtain ⟨x, H1, I1, rx, ex, q⟩ := hh
  subst ex
  obtain rfl : u = Value.ref a := rx
  split at q
  · rename_i C dd
    obtain ⟨m, q⟩ := q
    split at q
    · rename_i fs ea
      split at q
      · rename_i v l
        obtain ⟨ha, _⟩ := I1.pin (a, oe) (List.mem_append_left _ List.mem_cons_self)
        obtain ⟨vs, hd⟩ := hf
        have hx : ObjOk X.prog X.w H1 s1.heap dd (.xd fs) := I1.hok dd _ ea
        obtain ⟨mA, hns, hr⟩ := hx
        obtain ⟨od, ho, hl⟩ := lookIn_ns hns
        obtain ⟨u, hu, ru⟩ := RelO.some_of (v := v) (o := mA n) (by rw [← l]; exact hr n)
        have J : PySem.W.InstAt s1.heap a oe C (some od) := ⟨ha, hz.1, by unfold PySem.W.notCls; rw [hd] <;> rfl, by rw [hz.2]; exact ho⟩
        exact HandSPX.exc_get I1.kIn J (T C m).1.ga (T C m).1.gg (T C m).1.exC (PySem.W.findObj_own (T C m).1.hdC (T C m).2 rfl (by rw [hl, hu])) (handed_of ru) ⟨v, H1, I1.tok _, ru, q⟩
      · exact q.elim
    · exact q.elim
  · exact q.elim
/-- isinstance(e, C), e the caught one -/
structure XKit (K : PySem.W.Frag) (cs ds : List Addr) : Prop where
  f : ∀ C ∈ cs, ExcFact K C
  ob : ObjFact K
  k : ∀ C ∈ cs, ∀ D ∈ ds, ∃ b, PySem.W.kitOne K (.ref C) (.ref D) = some b
def fIsE (K : PySem.W.Frag) (a : Addr) (cls : Value) (d : Option Addr) (cs : List Addr) : List V → Hp → VK → Prop := fun xs H Q => match xs with
  | [x, .ref D] => x = .ref a ∧ (match cls with | .ref C => C ∈ cs | _ => False) ∧ (match d with | none => True | some dd => match H dd with | some (.xd _) => True | _ => False) ∧ ∃ b, PySem.W.kitOne K cls (.ref D) = some b ∧ Q (.bl b) H
  | _ => False
theorem call_fIsE {X : Cx} {a : Addr} {cls : Value} {d : Option Addr} {cs : List Addr} {oe : Obj} {pn : List (Addr × Obj)} (F : ∀ C ∈ cs, ExcFact X.K C) (ob : ObjFact X.K) (hz : Zc cls d oe) (hf : ∃ vs, oe.data = .fields vs) :
    CallR (X.suite a ((a, oe) :: pn)) (.builtin "isinstance") (fIsE X.K a cls d cs) := by
  intro pins s σ H xs us Q I r h
  match xs, r, h with
  | [x, .ref D], r, h =>
    obtain ⟨rfl, hc, hd, b, e, q⟩ := h
    match cls, hc, hz, e with
    | .ref C, hc, hz, e =>
      cases r with
      | cons rx rr =>
        cases rr with
        | cons rt rr =>
          cases rr
          cases rx
          cases rt
          obtain ⟨hget, _⟩ := I.pin (a, oe) (List.mem_append.mpr (.inl List.mem_cons_self))
          obtain ⟨vs, hv⟩ := hf
          have FC := F C hc
          have hcl : (PySem.W.clsIn X.K C).isSome = true := by
            obtain ⟨cd, hcd, _⟩ := PySem.W.any_some FC.hdC
            rw [hcd]; rfl
          have hJ : ∃ od, PySem.W.InstAt s.heap a oe C od := by
            cases d with
            | none =>
              refine ⟨none, hget, hz.1, ?_, ?_⟩
              · unfold PySem.W.notCls; rw [hv] <;> rfl
              · rw [hz.2]; trivial
            | some dd =>
              dsimp only at hd
              split at hd
              · rename_i fs ea
                have hx : ObjOk X.prog X.w H s.heap dd (.xd fs) := I.hok dd _ ea
                obtain ⟨mA, hns, hr⟩ := hx
                obtain ⟨od, ho, hl⟩ := lookIn_ns hns
                exact ⟨some od, hget, hz.1, by unfold PySem.W.notCls; rw [hv] <;> rfl, by rw [hz.2]; exact ho⟩
              · exact hd.elim
          obtain ⟨od, J⟩ := hJ
          exact PySem.W.kia_one (PySem.W.kitx_exc hcl FC.ga FC.gg FC.exC FC.ci ob.gd ob.tk FC.mr) I.kIn J e (fun z => nomatch z) fun tk => ⟨.bl b, H, I.kept (t' := tk) fun _ _ z => z, rfl, q⟩
/-! ### parts that are never reached -/
section
variable {X : Cx}
def fDead : TE := fun _ _ _ => False
def sDead : TS := fun _ _ _ => False
theorem pe_dead {e : Expr} : PE X e fDead := ⟨fun _ _ _ _ _ _ h => h.elim⟩
theorem ps_dead {st : Stmt} : PS X st sDead := ⟨fun _ _ _ _ _ _ h => h.elim⟩
/-! ### truth by value -/
def fTru (K : PySem.W.Frag) (ta : TE) : TT := fun σ H Q => ta σ H fun x H1 => match x with
  | .non => Q false H1
  | .bl b => Q b H1
  | .int i => Q (!decide (i = 0)) H1
  | .str z => z.length ≤ sizeLine ∧ Q (!decide (z.length = 0)) H1
  | .ref p => ∃ xs, Rl K H1 p xs ∧ Q (!xs.isEmpty) H1
  | _ => False
theorem pt_fTru {a : Expr} {ta : TE} (ha : PE X a ta) (he : ∀ whole, isTrue a X.env whole = (do let v ← whole; standAt a.pos; holding [v] (truthy v))) : PT X a (fTru X.K ta) := by
  refine pt_wk (pt_truth (pe_clos ha) he) fun σ H Q q => ⟨_, q, fun x H1 q => ?_⟩
  split at q
  · exact ⟨_, rfl, q⟩
  · exact ⟨_, rfl, q⟩
  · refine ⟨_, rfl, ?_⟩
    rename_i i
    have e : (i != 0) = !decide (i = 0) := by by_cases h : i = 0 <;> simp [h]
    rw [e]; exact q
  · refine ⟨_, ⟨q.1, rfl⟩, ?_⟩
    rename_i z
    have e : ((z.length : Int) != 0) = !decide (z.length = 0) := by by_cases h : z.length = 0 <;> simp [h]
    rw [e]; exact q.2
  · obtain ⟨xs, r, q⟩ := q
    rcases r with r | r
    · exact ⟨_, .inl ⟨xs, r, rfl⟩, q⟩
    · exact ⟨_, .inr (.inl ⟨xs, r, rfl⟩), q⟩
  · exact q.elim
/-! ### f-strings -/
def fFmt (te : TE) : TE := fun σ H Q => te σ H fun x H1 => match x with
  | .str y => y.length ≤ sizeLine ∧ Q (.str y) H1
  | .int i => i.natAbs.log2 < 1920 ∧ Q (.str (toString i)) H1
  | _ => False
theorem fe_fmt {e : Expr} {te : TE} {pos : Pos} (he : PE X e te) : PE X (.FormattedValue e (-1) none pos) (fFmt te) := pe_wk (pe_fmt (pe_clos he)) fun σ H Q q => ⟨_, q, fun x H1 q => by
  split at q
  · exact .inl ⟨_, rfl, q⟩
  · exact .inr ⟨_, rfl, q⟩
  · exact q.elim⟩
inductive PF (X : Cx) : List Expr → List TE → Prop where
  | nil : PF X [] []
  | cons {e : Expr} {t : TE} {es : List Expr} {ts : List TE} (h : PE X e t) (r : PF X es ts) : PF X (e :: es) (t :: ts)
theorem PF_nil : PF X [] [] := .nil
theorem pf_cons {e : Expr} {t : TE} {es : List Expr} {ts : List TE} (h : PE X e t) (r : PF X es ts) : PF X (e :: es) (t :: ts) := .cons h r
def fJs : List TE → Str → L2.St → Hp → (Str → Hp → Prop) → Prop
  | [], acc, _, H, Q => Q acc H
  | t :: ts, acc, σ, H, Q => t σ H fun x H1 => match x with
    | .str y => (acc ++ y).length ≤ sizeLine ∧ fJs ts (acc ++ y) σ H1 Q
    | _ => False
theorem pf_pj {es : List Expr} {ts : List TE} (h : PF X es ts) : PJ X es (ts.map clos) := by
  induction h with
  | nil => exact .nil
  | cons h r ih => exact .cons (pe_clos h) ih
theorem fJs_to : ∀ {ts : List TE} {acc : Str} {σ : L2.St} {H : Hp} {Q : Str → Hp → Prop}, fJs ts acc σ H Q → tJs (ts.map clos) acc σ H Q
  | [], _, _, _, _, h => h
  | t :: ts, acc, σ, H, Q, h => ⟨_, h, fun x H1 q => by
    split at q
    · exact ⟨_, rfl, q.1, fJs_to q.2⟩
    · exact q.elim⟩
def fJoined (ts : List TE) : TE := fun σ H Q => fJs ts Str.empty σ H fun out H1 => Q (.str out) H1
theorem fe_joined {v1 v2 : Expr} {rest : List Expr} {ts : List TE} {pos : Pos} (h : PF X (v1 :: v2 :: rest) ts) : PE X (.JoinedStr (v1 :: v2 :: rest) pos) (fJoined ts) := by
  have h2 := pf_pj h
  exact pe_wk (pe_joined h2) fun σ H Q q => fJs_to q
/-- // by any divisor but 0 -/
def fDivZ : R2 := fun x y H Q => match x, y with
  | .int i, .int j => (j ≠ 0 ∧ j.natAbs.log2 < 9000) ∧ Q (.int (Int.fdiv i j)) H
  | _, _ => False
theorem op_fDivZ : OpR X (binaryOp .FloorDiv) fDivZ := by
  intro pins s σ H x y v u Q I rx ry h
  match x, y, rx, ry, h with
  | .int i, .int j, ⟨t, e⟩, ⟨t', e'⟩, ⟨hc, q⟩ =>
    subst e e'
    exact floordiv_int hc.1 ⟨.int _, H, I.tok _, ⟨_, rfl⟩, q⟩ (.inl (PyProof.noPylong_of_log2 hc.2))
end
theorem WE_wOf {E : XK} {σ : L2.St} : WE (wOf E) σ = E := rfl
/-! ### dicts of the module, text keys -/
def EntOk (K : PySem.W.Frag) (d : Addr) : Str × Option V → Prop
  | (z, none) => PySem.W.nsIn K d z = some none
  | (z, some v) => ∃ u, PySem.W.nsIn K d z = some (some u) ∧ RelV v u
theorem ent_none {K : PySem.W.Frag} {d : Addr} {z : Str} (h : PySem.W.nsIn K d z = some none) : EntOk K d (z, none) := h
theorem ent_str {K : PySem.W.Frag} {d : Addr} {z x : Str} {t : Tok} (h : PySem.W.nsIn K d z = some (some (.str x t))) : EntOk K d (z, some (.str x)) := ⟨_, h, _, rfl⟩
theorem ent_int {K : PySem.W.Frag} {d : Addr} {z : Str} {x : Int} {t : Tok} (h : PySem.W.nsIn K d z = some (some (.int x t))) : EntOk K d (z, some (.int x)) := ⟨_, h, _, rfl⟩
structure DAt (K : PySem.W.Frag) (w : World) (d : Addr) (ks : List (Str × Option V)) : Prop where
  ex : ∃ es n, KDict K w d es n
  en : ∀ p ∈ ks, EntOk K d p
def GDict (K : PySem.W.Frag) (w : World) (mg : Str → Option Value) (x : Str) (ks : List (Str × Option V)) : Prop := ∃ d, mg x = some (.ref d) ∧ DAt K w d ks
structure GDictF (K : PySem.W.Frag) (w : World) (x : Str) (ks : List (Str × Option V)) : Prop where
  ex : ∃ d, PySem.W.nsIn K mainGlobals x = some (some (.ref d)) ∧ DAt K w d ks
theorem GDictF.of {K : PySem.W.Frag} {w : World} {x : Str} {ks : List (Str × Option V)} {d : Addr} {es : Array DictEntry} {n : Nat} (h1 : PySem.W.nsIn K mainGlobals x = some (some (.ref d))) (h2 : K.lookup d = some ⟨.type "dict", none, .dict es n, #[]⟩)
    (h3 : PySem.W.KeysLit w.params es.toList) (h4 : (d == sysModules) = false) (h5 : ∀ p ∈ ks, EntOk K d p) : GDictF K w x ks := ⟨d, h1, ⟨es, n, h2, h3, h4⟩, h5⟩
theorem GDictF.get {K : PySem.W.Frag} {w : World} {mg : Str → Option Value} {x : Str} {ks : List (Str × Option V)} {h : Heap} (X : K.In h) (G : h.Ns mainGlobals mg) (F : GDictF K w x ks) : GDict K w mg x ks := by
  obtain ⟨d, h1, h2⟩ := F.ex
  exact ⟨d, PySem.W.mg_of X G h1, h2⟩
theorem ent_at {K : PySem.W.Frag} {w : World} {d : Addr} {z : Str} {o : Option V} : ∀ {ks : List (Str × Option V)}, (∀ p ∈ ks, EntOk K d p) → ks.lookup z = some o → EntOk K d (z, o)
  | [], _, h => by cases h
  | (y, p) :: ks, hk, h => by
    rw [List.lookup_cons] at h
    split at h
    · rename_i e
      cases h
      have e' := eq_of_beq e
      subst e'
      exact hk _ (List.mem_cons_self ..)
    · exact ent_at (w := w) (fun q hq => hk q (List.mem_cons_of_mem _ hq)) h
def fGd_ (K : PySem.W.Frag) (w : World) (ks : List (Str × Option V)) : TE := fun _ H Q => ∀ d, DAt K w d ks → Q (.ref d) H
section
variable {X : Cx}
theorem fe_gdict {x : Str} {pos : Pos} {ks : List (Str × Option V)} (hg : Gl X x) (h : GDict X.K X.w X.mg x ks) (hd : (x == ("__debug__" : Str)) = false := by decide) : PE X (.Name x pos) (fGd_ X.K X.w ks) := by
  obtain ⟨d, h, hs⟩ := h
  exact pe_wk (pe_glob hg h (v := .ref d) rfl hd) fun σ H Q q => q d hs
/-- z in D, D a dict of the module -/
def fInD (K : PySem.W.Frag) (w : World) (neg : Bool) : R2 := fun x y H Q => match x, y with
  | .str z, .ref d => ∃ ks o, DAt K w d ks ∧ ks.lookup z = some o ∧ Q (.bl (if neg = true then !o.isSome else o.isSome)) H
  | _, _ => False
theorem op_fInD : OpR X (compareOp .In) (fInD X.K X.w false) := by
  intro pins s σ H x y v u Q I rx ry h
  match x, y, rx, ry, h with
  | .str z, .ref d, rx, ry, ⟨ks, o, D, e, q⟩ =>
    obtain ⟨es, n, kd⟩ := D.ex
    have en := ent_at (w := X.w) D.en e
    cases o with
    | none => exact op_in_kd kd pins s σ H _ _ v u Q I rx ry ⟨z, none, rfl, rfl, en, q⟩
    | some v =>
      obtain ⟨u0, e0, _⟩ := en
      exact op_in_kd kd pins s σ H _ _ _ u Q I rx ry ⟨z, some u0, rfl, rfl, e0, q⟩
theorem op_fNotInD : OpR X (compareOp .NotIn) (fInD X.K X.w true) := by
  intro pins s σ H x y v u Q I rx ry h
  match x, y, rx, ry, h with
  | .str z, .ref d, rx, ry, ⟨ks, o, D, e, q⟩ =>
    obtain ⟨es, n, kd⟩ := D.ex
    have en := ent_at (w := X.w) D.en e
    cases o with
    | none => exact op_notIn_kd kd pins s σ H _ _ v u Q I rx ry ⟨z, none, rfl, rfl, en, q⟩
    | some v =>
      obtain ⟨u0, e0, _⟩ := en
      exact op_notIn_kd kd pins s σ H _ _ _ u Q I rx ry ⟨z, some u0, rfl, rfl, e0, q⟩
/-- D[z], D a dict of the module -/
def fIxD (K : PySem.W.Frag) (w : World) : R2 := fun x y H Q => match x, y with
  | .ref d, .str z => ∃ ks v, DAt K w d ks ∧ ks.lookup z = some (some v) ∧ Q v H
  | _, _ => False
theorem ix_fxD : IxR X (fIxD X.K X.w) := by
  intro e1 e2 pins s σ H x y v u Q I rx ry h hs
  match x, y, rx, ry, h with
  | .ref d, .str z, rx, ry, ⟨ks, r, D, e, q⟩ =>
    obtain ⟨es, n, kd⟩ := D.ex
    obtain ⟨u0, e0, r0⟩ := ent_at (w := X.w) D.en e
    exact ix_kdict e1 e2 pins s σ H (.ref d) (.str z) v u Q I rx ry ⟨d, z, r, rfl, rfl, ⟨es, n, u0, kd.at_, kd.lit, e0, r0⟩, q⟩ hs
end
/-! ### scalars as data -/
def dV : V → PyData
  | .non => .none
  | .bl b => .bool b
  | .int i => .int i
  | .str z => .str z
  | _ => .none
def scV : V → Bool
  | .non => true
  | .bl _ => true
  | .int _ => true
  | .str _ => true
  | _ => false
theorem dpAll_sc {K : PySem.W.Frag} {H : Hp} : ∀ {xs : List V}, xs.all scV = true → DpAll K H xs (xs.map dV)
  | [], _ => .nil
  | x :: xs, h => by
    rw [List.all_cons, Bool.and_eq_true] at h
    refine .cons ?_ (dpAll_sc h.2)
    obtain ⟨h1, _⟩ := h
    cases x <;> first
      | exact .non
      | exact .bl _
      | exact .int _
      | exact .str _
      | (exact absurd h1 (by decide))
      | (cases h1)
theorem all_okd {xs : List V} (h : xs.all scV = true) : PyData.plainAll (xs.map dV) = true ∧ PyData.depthAll (xs.map dV) = 0 := by
  induction xs with
  | nil => exact ⟨rfl, rfl⟩
  | cons x xs ih =>
    rw [List.all_cons, Bool.and_eq_true] at h
    obtain ⟨i1, i2⟩ := ih h.2
    obtain ⟨h1, _⟩ := h
    have : (dV x).plain = true ∧ (dV x).depth = 0 := by cases x <;> first | exact ⟨rfl, rfl⟩ | cases h1
    rw [List.map_cons, PyData.plainAll, PyData.depthAll, this.1, this.2, i1, i2]
    exact ⟨rfl, rfl⟩
theorem tup_okd {xs : List V} (h : xs.all scV = true) : okd (.tuple (xs.map dV)) = true := by
  obtain ⟨h1, h2⟩ := all_okd h
  unfold okd
  rw [Bool.and_eq_true]
  exact ⟨by rw [PyData.plain]; exact h1, decide_eq_true (by rw [PyData.depth, h2]; decide)⟩
theorem lst_okd {xs : List V} (h : xs.all scV = true) : okd (.list (xs.map dV)) = true := by
  obtain ⟨h1, h2⟩ := all_okd h
  unfold okd
  rw [Bool.and_eq_true]
  exact ⟨by rw [PyData.plain]; exact h1, decide_eq_true (by rw [PyData.depth, h2]; decide)⟩
theorem tup_eqv {xs : List V} (h : xs.all scV = true) : PyData.eqv (.tuple (xs.map dV)) (.tuple (xs.map dV)) = true := SeqAt.eqv_refl_plain _ (by rw [PyData.plain]; exact (all_okd h).1)
theorem lst_eqv {xs : List V} (h : xs.all scV = true) : PyData.eqv (.list (xs.map dV)) (.list (xs.map dV)) = true := SeqAt.eqv_refl_plain _ (by rw [PyData.plain]; exact (all_okd h).1)
/-- two tuples of the same scalars are equal -/
theorem tup_same {K : PySem.W.Frag} {H : Hp} {p q : Addr} {xs : List V} (hp : SqT K H p xs) (hq : SqT K H q xs) (h : xs.all scV = true) {R : Bool → Prop} (k : R true) :
    ∃ d, Dp K H (.ref p) d ∧ ∃ e, Dp K H (.ref q) e ∧ okd d = true ∧ okd e = true ∧ R (PyData.eqv d e) :=
  ⟨_, .tup hp (dpAll_sc h), _, .tup hq (dpAll_sc h), tup_okd h, tup_okd h, by rw [tup_eqv h]; exact k⟩
theorem lst_same {K : PySem.W.Frag} {H : Hp} {p q : Addr} {xs : List V} (hp : SqL K H p xs) (hq : SqL K H q xs) (h : xs.all scV = true) {R : Bool → Prop} (k : R true) :
    ∃ d, Dp K H (.ref p) d ∧ ∃ e, Dp K H (.ref q) e ∧ okd d = true ∧ okd e = true ∧ R (PyData.eqv d e) :=
  ⟨_, .lst hp (dpAll_sc h), _, .lst hq (dpAll_sc h), lst_okd h, lst_okd h, by rw [lst_eqv h]; exact k⟩
end Fx

set_option Elab.async false
set_option linter.all false
set_option maxRecDepth 100000
/-! Tb: dicts whose keys are tuples of scalars (None and truth values among them), over Ex. -/
namespace Fx
open PySem PySem.Spec PyProof.Rows L2
def leafK : V → NestedKey
  | .bl b => .num (if b = true then 1 else 0)
  | .int i => .num i
  | .str z => .text z
  | _ => .none
/-- a tuple of scalars as a key -/
def tupK (xs : List V) : NestedKey := .tup (xs.map leafK)
abbrev NEnt := NestedKey × Addr × V
abbrev PU : List NEnt → List (NestedKey × Addr × Value) → Prop := Paired fun e u => e.1 = u.1 ∧ e.2.1 = u.2.1 ∧ RelV e.2.2 u.2.2
def atN (es : List NEnt) (k : NestedKey) : Option V := (es.find? fun e => decide (e.1 = k)).map (·.2.2)
def putN (es : List NEnt) (k : NestedKey) (a : Addr) (v : V) : List NEnt := if (atN es k).isSome = true then es.map (fun e => if e.1 = k then (e.1, e.2.1, v) else e) else es ++ [(k, a, v)]
def dropN (es : List NEnt) (k : NestedKey) : List NEnt := es.filter fun e => decide (e.1 ≠ k)
theorem PU.at {es : List NEnt} {us : List (NestedKey × Addr × Value)} (h : PU es us) (k : NestedKey) : RelO (atN es k) ((atKey us k).map (·.2)) := by
  induction h with
  | nil => exact True.intro
  | @cons p q ps qs h t ih =>
    obtain ⟨h1, h2, h3⟩ := h
    by_cases e : p.1 = k
    · have e' : q.1 = k := h1.symm.trans e
      have a : atN (p :: ps) k = some p.2.2 := by simp [atN, List.find?_cons, e]
      have b : atKey (q :: qs) k = some q.2 := by simp [atKey, List.find?_cons, e']
      rw [a, b]; exact h3
    · have e' : ¬ q.1 = k := fun z => e (h1.trans z)
      have a : atN (p :: ps) k = atN ps k := by simp [atN, List.find?_cons, e]
      have b : atKey (q :: qs) k = atKey qs k := by simp [atKey, List.find?_cons, e']
      rw [a, b]; exact ih
theorem PU.put {es : List NEnt} {us : List (NestedKey × Addr × Value)} (h : PU es us) (k : NestedKey) (a : Addr) {v : V} {u : Value} (rv : RelV v u) : PU (putN es k a v) (storedH us k a u) := by
  have e : (atN es k).isSome = (atKey us k).isSome := by rw [(h.at k).isSome_eq, Option.isSome_map]
  unfold putN storedH
  rw [e]
  by_cases q : (atKey us k).isSome = true
  · rw [if_pos q, if_pos q]
    clear q e
    induction h with
    | nil => exact .nil
    | @cons p q ps qs h t ih =>
      rw [List.map_cons, List.map_cons]
      refine .cons ?_ ih
      obtain ⟨h1, h2, h3⟩ := h
      unfold putAt
      by_cases e : p.1 = k
      · rw [if_pos e, if_pos (h1.symm.trans e)]; exact ⟨h1, h2, rv⟩
      · rw [if_neg e, if_neg (fun z => e (h1.trans z))]; exact ⟨h1, h2, h3⟩
  · rw [if_neg q, if_neg q]
    exact Paired.snoc h ⟨rfl, rfl, rv⟩
theorem PU.drop {es : List NEnt} {us : List (NestedKey × Addr × Value)} (h : PU es us) (k : NestedKey) : PU (dropN es k) (withoutH us k) := by
  unfold dropN withoutH
  induction h with
  | nil => exact .nil
  | @cons p q ps qs h t ih =>
    obtain ⟨h1, h2, h3⟩ := h
    rw [List.filter_cons, List.filter_cons]
    by_cases e : p.1 = k
    · have a : ¬ decide (p.1 ≠ k) = true := by simp [e]
      have b : ¬ decide (q.1 ≠ k) = true := by simp [h1.symm.trans e]
      rw [if_neg a, if_neg b]; exact ih
    · have e' : ¬ q.1 = k := fun z => e (h1.trans z)
      have a : decide (p.1 ≠ k) = true := by simp [e]
      have b : decide (q.1 ≠ k) = true := by simp [e']
      rw [if_pos a, if_pos b]; exact .cons ⟨h1, h2, h3⟩ ih
theorem putN_len (es : List NEnt) (k : NestedKey) (a : Addr) (v : V) : (putN es k a v).length ≤ es.length + 1 := by
  unfold putN
  split
  · rw [List.length_map]; omega
  · rw [List.length_append, List.length_cons, List.length_nil]; omega
/-- such a dict -/
def nkO (w : World) (d : Addr) (es : List NEnt) : HO := .ext fun h => es.length ≤ sizeLine ∧ (d == sysModules) = false ∧ ∃ us, PU es us ∧ ∃ o en ep, h.get? d = some o ∧ o.ExactDict ∧ o.data = .dict en ep ∧
  en.toList = us.map (fun u => (⟨u.1.hash w, .ref u.2.1, u.2.2⟩ : DictEntry)) ∧ (us.map (·.1)).Nodup
theorem nkO_ne_tup {w : World} {d : Addr} {es : List NEnt} {xs : List V} : nkO w d es ≠ .tup xs := fun z => by
  have z' : HO.ext _ = HO.tup xs := z
  cases z'
/-- the key's own tuple -/
def KeyT (H : Hp) (k : NestedKey) (a : Addr) : Prop := ∃ xs, H a = some (.tup xs) ∧ xs.all scV = true ∧ k = tupK xs
structure DN (w : World) (H : Hp) (d : Addr) (es : List NEnt) : Prop where
  rd : Rd H d (nkO w d es)
  ks : ∀ e ∈ es, KeyT H e.1 e.2.1
theorem KeyT.mono {H H' : Hp} {k : NestedKey} {a : Addr} (h : KeyT H k a) (s : ∀ b xs, H b = some (.tup xs) → H' b = some (.tup xs)) : KeyT H' k a := h.imp fun _ ⟨e, r⟩ => ⟨s _ _ e, r⟩
section
variable {P : Program} {w : World} {H : Hp} {h : Heap} {a d : Addr} {es : List NEnt}
theorem nested_leaf {x : V} {u : Value} (r : RelV x u) (hs : scV x = true) : NestedIs h (leafK x) u := by
  cases x <;> first
    | (cases r; exact .none)
    | (cases r; exact .bool rfl)
    | (obtain ⟨t, rfl⟩ := r; exact .int _ t)
    | (obtain ⟨t, rfl⟩ := r; exact .text _ t)
    | cases hs
theorem nested_all : ∀ {xs : List V} {us : List Value}, Vals xs us → xs.all scV = true → NestedAll h (xs.map leafK) us
  | _, _, .nil, _ => .nil
  | _, _, .cons r t, hs => by
    rw [List.all_cons, Bool.and_eq_true] at hs
    exact .cons (nested_leaf r hs.1) (nested_all t hs.2)
theorem leaf_depth (x : V) : (leafK x).depth = 0 := by cases x <;> rfl
theorem leaf_depths : ∀ xs : List V, NestedKey.depthAll (xs.map leafK) = 0
  | [] => rfl
  | x :: xs => by rw [List.map_cons, NestedKey.depthAll, leaf_depth, leaf_depths xs]; rfl
theorem KeyT.is {k : NestedKey} (ok : HOk P w H h) (e : KeyT H k a) : (nestedKind P w).is h k a := by
  obtain ⟨xs, e, hs, rfl⟩ := e
  obtain ⟨_, its, r, o, h1, h2, n, h3⟩ := (show ObjOk P w H h a (.tup xs) from ok a _ e)
  refine ⟨.tup h1 h2 h3 (by simpa using nested_all r hs), ?_⟩
  show NestedKey.depthAll (xs.map leafK) + 1 ≤ 8
  rw [leaf_depths]; decide
theorem DN.of (D : DN w H d es) (ok : HOk P w H h) : es.length ≤ sizeLine ∧ (d == sysModules) = false ∧ ∃ us, PU es us ∧ h.DictOfH (nestedKind P w) d us := by
  have x : ObjOk P w H h d (nkO w d es) := D.rd.ok ok
  obtain ⟨⟨z, hd, us, r, o, en, ep, h1, h2, h3, h4, h5⟩, _⟩ := x
  refine ⟨z, hd, us, r, o, en, ep, h1, h2, h3, h4, ?_, h5⟩
  intro x hx
  have all : ∀ {l : List NEnt} {m : List (NestedKey × Addr × Value)}, PU l m → (∀ e ∈ l, KeyT H e.1 e.2.1) → ∀ x ∈ m, (nestedKind P w).is h x.1 x.2.1 := by
    intro l m q
    induction q with
    | nil => intro _ x hx; exact nomatch hx
    | @cons p q ps qs hq t ih =>
      intro hk x hx
      rcases List.mem_cons.mp hx with e | hx
      · subst e
        have := (hk p (List.mem_cons_self ..)).is ok
        rw [hq.1, hq.2.1] at this
        exact this
      · exact ih (fun e he => hk e (List.mem_cons_of_mem _ he)) x hx
  exact all r D.ks x hx
theorem nkO_ok {us : List (NestedKey × Addr × Value)} (z : es.length ≤ sizeLine) (hd : (d == sysModules) = false) (r : PU es us) (dd : h.DictOfH (nestedKind P w) d us) : ObjOk P w H h d (nkO w d es) := by
  obtain ⟨o, en, ep, h1, h2, h3, h4, _, h5⟩ := dd
  exact ⟨⟨z, hd, us, r, o, en, ep, h1, h2, h3, h4, h5⟩, ⟨o, h1⟩, fun g1 g2 ⟨_, _, us', r', o', en', ep', k1, k2, k3, k4, k5⟩ k => ⟨z, hd, us', r', o', en', ep', k _ k1, k2, k3, k4, k5⟩⟩
end
section
variable {X : Cx} {pins : List (Addr × Obj)} {σ : L2.St} {H : Hp} {s : Shared} {d q : Addr} {es : List NEnt} {xs : List V} {A : Around} {E : Value → Shared → Prop}
theorem room_n (hu : A.units + 64 < cLine) : (nestedKind X.prog X.w).room A.in1 := by
  show A.units + 1 + 8 < cLine
  omega
theorem n_getItem {v : V} {Q : Value → Shared → Prop} (hu : A.units + 64 < cLine) (I : Inv X pins σ H s) (D : DN X.w H d es) (hq : KeyT H (tupK xs) q) (e : atN es (tupK xs) = some v) (h : ∀ w' s', Inv X pins σ H s' → RelV v w' → Q w' s') :
    wpAny (model X.prog X.w) A (getItem (.ref d) (.ref q)) Q E s := by
  obtain ⟨z, hd, us, r, dd⟩ := D.of I.hok
  obtain ⟨w', hw, rw'⟩ := RelO.some_of (v := v) (o := (atKey us (tupK xs)).map (·.2)) (by rw [← e]; exact r.at _)
  obtain ⟨p, hp, hp2⟩ := Option.map_eq_some_iff.mp hw
  refine wpAny_getItem_heap (room_n hu) (hq.is I.hok) dd hp ?_
  rw [hp2]
  exact h w' _ (I.tok _) rw'
theorem n_in {Q : Value → Shared → Prop} (hu : A.units + 64 < cLine) (I : Inv X pins σ H s) (D : DN X.w H d es) (hq : KeyT H (tupK xs) q) (h : ∀ s', Inv X pins σ H s' → Q (.bool (atN es (tupK xs)).isSome) s') :
    wpAny (model X.prog X.w) A (compareOp .In (.ref q) (.ref d)) Q E s := by
  obtain ⟨z, hd, us, r, dd⟩ := D.of I.hok
  refine wpAny_in_heap (room_n hu) (hq.is I.hok) hd dd ?_
  have qq := (r.at (tupK xs)).isSome_eq
  rw [Option.isSome_map] at qq
  rw [← qq]
  exact h _ (I.tok _)
theorem n_setItem {v : V} {u : Value} {Q : Unit → Shared → Prop} (hu : A.units + 64 < cLine) (I : Inv X pins σ H s) (D : DN X.w H d es) (e0 : H d = some (nkO X.w d es)) (hq : KeyT H (tupK xs) q) (hl : es.length < sizeLine) (rv : RelV v u)
    (h : ∀ s', Inv X pins σ (upd H d (nkO X.w d (putN es (tupK xs) q v))) s' → Q () s') : wpAny (model X.prog X.w) A (setItem (.ref d) (.ref q) u) Q E s := by
  obtain ⟨z, hd, us, r, dd⟩ := D.of I.hok
  have hz : us.length ≤ sizeLine := by rw [← Paired.length r]; exact z
  refine wpAny_setItem_heap (hsz := hz) (room_n hu) (hq.is I.hok) dd fun h' dd' hs => h _ ?_
  have he : ∃ q, h'.get? d = some q := let ⟨q, _, _, hq, _⟩ := dd'; ⟨q, hq⟩
  exact d_write I (by rw [e0]; exact True.intro) hs he (nkO_ok (Nat.le_trans (putN_len ..) hl) hd (r.put _ _ rv) dd')
theorem n_delItem {Q : Unit → Shared → Prop} (hu : A.units + 64 < cLine) (I : Inv X pins σ H s) (D : DN X.w H d es) (e0 : H d = some (nkO X.w d es)) (hq : KeyT H (tupK xs) q) (e : (atN es (tupK xs)).isSome = true)
    (h : ∀ s', Inv X pins σ (upd H d (nkO X.w d (dropN es (tupK xs)))) s' → Q () s') : wpAny (model X.prog X.w) A (delItem (.ref d) (.ref q)) Q E s := by
  obtain ⟨z, hd, us, r, dd⟩ := D.of I.hok
  have hz : us.length ≤ sizeLine := by rw [← Paired.length r]; exact z
  have qq := (r.at (tupK xs)).isSome_eq
  rw [Option.isSome_map, e] at qq
  obtain ⟨p, hp⟩ := Option.isSome_iff_exists.mp qq.symm
  refine wpAny_delItem_heap (hsz := hz) (room_n hu) (hq.is I.hok) hd dd hp fun h' dd' hs => h _ ?_
  have he : ∃ q, h'.get? d = some q := let ⟨q, _, _, hq, _⟩ := dd'; ⟨q, hq⟩
  exact d_write I (by rw [e0]; exact True.intro) hs he (nkO_ok (Nat.le_trans (List.length_filter_le _ _) z) hd (r.drop _) dd')
end
/-! ### readings and rules -/
def isKey (H : Hp) (q : Addr) (xs : List V) : Prop := H q = some (.tup xs) ∧ xs.all scV = true
theorem isKey.t {H : Hp} {q : Addr} {xs : List V} (h : isKey H q xs) : KeyT H (tupK xs) q := ⟨xs, h.1, h.2, rfl⟩
def fGetN (w : World) (td ty : TE) : TE := fun σ H Q => td σ H fun x H1 => ty σ H1 fun y H2 => match x, y with
  | .ref d, .ref q => ∃ es xs v, DN w H2 d es ∧ isKey H2 q xs ∧ atN es (tupK xs) = some v ∧ Q v H2
  | _, _ => False
def fInN (w : World) (ty td : TE) : TE := fun σ H Q => ty σ H fun y H1 => td σ H1 fun x H2 => match x, y with
  | .ref d, .ref q => ∃ es xs, DN w H2 d es ∧ isKey H2 q xs ∧ Q (.bl (atN es (tupK xs)).isSome) H2
  | _, _ => False
def sPutN (w : World) (td ty tv : TE) : TS := fun D σ H => tv σ H fun v H1 => td σ H1 fun x H2 => ty σ H2 fun y H3 => match x, y with
  | .ref d, .ref q => ∃ es xs, DN w H3 d es ∧ H3 d = some (nkO w d es) ∧ isKey H3 q xs ∧ es.length < sizeLine ∧ D.nx σ (upd H3 d (nkO w d (putN es (tupK xs) q v)))
  | _, _ => False
def sDelN (w : World) (td ty : TE) : TS := fun D σ H => td σ H fun x H1 => ty σ H1 fun y H2 => match x, y with
  | .ref d, .ref q => ∃ es xs, DN w H2 d es ∧ H2 d = some (nkO w d es) ∧ isKey H2 q xs ∧ (atN es (tupK xs)).isSome = true ∧ D.nx σ (upd H2 d (nkO w d (dropN es (tupK xs))))
  | _, _ => False
def fNewN (w : World) : TE := fun _ H Q => ∀ p H2, H p = none → Same H H2 → H2 p = some (nkO w p []) → Q (.ref p) H2
def fLenN (w : World) : List V → Hp → VK → Prop := fun xs H Q => match xs with
  | [.ref d] => ∃ es, DN w H d es ∧ Q (.int es.length) H
  | _ => False
section
variable {X : Cx} {o i e value : Expr} {pos pos' tpos : Pos} {td ty tv : TE}
theorem pe_getN {w : World} (hw : X.w = w) (hu : X.A.units + 64 < cLine) (ho : PE X o td) (hi : PE X i ty) (hs : NoSl i) : PE X (.Subscript o i pos) (fGetN w td ty) := by
  subst hw
  refine ⟨fun pins s σ H Q I h => ?_⟩
  refine subD_of PySem.F.slot_dict_getitem.lookup hs (thn (ho.run pins s σ H _ I h) fun u s1 ⟨x, H1, I1, rx, q1⟩ => thn (hi.run pins s1 σ H1 _ I1 q1) fun iv s2 ⟨y, H2, I2, ry, q2⟩ => ?_)
  match x, y, rx, ry, q2 with
  | .ref d, .ref q, rx, ry, ⟨es, xs, v, D, kq, ev, q2⟩ =>
    obtain rfl : u = Value.ref d := rx
    obtain rfl : iv = Value.ref q := ry
    obtain ⟨_, _, us, _, dd⟩ := D.of I2.hok
    exact ⟨dd.typeIs, n_getItem hu I2 D kq.t ev fun w' s3 I3 rw' => ⟨v, H2, I3, rw', q2⟩⟩
theorem pc_inN {w : World} (hw : X.w = w) (hu : X.A.units + 64 < cLine) (hi : PE X i ty) (ho : PE X o td) : PC X .In i o (fInN w ty td) := by
  subst hw
  refine ⟨fun pins s σ H Q I h => ?_⟩
  refine thn (hi.run pins s σ H _ I h) fun iv s1 ⟨y, H1, I1, ry, q1⟩ => thn (ho.run pins s1 σ H1 _ I1 q1) fun u s2 ⟨x, H2, I2, rx, q2⟩ => ?_
  match x, y, rx, ry, q2 with
  | .ref d, .ref q, rx, ry, ⟨es, xs, D, kq, q2⟩ =>
    obtain rfl : u = Value.ref d := rx
    obtain rfl : iv = Value.ref q := ry
    exact n_in hu I2 D kq.t fun s3 I3 => ⟨.bl _, H2, I3, rfl, q2⟩
theorem ps_putN {w : World} (hw : X.w = w) (hu : X.A.units + 64 < cLine) (ho : PE X o td) (hi : PE X i ty) (hv : PE X value tv) (hs : swapsWith value (some (.Subscript o i pos')) pos.line X.env = pure false) :
    PS X (.Assign [.Subscript o i pos'] value pos) (sPutN w td ty tv) := by
  subst hw
  refine ⟨fun pins s σ H D I h => ?_⟩
  refine wpAny_Assign_Subscript (thn (hv.run pins s σ H _ I h) fun r s1 ⟨v, H1, I1, rv, q1⟩ => thn (ho.run pins s1 σ H1 _ I1 q1) fun u s2 ⟨x, H2, I2, rx, q2⟩ => thn (hi.run pins s2 σ H2 _ I2 q2) fun iv s3 ⟨y, H3, I3, ry, q3⟩ => ?_) hs
  match x, y, rx, ry, q3 with
  | .ref d, .ref q, rx, ry, ⟨es, xs, Dn, e0, kq, hl, q3⟩ =>
    obtain rfl : u = Value.ref d := rx
    obtain rfl : iv = Value.ref q := ry
    exact n_setItem hu I3 Dn e0 kq.t hl rv fun s4 I4 => ⟨σ, _, I4, q3⟩
theorem ps_delN {w : World} (hw : X.w = w) (hu : X.A.units + 64 < cLine) (ho : PE X o td) (hi : PE X i ty) : PS X (.Delete [.Subscript o i tpos] pos) (sDelN w td ty) := by
  subst hw
  refine ⟨fun pins s σ H D I h => ?_⟩
  refine wpAny_Delete (wpAny_deleteEach_cons (wpAny_delete_Subscript (thn (ho.run pins s σ H _ I h) fun u s1 ⟨x, H1, I1, rx, q1⟩ => thn (hi.run pins s1 σ H1 _ I1 q1) fun iv s2 ⟨y, H2, I2, ry, q2⟩ => ?_)))
  match x, y, rx, ry, q2 with
  | .ref d, .ref q, rx, ry, ⟨es, xs, Dn, e0, kq, l, q2⟩ =>
    obtain rfl : u = Value.ref d := rx
    obtain rfl : iv = Value.ref q := ry
    exact n_delItem hu I2 Dn e0 kq.t l fun s3 I3 => wpAny_deleteEach_nil ⟨σ, _, I3, q2⟩
theorem pe_newN {w : World} (hw : X.w = w) : PE X (.Dict [] [] pos) (fNewN w) := by
  subst hw
  refine ⟨fun pins s σ H Q I h => ?_⟩
  refine wpAny_Dict_empty ?_
  have hf : H s.heap.objs.size = none := I.hok.fresh (Nat.le_refl _)
  refine ⟨.ref s.heap.objs.size, upd H s.heap.objs.size (nkO X.w s.heap.objs.size []), I.laid (t' := s.toks) (fun b u e => Heap.get?_push_of_some _ e) (Nat.le_refl _) ?_, rfl, h _ _ hf (same_new hf) upd_same⟩
  exact nkO_ok (us := []) (Nat.zero_le _) (beq_eq_false_iff_ne.mpr (Ne.symm (Nat.ne_of_lt I.big))) .nil (Heap.DictOfH.new _)
theorem call_fLenN {w : World} (hw : X.w = w) : CallR X (.builtin "len") (fLenN w) := by
  subst hw
  intro pins s σ H xs us Q I r h
  match xs, r, h with
  | [.ref d], r, ⟨es, D, q⟩ =>
    obtain ⟨u, rfl, rx⟩ := vals1 r
    obtain rfl : u = .ref d := rx
    obtain ⟨z, hd, ys, rel, dd⟩ := D.of I.hok
    have hl : es.length = ys.length := Paired.length rel
    refine call_len_dictH hd dd (by rw [← hl]; rw [sizeLine_eq] at z; omega) ?_
    rw [← hl]
    exact ⟨.int ((es.length : Nat) : Int), H, I.tok _, ⟨_, rfl⟩, q⟩
end
/-! ### its keys, walked (the dict locked) -/
def Itn (w : World) (d : Addr) (o : Obj) (es : List NEnt) : It :=
  ⟨fun i H => H d = some (.frz o (nkO w d es)) ∧ i < es.length, fun i H x H' => H' = H ∧ ∃ e, es[i]? = some e ∧ x = .ref e.2.1, fun i H => H d = some (.frz o (nkO w d es)) ∧ es.length ≤ i⟩
theorem Inv.frzN {X : Cx} {pins : List (Addr × Obj)} {σ : L2.St} {H : Hp} {s : Shared} {d : Addr} {o : Obj} {es : List NEnt} (I : Inv X pins σ H s) (h : H d = some (.frz o (nkO X.w d es))) :
    (d == sysModules) = false ∧ s.heap.get? d = some o ∧ o.ExactDict ∧ ∃ (en : Array DictEntry) (ep : Nat), o.data = .dict en ep ∧ en.size = es.length ∧
      ∀ (i : Nat) (e : NEnt), es[i]? = some e → ∃ (x : DictEntry), en[i]? = some x ∧ x.key = .ref e.2.1 := by
  obtain ⟨hd, ⟨z, hs, us, r, o', en, ep, ho, hx, hdt, he, _⟩, _⟩ := I.hok d _ h
  rw [hd] at ho
  cases ho
  refine ⟨hs, hd, hx, en, ep, hdt, ?_, fun i e hi => ?_⟩
  · have l1 : en.toList.length = us.length := by rw [he, List.length_map]
    have l2 : es.length = us.length := Paired.length r
    rw [Array.length_toList] at l1
    omega
  · obtain ⟨b, hb, e1, e2, _⟩ := paired_get r hi
    refine ⟨⟨b.1.hash X.w, .ref b.2.1, b.2.2⟩, ?_, by rw [e2]⟩
    rw [← Array.getElem?_toList, he, List.getElem?_map, hb]
    rfl
theorem turn_keysN {P : Program} {w : World} {K : PySem.W.Frag} {tg : Expr} {d : Addr} {o : Obj} {en : Array DictEntry} {ep : Nat} {es : List NEnt} (it : Addr) (hod : o.data = .dict en ep) : Turn P w K tg (Itn w d o es) [it] it (fun i h => h.IsKeyIter it d i es.length ep) where
  mem := by simp
  obj := fun i h st b hb => by
    have e : b = it := by simpa using hb
    subst e
    obtain ⟨oi, e, c, dd⟩ := st
    exact ⟨oi, e, fun v z => by rw [dd] at z; cases z⟩
  keep := fun i h h' st k => st.at fun oi e => k it (by simp) oi e
  item := by
    intro X hP hw hK hc i pins s σ H E I hf st hg
    subst hP hw hK
    obtain ⟨hd, hi⟩ := hg
    obtain ⟨f0, f1, f2, f3, f4, f5⟩ := hf it (by simp)
    obtain ⟨hs, hgd, hx, es', ep', hdt, hsz, ent⟩ := Inv.frzN I hd
    obtain ⟨rfl, rfl⟩ := dict_ep hod hdt
    obtain ⟨e, he⟩ : ∃ p, es[i]? = some p := ⟨es[i], List.getElem?_eq_getElem hi⟩
    obtain ⟨x, hen, hkey⟩ := ent i e he
    refine next_key_item st hgd hdt hsz hen fun h' st' sb => ?_
    have I1 : Inv X pins σ H { s with heap := h' } := I.turned (t' := s.toks) (fun b ob hb e => (sb.2 b hb).trans e) f0 f1 f3 f4 f5
    obtain ⟨oi, e', c, dd⟩ := id st'
    exact ⟨x.key, rfl, go_of (s := { s with heap := h' }) e' c dd (by decide) ⟨.ref e.2.1, H, I1, hkey, ⟨rfl, e, he, rfl⟩, st', fun b hb => (hf b hb).1⟩⟩
  done := by
    intro X hP hw hK hc i pins s σ H E I hf st hg
    subst hP hw hK
    obtain ⟨hd, hi⟩ := hg
    obtain ⟨f0, f1, f2, f3, f4, f5⟩ := hf it (by simp)
    obtain ⟨hs, hgd, hx, es', ep', hdt, hsz, ent⟩ := Inv.frzN I hd
    obtain ⟨rfl, rfl⟩ := dict_ep hod hdt
    exact next_key_end (I.ok.hd hc) st hgd hdt hsz hi fun h' eb => ⟨rfl, I.turned (t' := s.toks) (fun b ob hb e => eb b ob hb e) f0 f1 f3 f4 f5⟩
  self := fun A i s Q E st h => by
    refine wpAny_pyIter_slot st.typeIs F.slot_dict_keyiterator_iter (wpAny_call_entry F.slot_dict_keyiterator_iter st.typeIs F.entry_dict_keyiterator_iter ?_ (F.args_dict_keyiterator_iter_1 _))
    show wpAny _ _ (ret (.ref it)) _ _ s
    exact wpAny_pure ⟨_, rfl, "dict_keyiterator", _, st.typeIs, F.slot_dict_keyiterator_next.lookup, h⟩
def iKeysN (w : World) (td : TE) : TI := fun σ H R => td σ H fun x H1 => match x with
  | .ref d => ∃ o es, H1 d = some (.frz o (nkO w d es)) ∧ R (Itn w d o es) H1
  | _ => False
theorem walk_keysN {w : World} {d : Addr} {o : Obj} {es : List NEnt} : Walk (Itn w d o es) es.length (fun H => H d = some (.frz o (nkO w d es))) (fun i H x H' => H' = H ∧ ∃ e, es[i]? = some e ∧ x = .ref e.2.1) :=
  ⟨fun _ _ hi q => ⟨q, hi⟩, fun _ q => ⟨q, Nat.le_refl _⟩, fun _ _ _ _ _ _ y => y⟩
section
variable {X : Cx} {tg e : Expr} {td : TE}
theorem pi_keysN {w : World} (hw : X.w = w) (he : PE X e td) : PI X tg e (iKeysN w td) := by
  subst hw
  refine ⟨fun pins s σ H R I h => ?_⟩
  refine thn (he.run pins s σ H _ I h) fun u s1 ⟨x, H1, I1, rx, q⟩ => ?_
  match x, rx, q with
  | .ref d, rx, ⟨o, es, hd, q⟩ =>
    obtain rfl : u = Value.ref d := rx
    obtain ⟨hs, hgd, hx, en, ep, hdt, hsz, ent⟩ := Inv.frzN I1 hd
    refine iter_keys hs hgd hx hdt (pi_one (tk := s1.toks) I1 _ (turn_keysN _ hdt) ⟨_, Heap.get?_push_size _ rfl, rfl, ?_⟩ q)
    rw [hsz] <;> rfl
end
theorem lcx_keysN {w : World} {d0 : Addr} {o : Obj} {es : List NEnt} {g : TG} {tt : TT} {te : TE} {vs : List Nat} {σ : L2.St} {H1 : Hp} {D : Addr} {Q : VK} (Pv : Nat → Hp → Prop) (h0 : Pv 0 (upd H1 D (.lst []))) (hl : ∀ i H, i ≤ es.length → Pv i H → H d0 = some (.frz o (nkO w d0 es)))
    (hs : ∀ i x H, es[i]? = some x → Pv i H → g (.ref x.2.1) (wipe σ vs) H fun σ2 H2 => wipe σ2 vs = wipe σ vs ∧ tt σ2 H2 fun b H3 =>
      if b = true then te σ2 H3 fun y H4 => ∃ acc, H4 D = some (.lst acc) ∧ acc.length < sizeLine ∧ Pv (i + 1) (upd H4 D (.lst (acc ++ [y]))) else Pv (i + 1) H3) (hd : ∀ H, Pv es.length H → Q (.ref D) H) : Lc (Itn w d0 o es) g tt te vs σ H1 D Q :=
  lc_it walk_keysN Pv h0 hl (fun i x H H' hi p y => by
    obtain ⟨rfl, e, he, rfl⟩ := y
    exact hs i e _ he p) hd
/-! ### properties -/
structure HasP (P : Program) (w : World) (K : PySem.W.Frag) (mg : Str → Option Value) (base : Heap) (CX : CXT) (C : Addr) (x : Str) (k : Nat) (ps : List Str) (sp : Sp) : Prop where
  ex : ∃ (p g : Addr) (fd : FuncData), PropOf K C x p g ∧ FnOk P w K mg base CX k g fd ps sp ∧ Binds K fd ps []
/-- a property's getter as it stands -/
structure AtP (K : PySem.W.Frag) (C : Addr) (x qual : Str) (st : Stmt) (ps : List Str) : Prop where
  ex : ∃ (p g : Addr) (fd : FuncData), Fun K x qual st g fd ∧ Binds K fd ps [] ∧ PropOf K C x p g
structure PFact (K : PySem.W.Frag) (C : Addr) (x qual : Str) (st : Stmt) : Prop where
  ex : ∃ (p f : Addr) (oc : Value) (od an : Option Addr) (sl : Array (Option Value)) (kV dc pm cd ct : Value),
    PropOf K C x p f ∧ K.lookup f = some ⟨oc, od, .func (PySem.W.fnOf x qual (defArgs st) (defBody st) (defScope st) .none kV dc pm an cd ct), sl⟩ ∧ PySem.W.codeIn K cd qual = true ∧ PySem.W.keepIn K (.ref f) = true
theorem PFact.of {K : PySem.W.Frag} {C : Addr} {x qual : Str} {st : Stmt} {p f : Addr} {oc : Value} {od an : Option Addr} {sl : Array (Option Value)} {kV dc pm cd ct : Value} {rest : List Value}
    (a : PySem.W.findIn K (.ref C) x = some (some (.ref p))) (g : PySem.W.specialIn K (.ref p) "__get__" = some (some (.builtin "property.__get__"))) (t : PySem.W.takesIn K (.ref p) = some true) (r : PySem.W.recIn K p "property" = some (.ref f :: rest))
    (l : K.lookup f = some ⟨oc, od, .func (PySem.W.fnOf x qual (defArgs st) (defBody st) (defScope st) .none kV dc pm an cd ct), sl⟩)
    (c : PySem.W.codeIn K cd qual = true) (k : PySem.W.keepIn K (.ref f) = true) : PFact K C x qual st := ⟨p, f, oc, od, an, sl, kV, dc, pm, cd, ct, ⟨a, g, t, rest, r⟩, l, c, k⟩
theorem AtP.of {K : PySem.W.Frag} {C : Addr} {x qual : Str} {st : Stmt} {ps : List Str} (F : PFact K C x qual st)
    (hb : ∀ (kV doc pm : Value) (an : Option Addr) (cdv ct : Value) (us : List Value), us.length = ps.length → bindArgs (PySem.W.fnOf x qual (defArgs st) (defBody st) (defScope st) .none kV doc pm an cdv ct) ⟨us, []⟩ = pure (ps.zip us)) : AtP K C x qual st ps := by
  obtain ⟨p, f, oc, od, an, sl, kV, dc, pm, cd, ct, pr, l, c, k⟩ := F.ex
  have F1 := fun_mk (st := st) l c k
  exact ⟨_, _, _, F1, F1.binds hb, pr⟩
theorem hasP_of {P : Program} {w : World} {K : PySem.W.Frag} {mg : Str → Option Value} {base : Heap} {C : Addr} {x qual : Str} {st : Stmt} {N ps : List Str} {k : Nat} {sp : Sp} (A : AtP K C x qual st ps) (S : FnScope N ps (defScope st)) (len : ∀ vs H Q E, sp vs H Q E → vs.length = ps.length)
    (hbody : ∀ (cdv : Value) (f : Addr) (A : Around) (outer : List Env) (s : Shared) (H : Hp) (vs : List V) (Q : VK) (E : XK), Room k (A.deeper (envOfC qual (defScope st) s.heap.objs.size f cdv)) → sp vs H Q E →
      ∃ t, PSs (cxOf CX0 P w K mg base N qual (defScope st) f cdv A outer s H E).nox (defBody st) t ∧ t { nx := fun _ H' => Q .non H', rt := Q } (start N vs) H) : HasP P w K mg base CX0 C x (k + 1) ps sp := by
  obtain ⟨p, f, fd, F, B, G⟩ := A.ex
  exact ⟨p, f, fd, G, F.ok S len fun cdv A outer s H vs Q E hr h => hbody cdv f A outer s H vs Q E hr h, B⟩
def fProp (C : Addr) (sp : Sp) (E : XK) (ta : TE) : TE := fun σ H Q => ta σ H fun x H1 => match x with
  | .ref a => match H1 a with
    | some (.ins D _ _) => D = C ∧ sp [.ref a] H1 Q E
    | _ => False
  | _ => False
theorem fe_prop {X : Cx} {CX : CXT} {k : Nat} {C : Addr} {x : Str} {ps : List Str} {sp : Sp} {E : XK} {e : Expr} {pos : Pos} {ta : TE} (h : HasP X.prog X.w X.K X.mg X.base CX C x k ps sp) (c : Cls X.K C) (hr : Room (k + 1) X.A) (hx : Passes CX X.nox E) (he : PE X e ta)
    (hab : attributeBase e x X.env (eval e X.env) = eval e X.env) : PE X (.Attribute e x pos) (fProp C sp E ta) := by
  obtain ⟨p, g, fd, hp, F, B⟩ := h.ex
  refine pe_wk (pe_prop (pe_clos he) c hp F hr B .nil hx hab) fun σ H Q q => ⟨_, q, fun y H1 q1 => ?_⟩
  match y, q1 with
  | .ref a, q1 =>
    dsimp only at q1
    split at q1
    · obtain ⟨h1, q2⟩ := q1
      rename_i D dx fs ea
      subst h1
      exact ⟨_, _, _, rfl, ea, q2⟩
    · exact q1.elim
end Fx

set_option Elab.async false
set_option linter.all false
set_option maxRecDepth 100000
/-! Mr: list methods, dicts with text keys, exceptions as values, by value, over Tb. -/
namespace Fx
open PySem PySem.Spec PyProof.Rows L2
section
variable {X : Cx}
/-! ### list methods -/
def fPop : V → List V → Hp → VK → Prop := fun x vs H Q => match x, vs with
  | .ref l, [] => match H l with
    | some (.lst xs) => ∃ y, xs[xs.length - 1]? = some y ∧ Q y (upd H l (.lst xs.dropLast))
    | _ => False
  | _, _ => False
theorem mt_fPop : MtR X "list.pop" fPop := by
  intro pins s σ H x xs v us Q I rx rs h
  unfold fPop at h
  split at h
  · split at h
    · obtain ⟨y, h1, h2⟩ := h
      exact mt_pop pins s σ H _ _ v us Q I rx rs ⟨_, _, y, rfl, rfl, by assumption, h1, h2⟩
    · exact h.elim
  · exact h.elim
def fPopAt : V → List V → Hp → VK → Prop := fun x vs H Q => match x, vs with
  | .ref l, [.int i] => match H l with
    | some (.lst xs) => ∃ k y, ixN xs.length i = some k ∧ xs[k]? = some y ∧ xs.length ≤ 100000 ∧ Q y (upd H l (.lst (xs.eraseIdx k)))
    | _ => False
  | _, _ => False
theorem mt_fPopAt : MtR X "list.pop" fPopAt := by
  intro pins s σ H x xs v us Q I rx rs h
  unfold fPopAt at h
  split at h
  · split at h
    · obtain ⟨k, y, h1, h2, h4, h3⟩ := h
      obtain ⟨e, _, lo, hi⟩ := ixN_seq h1
      exact mt_popAt pins s σ H _ _ v us Q I rx rs ⟨_, _, _, k, y, rfl, rfl, by assumption, by omega, by omega, e, h2, h3⟩
    · exact h.elim
  · exact h.elim
def fReverse : V → List V → Hp → VK → Prop := fun x vs H Q => match x, vs with
  | .ref l, [] => match H l with
    | some (.lst xs) => Q .non (upd H l (.lst xs.reverse))
    | _ => False
  | _, _ => False
theorem mt_fReverse : MtR X "list.reverse" fReverse := by
  intro pins s σ H x xs v us Q I rx rs h
  unfold fReverse at h
  split at h
  · split at h
    · exact mt_reverse pins s σ H _ _ v us Q I rx rs ⟨_, _, rfl, rfl, by assumption, h⟩
    · exact h.elim
  · exact h.elim
def fExtend : V → List V → Hp → VK → Prop := fun x vs H Q => match x, vs with
  | .ref l, [.ref b] => match H l, H b with
    | some (.lst xs), some (.lst zs) => xs.length + zs.length ≤ sizeLine ∧ Q .non (upd H l (.lst (xs ++ zs)))
    | _, _ => False
  | _, _ => False
theorem mt_fExtend : MtR X "list.extend" fExtend := by
  intro pins s σ H x xs v us Q I rx rs h
  unfold fExtend at h
  split at h
  · split at h
    · exact mt_extend pins s σ H _ _ v us Q I rx rs ⟨_, _, _, _, rfl, rfl, by assumption, by assumption, h⟩
    · exact h.elim
  · exact h.elim
def fInsert : V → List V → Hp → VK → Prop := fun x vs H Q => match x, vs with
  | .ref l, [.int i, y] => match H l with
    | some (.lst xs) => xs.length < sizeLine ∧ 0 ≤ i ∧ i < 2 ^ 63 ∧ Q .non (upd H l (.lst (xs.take i.toNat ++ [y] ++ xs.drop i.toNat)))
    | _ => False
  | _, _ => False
theorem mt_fInsert : MtR X "list.insert" fInsert := by
  intro pins s σ H x xs v us Q I rx rs h
  unfold fInsert at h
  split at h
  · split at h
    · exact mt_insert pins s σ H _ _ v us Q I rx rs ⟨_, _, _, _, rfl, rfl, by assumption, h⟩
    · exact h.elim
  · exact h.elim
/-! ### dicts with text (and number) keys -/
def keyV : V → Option Key
  | .int i => some (.inl i)
  | .str z => some (.inr z)
  | _ => none
theorem keyV_kV {x : V} {k : Key} (h : keyV x = some k) : x = kV k := by
  cases x <;> first
    | (cases h; rfl)
    | cases h
def fGetK (td ty : TE) : TE := fun σ H Q => td σ H fun x H1 => ty σ H1 fun y H2 => match x, keyV y with
  | .ref a, some k => ∃ kvs v, Rd H2 a (.dK kvs) ∧ valV kvs k = some v ∧ Q v H2
  | _, _ => False
def fInK (neg : Bool) (ty td : TE) : TE := fun σ H Q => ty σ H fun y H1 => td σ H1 fun x H2 => match x, keyV y with
  | .ref a, some k => ∃ kvs, Rd H2 a (.dK kvs) ∧ Q (.bl (if neg = true then !(valV kvs k).isSome else (valV kvs k).isSome)) H2
  | _, _ => False
def sPutK (td ty tv : TE) : TS := fun D σ H => tv σ H fun v H1 => td σ H1 fun x H2 => ty σ H2 fun y H3 => match x, keyV y with
  | .ref a, some k => ∃ kvs, H3 a = some (.dK kvs) ∧ kvs.length < sizeLine ∧ D.nx σ (upd H3 a (.dK (putK kvs k v)))
  | _, _ => False
def sDelK (td ty : TE) : TS := fun D σ H => td σ H fun x H1 => ty σ H1 fun y H2 => match x, keyV y with
  | .ref a, some k => ∃ kvs, H2 a = some (.dK kvs) ∧ (valV kvs k).isSome = true ∧ D.nx σ (upd H2 a (.dK (dropK kvs k)))
  | _, _ => False
section
variable {o i value : Expr} {pos pos' tpos : Pos} {td ty tv : TE}
theorem pe_getK (hu : X.A.units + 1 < cLine) (ho : PE X o td) (hi : PE X i ty) (hs : NoSl i) : PE X (.Subscript o i pos) (fGetK td ty) :=
  pe_wk (pe_dget hu (pe_clos ho) (pe_clos hi) hs) fun σ H Q q => ⟨_, q, fun x H1 q => ⟨_, q, fun y H2 q => by
    split at q
    · obtain ⟨kvs, v, r, hv, q⟩ := q
      exact ⟨_, v, rfl, .inl ⟨kvs, _, r, keyV_kV (by assumption), hv.symm⟩, q⟩
    · exact q.elim⟩⟩
theorem pc_wk {op : CmpOp} {a b : Expr} {t t' : TE} (h : PC X op a b t) (w : ∀ σ H Q, t' σ H Q → t σ H Q) : PC X op a b t' := ⟨fun pins s σ H Q I q => h.run pins s σ H Q I (w σ H Q q)⟩
theorem pc_inK (hu : X.A.units + 1 < cLine) (hi : PE X i ty) (ho : PE X o td) : PC X .In i o (fInK false ty td) :=
  pc_wk (pc_din hu (pe_clos hi) (pe_clos ho)) fun σ H Q q => ⟨_, q, fun y H1 q => ⟨_, q, fun x H2 q => by
    split at q
    · obtain ⟨kvs, r, q⟩ := q
      exact ⟨_, _, rfl, .inl ⟨kvs, _, r, keyV_kV (by assumption), rfl⟩, q⟩
    · exact q.elim⟩⟩
theorem pc_notinK (hu : X.A.units + 1 < cLine) (hi : PE X i ty) (ho : PE X o td) : PC X .NotIn i o (fInK true ty td) :=
  pc_wk (pc_dnotin hu (pe_clos hi) (pe_clos ho)) fun σ H Q q => ⟨_, q, fun y H1 q => ⟨_, q, fun x H2 q => by
    split at q
    · obtain ⟨kvs, r, q⟩ := q
      exact ⟨_, _, rfl, .inl ⟨kvs, _, r, keyV_kV (by assumption), rfl⟩, q⟩
    · exact q.elim⟩⟩
theorem ps_putK (hu : X.A.units + 1 < cLine) (ho : PE X o td) (hi : PE X i ty) (hv : PE X value tv) (hs : swapsWith value (some (.Subscript o i pos')) pos.line X.env = pure false) :
    PS X (.Assign [.Subscript o i pos'] value pos) (sPutK td ty tv) :=
  ps_wk (ps_dput hu (pe_clos ho) (pe_clos hi) (pe_clos hv) hs) fun D σ H q => ⟨_, q, fun v H1 q => ⟨_, q, fun x H2 q => ⟨_, q, fun y H3 q => by
    split at q
    · obtain ⟨kvs, h1, h2, q⟩ := q
      exact ⟨_, _, rfl, .inl ⟨kvs, _, h1, keyV_kV (by assumption), h2, rfl⟩, q⟩
    · exact q.elim⟩⟩⟩
theorem ps_delK (ho : PE X o td) (hi : PE X i ty) : PS X (.Delete [.Subscript o i tpos] pos) (sDelK td ty) :=
  ps_wk (ps_ddel (pe_clos ho) (pe_clos hi)) fun D σ H q => ⟨_, q, fun x H1 q => ⟨_, q, fun y H2 q => by
    split at q
    · obtain ⟨kvs, h1, h2, q⟩ := q
      exact ⟨_, kvs, _, rfl, h1, keyV_kV (by assumption), h2, q⟩
    · exact q.elim⟩⟩
end
/-- list(d): the keys -/
def fListD : List V → Hp → VK → Prop := fun xs H Q => match xs with
  | [.ref a] => ∃ kvs, Rd H a (.dK kvs) ∧ ∀ p H1, H p = none → Same H H1 → H1 p = some (.lst (kvs.map fun kv => kV kv.1)) → Q (.ref p) H1
  | _ => False
theorem call_fListD (hc : X.calm = true) : CallR X (.type "list") fListD := by
  intro pins s σ H xs us Q I r h
  match xs, r, h with
  | [.ref a], r, ⟨kvs, h1, h2⟩ => exact call_listD hc pins s σ H _ us Q I r ⟨a, kvs, rfl, h1, fun p np => h2 p _ np (same_new np) upd_same⟩
/-! ### exceptions as values -/
def fMkV (C : Addr) (n : Nat) (flds : List V → List (Str × V)) (ta : TA) : TE := fun σ H Q => ta σ H fun vs H1 => vs.length = n ∧ ∀ a d H2, H1 a = none → H1 d = none → Same H1 H2 → H2 a = some (exo a C (some d)) → H2 d = some (exd d (flds vs)) → Q (.ref a) H2
theorem fe_mkV {C : Addr} {x : Str} {n : Nat} {flds : List V → List (Str × V)} {p pos : Pos} {e : Expr} {es : List Expr} {ta : TA} (h : HasE X.prog X.w X.K X.mg X.base C x n flds) (hn : n ≤ 1000) (hr : Room 2 X.A) (hg : Gl X x) (ha : PA X (e :: es) ta) (hdb : (x == ("__debug__" : Str)) = false := by decide)
    (he : starEach (e :: es) X.env = (false, eval e X.env) :: starEach es X.env := by rfl) (hpl : (backTo pos (starEach es X.env)).any (·.1) = false := by rfl) : PE X (.Call (.Name x p) (e :: es) [] pos) (fMkV C n flds ta) := by
  obtain ⟨f, fd, ps, F1, hb, iC, tI, hm, T⟩ := h.ex
  refine ⟨fun pins s σ H Q I h => ?_⟩
  obtain ⟨nm, q, N, bs, bm, sn, sub, ab, col, dd, k0, k1, k2, k3, k5, hC, hbm⟩ := T.cls
  refine wpAny_Call_Name_kw (ld_glob I hg hm ?_ hdb)
  refine PySem.W.callWith_K (h₀ := X.base) I.ok.mod.kin T.kC (thn (ha.run pos pins s σ H _ I h) fun us s1 ⟨vs, H1, I1, r1, hz, q1⟩ => ⟨I1.kIn, ?_⟩) he hpl
  show wpAny _ _ (call (.ref C) us) _ _ _
  obtain ⟨hp, g, dr, tk, os⟩ := s1
  have hsz : hp.objs.size ≤ hp.objs.size + 1 := Nat.le_succ _
  have hn1 : H1 (hp.objs.size + 1) = none := I1.hok.fresh hsz
  have hq : spInitE C n flds (V.ref (hp.objs.size + 1) :: vs) (upd H1 (hp.objs.size + 1) (exo (hp.objs.size + 1) C none)) (fun v H2 => v = .non ∧ Q (.ref (hp.objs.size + 1)) H2) (fun _ _ _ => False) :=
    ⟨_, vs, H1, rfl, hz, hn1, rfl, fun d H2 nd ne keep ea ed => ⟨rfl, q1 _ d H2 hn1 nd keep ea ed⟩⟩
  have kk : ∀ b o, hp.get? b = some o → ((hp.push (PySem.W.kdv_tup us)).push (PySem.HandSPX.excO C hp.objs.size)).get? b = some o := fun b o e => Heap.get?_push_of_some _ (Heap.get?_push_of_some _ e)
  have hget : ((hp.push (PySem.W.kdv_tup us)).push (PySem.HandSPX.excO C hp.objs.size)).get? (hp.objs.size + 1) = some (PySem.HandSPX.excO C hp.objs.size) := by heap_get
  have I2 : Inv X pins σ (upd H1 (hp.objs.size + 1) (exo (hp.objs.size + 1) C none)) ⟨(hp.push (PySem.W.kdv_tup us)).push (PySem.HandSPX.excO C hp.objs.size), g, dr, tk, os⟩ :=
    I1.laid (t' := tk) (a := hp.objs.size + 1) (o := exo (hp.objs.size + 1) C none) (h' := (hp.push (PySem.W.kdv_tup us)).push (PySem.HandSPX.excO C hp.objs.size)) kk hsz (exo_ok hget)
  have r2 : Vals (V.ref (hp.objs.size + 1) :: vs) (Value.ref (hp.objs.size + 1) :: us) := .cons rfl r1
  have hl : (Value.ref (hp.objs.size + 1) :: us).length = ps.length := by
    have e := r2.length
    rw [F1.len _ _ _ _ hq] at e
    exact e.symm
  have hus : us.length ≤ sizeLine := by
    rw [← Paired.length r1, sizeLine_eq]
    omega
  have hb' := hb ⟨(hp.push (PySem.W.kdv_tup us)).push (PySem.HandSPX.excO C hp.objs.size), g, dr, tk, os⟩ (Value.ref (hp.objs.size + 1) :: us) I2.kIn (by rw [List.append_nil]; exact hl)
  rw [List.append_nil] at hb'
  refine wpAny_call (PySem.HandSPX.call_own F.excBase_ValueError (fun Y => PySem.HandSPX.refsVE_contains Y bm hbm) (I1.kIn _ _ hC) (PySem.W.looks_findIn I1.kIn iC) (fun self => PySem.W.bind_fn I1.kIn self tI) hus
    (codeAny_mono (F1.run _ X.stack _ _ ⟨Value.ref (hp.objs.size + 1) :: us, []⟩ (Value.ref (hp.objs.size + 1) :: us) _ _ (fun _ _ _ => False) (hr.make C us []) (I2.env0.make C us []) hb' r2 hq) fun r s' hq' => ?_))
  cases r with
  | error er => exact hq'.elim
  | ok fl =>
    cases fl with
    | ret u =>
      obtain ⟨v, H', I3, rv, ev, q3⟩ := I2.after hq'
      subst ev
      exact ⟨rv, ⟨V.ref (hp.objs.size + 1), H', I3, rfl, q3⟩⟩
    | next => exact False.elim hq'
    | brk => exact False.elim hq'
    | cont => exact False.elim hq'
/-- an exception of class C with these fields, held -/
def IsExo (H : Hp) (a C : Addr) (fs : List (Str × V)) : Prop := ∃ d, H a = some (exo a C (some d)) ∧ H d = some (exd d fs)
theorem IsExo.same {H H' : Hp} {a C : Addr} {fs : List (Str × V)} (h : IsExo H a C fs) (s : Same H H') : IsExo H' a C fs := h.imp fun _ ⟨x, y⟩ => ⟨s _ _ x, s _ _ y⟩
theorem exo_inst {pins : List (Addr × Obj)} {σ : L2.St} {H : Hp} {s : Shared} {a C : Addr} {fs : List (Str × V)} (I : Inv X pins σ H s) (h : IsExo H a C fs) : ∃ (oe od : Obj) (mA : Str → Option Value), PySem.W.InstAt s.heap a oe C (some od) ∧ (∀ f, RelO (fs.lookup f) (mA f)) ∧ (∀ f, PySem.W.lookIn f od = some (mA f)) := by
  obtain ⟨d, e1, e2⟩ := h
  obtain ⟨t1, he⟩ := exo_at I.hok e1
  obtain ⟨mA, hns, rel⟩ := exd_at I.hok e2
  obtain ⟨od, ho, hl⟩ := lookIn_ns hns
  exact ⟨_, od, mA, ⟨he, rfl, rfl, ho⟩, rel, hl⟩
/-- e.f of such -/
def fXo (K : PySem.W.Frag) (cs : List Addr) (f : Str) (te : TE) : TE := fun σ H Q => te σ H fun x H1 => match x with
  | .ref a => ∃ C fs v, C ∈ cs ∧ IsExo H1 a C fs ∧ fs.lookup f = some v ∧ Q v H1
  | _ => False
theorem fe_xo {cs : List Addr} {e : Expr} {te : TE} {pos : Pos} {n : Str} (T : XPlain X.K cs n) (he : PE X e te) (hb : attributeBase e n X.env (eval e X.env) = eval e X.env) : PE X (.Attribute e n pos) (fXo X.K cs n te) := by
  refine ⟨fun pins s σ H Q I h => ?_⟩
  refine attr_of hb (thn (he.run pins s σ H _ I h) fun u s1 hh => ?_)
  obtain ⟨x, H1, I1, rx, q⟩ := hh
  match x, rx, q with
  | .ref a, rx, ⟨C, fs, v, m, hx, l, q⟩ =>
    obtain rfl : u = Value.ref a := rx
    obtain ⟨oe, od, mA, J, rel, hl⟩ := exo_inst I1 hx
    obtain ⟨u, hu, ru⟩ := RelO.some_of (v := v) (o := mA n) (by rw [← l]; exact rel n)
    exact HandSPX.exc_get I1.kIn J (T C m).1.ga (T C m).1.gg (T C m).1.exC (PySem.W.findObj_own (T C m).1.hdC (T C m).2 rfl (by rw [hl, hu])) (handed_of ru) ⟨v, H1, I1.tok _, ru, q⟩
/-- isinstance(e, C) of such -/
def fIsX (K : PySem.W.Frag) (cs : List Addr) : List V → Hp → VK → Prop := fun xs H Q => match xs with
  | [.ref a, .ref D] => ∃ C fs, C ∈ cs ∧ IsExo H a C fs ∧ ∃ b, PySem.W.kitOne K (.ref C) (.ref D) = some b ∧ Q (.bl b) H
  | _ => False
theorem call_fIsX {cs : List Addr} (F : ∀ C ∈ cs, ExcFact X.K C) (ob : ObjFact X.K) : CallR X (.builtin "isinstance") (fIsX X.K cs) := by
  intro pins s σ H xs us Q I r h
  match xs, r, h with
  | [.ref a, .ref D], r, ⟨C, fs, m, hx, b, e, q⟩ =>
    obtain ⟨u1, u2, rfl, r1, r2⟩ := vals2 r
    cases r1
    cases r2
    have FC := F C m
    have hcl : (PySem.W.clsIn X.K C).isSome = true := by
      obtain ⟨cd, hcd, _⟩ := PySem.W.any_some FC.hdC
      rw [hcd]; rfl
    obtain ⟨oe, od, mA, J, rel, hl⟩ := exo_inst I hx
    exact PySem.W.kia_one (PySem.W.kitx_exc hcl FC.ga FC.gg FC.exC FC.ci ob.gd ob.tk FC.mr) I.kIn J e (fun z => nomatch z) fun tk => ⟨.bl b, H, I.kept (t' := tk) fun _ _ z => z, rfl, q⟩
end
end Fx

set_option Elab.async false
set_option linter.all false
set_option maxRecDepth 100000
/-! Dk: displays of dicts with text keys, walks over their keys, by value, over Mr. -/
namespace Fx
open PySem PySem.Spec PyProof.Rows L2
/-! ### {"a": v, ..} -/
def fPairs : List (Key × TE) → L2.St → Hp → (List (Key × V) → Hp → Prop) → Prop
  | [], _, H, Q => Q [] H
  | (k, tv) :: r, σ, H, Q => tv σ H fun y H1 => fPairs r σ H1 fun ps H2 => Q ((k, y) :: ps) H2
abbrev FPs (X : Cx) (pos : Pos) (keys : List (Option Expr)) (values : List Expr) (trs : List (Key × TE)) : Prop := PPs X pos keys values (trs.map fun p => (tC (kV p.1), clos p.2))
theorem fps_nil {X : Cx} {pos : Pos} : FPs X pos [] [] [] := pps_nil
theorem fps_cons {X : Cx} {pos : Pos} {x : Str} {j : Nat} {p : Pos} {v : Expr} {ks : List (Option Expr)} {vs : List Expr} {tv : TE} {trs : List (Key × TE)} (hv : PE X v tv) (hr : FPs X pos ks vs trs) :
    FPs X pos (some (.Constant (.str x) j p) :: ks) (v :: vs) ((.inr x, tv) :: trs) := pps_cons pe_str (pe_clos hv) hr
theorem fPairs_t : ∀ {trs : List (Key × TE)} {σ : L2.St} {H : Hp} {R : List (Key × V) → Hp → Prop} {Q : List (V × V) → Hp → Prop}, fPairs trs σ H R → (∀ kvs H2, kvs.map (·.1) = trs.map (·.1) → R kvs H2 → Q (kvs.map fun kv => (kV kv.1, kv.2)) H2) → tPairs (trs.map fun p => (tC (kV p.1), clos p.2)) σ H Q
  | [], σ, H, R, Q, h, w => w [] H rfl h
  | (k, tv) :: r, σ, H, R, Q, h, w => ⟨_, h, fun y H1 q => fPairs_t q fun kvs H2 e z => w ((k, y) :: kvs) H2 (by rw [List.map_cons, List.map_cons, e]) z⟩
theorem mergeK_nd : ∀ (kvs acc : List (Key × V)), ((acc ++ kvs).map (·.1)).Nodup → mergeK acc kvs = acc ++ kvs
  | [], acc, _ => (List.append_nil acc).symm
  | p :: r, acc, h => by
    have hn : ¬ (acc.any fun kv => decide (kv.1 = p.1)) = true := by
      intro z
      obtain ⟨q, hq, e⟩ := List.any_eq_true.mp z
      have e := of_decide_eq_true e
      rw [List.map_append, List.nodup_append] at h
      exact h.2.2 _ (List.mem_map_of_mem hq) _ (List.mem_map_of_mem (List.mem_cons_self ..)) e
    have e1 : putK acc p.1 p.2 = acc ++ [p] := by unfold putK; rw [if_neg hn]
    show mergeK (putK acc p.1 p.2) r = _
    rw [e1, mergeK_nd r (acc ++ [p]) (by rw [List.append_assoc]; exact h), List.append_assoc]; rfl
def fDisp (trs : List (Key × TE)) : TE := fun σ H Q => ∀ p H0, H p = none → Same H H0 → H0 p = some (.dK []) → fPairs trs σ H0 fun kvs H2 => H2 p = some (.dK []) ∧ ∀ H3, H3 = upd H2 p (.dK kvs) → Q (.ref p) H3
theorem fe_disp {X : Cx} {pos : Pos} {keys : List (Option Expr)} {values : List Expr} {trs : List (Key × TE)} (h : FPs X pos keys values trs) (hn : (trs.map (·.1)).Nodup) (hall : keys.all (·.isSome) = true) (hl : keys.length = values.length) (h0 : keys ≠ [])
    (h15 : keys.length ≤ 15) (ht : trs.length ≤ 15) : PE X (.Dict keys values pos) (fDisp trs) :=
  pe_wk (pe_disp h hall hl h0 h15) fun σ H Q q p np => fPairs_t (q p _ np (same_new np) upd_same) fun kvs H2 e z => ⟨z.1, kvs, rfl, by
    have : kvs.length = trs.length := by have := congrArg List.length e; simpa using this
    omega, z.2 _ (by rw [mergeK_nd kvs [] (by rw [List.nil_append, e]; exact hn), List.nil_append])⟩
/-! ### for k in d -/
def iKeysK (td : TE) : TI := fun σ H R => td σ H fun x H1 => match x with
  | .ref d => ∃ o kvs, H1 d = some (.frz o (.dK kvs)) ∧ R (Itk d o kvs) H1
  | _ => False
theorem pi_keysK {X : Cx} {tg e : Expr} {td : TE} (he : PE X e td) : PI X tg e (iKeysK td) :=
  ⟨fun pins s σ H R I h => (pi_keys (pe_clos he)).run pins s σ H R I ⟨_, h, fun x H1 q => by
    match x, q with
    | .ref d, ⟨o, kvs, hd, q⟩ => exact ⟨d, o, rfl, .inl ⟨kvs, hd, q⟩⟩⟩⟩
theorem lcx_keysK {d0 : Addr} {o : Obj} {kvs : List (Key × V)} {g : TG} {tt : TT} {te : TE} {vs : List Nat} {σ : L2.St} {H1 : Hp} {D : Addr} {Q : VK} (Pv : Nat → Hp → Prop) (h0 : Pv 0 (upd H1 D (.lst []))) (hl : ∀ i H, i ≤ kvs.length → Pv i H → H d0 = some (.frz o (.dK kvs)))
    (hs : ∀ i k v H, kvs[i]? = some (k, v) → Pv i H → g (kV k) (wipe σ vs) H fun σ2 H2 => wipe σ2 vs = wipe σ vs ∧ tt σ2 H2 fun b H3 =>
      if b = true then te σ2 H3 fun y H4 => ∃ acc, H4 D = some (.lst acc) ∧ acc.length < sizeLine ∧ Pv (i + 1) (upd H4 D (.lst (acc ++ [y]))) else Pv (i + 1) H3) (hd : ∀ H, Pv kvs.length H → Q (.ref D) H) : Lc (Itk d0 o kvs) g tt te vs σ H1 D Q :=
  lc_it walk_keys Pv h0 hl (fun i x H H' hi p y => by
    obtain ⟨rfl, k, v, he, rfl⟩ := y
    exact hs i k v _ he p) hd
end Fx

set_option Elab.async false
set_option linter.all false
set_option maxRecDepth 100000
/-! Fk: one of two ways to read an expression (a method of several classes), copies of dicts. -/
namespace Fx
open PySem PySem.Spec PyProof.Rows L2
def tEither (t1 t2 : TE) : TE := fun σ H Q => t1 σ H Q ∨ t2 σ H Q
theorem pe_either {X : Cx} {e : Expr} {t1 t2 : TE} (h1 : PE X e t1) (h2 : PE X e t2) : PE X e (tEither t1 t2) := ⟨fun pins s σ H Q I q => q.elim (h1.run pins s σ H Q I) (h2.run pins s σ H Q I)⟩
/-- dict(d): a copy -/
def fDictD : List V → Hp → VK → Prop := fun xs H Q => match xs with
  | [.ref a] => ∃ kvs, Rd H a (.dK kvs) ∧ ∀ p H1, H p = none → Same H H1 → H1 p = some (.dK kvs) → Q (.ref p) H1
  | _ => False
theorem call_fDictD {X : Cx} : CallR X (.type "dict") fDictD := by
  intro pins s σ H xs us Q I r h
  match xs, r, h with
  | [.ref a], r, ⟨kvs, h1, h2⟩ =>
    obtain ⟨u, eu, rx⟩ := vals1 r
    subst eu
    cases rx
    exact d_copyOf I h1 fun p s' np I' => ⟨.ref p, _, I', rfl, h2 p _ np (same_new np) upd_same⟩
end Fx
namespace Fx
open PySem PySem.Spec PyProof.Rows L2
section
variable {X : Cx} {K : PySem.W.Frag}
theorem ix_fxK (h : X.K = K) : IxR X (fIx K) := h ▸ ix_fx
theorem call_fLenK (h : X.K = K) : CallR X (.builtin "len") (fLen K) := h ▸ call_fLen
theorem op_fAddK (h : X.K = K) : OpR X (binaryOp .Add) (fAdd K) := h ▸ op_fAdd
theorem sl_fxK (h : X.K = K) : SlR X (fSl K) := h ▸ sl_fx
theorem op_fEqK (hu : X.A.units + 64 < cLine) (h : X.K = K) : OpR X (compareOp .Eq) (fEq K false) := h ▸ op_fEq hu
theorem op_fNeK (hu : X.A.units + 64 < cLine) (h : X.K = K) : OpR X (compareOp .NotEq) (fEq K true) := h ▸ op_fNe hu
theorem op_fInK' (h : X.K = K) : OpR X (compareOp .In) (fIn K false) := h ▸ op_fIn
end
end Fx
namespace Fx
open PySem PySem.Spec PyProof.Rows L2
section
variable {X : Cx} {o e f : Expr} {apos cpos : Pos} {td ty tx : TE}
/-- sum of a list of whole numbers -/
def fSum : List V → Hp → VK → Prop := fun xs H Q => match xs with
  | [.ref a] => ∃ ns : List Int, H a = some (.lst (ns.map V.int)) ∧ Q (.int ns.sum) H
  | _ => False
theorem call_fSum (hc : X.calm = true) : CallR X (.builtin "sum") fSum := by
  intro pins s σ H xs us Q I r h
  match xs, r, h with
  | [.ref a], r, ⟨ns, h1, h2⟩ => exact cr_sum hc pins s σ H _ us Q I r ⟨a, ns, rfl, SqL.of h1, h2⟩
/-- d.get(k, x) -/
def fGetD (td ty tx : TE) : TE := fun σ H Q => td σ H fun x H1 => match x with
  | .ref a => (∃ kvs, Rd H1 a (.dK kvs)) ∧ ty σ H1 fun y H2 => tx σ H2 fun z H3 => match keyV y with
    | some k => ∃ kvs, Rd H3 a (.dK kvs) ∧ Q ((valV kvs k).getD z) H3
    | none => False
  | _ => False
theorem pe_getD (hu : X.A.units + 1 < cLine) (ho : PE X o td) (he : PE X e ty) (hf : PE X f tx) (m : M2 X o "get" apos e f cpos) : PE X (.Call (.Attribute o "get" apos) [e, f] [] cpos) (fGetD td ty tx) :=
  pe_wk (pe_dget2 hu (pe_clos ho) (pe_clos he) (pe_clos hf) m) fun σ H Q q => ⟨_, q, fun x H1 q => by
    split at q
    · rename_i a
      obtain ⟨⟨kvs, hd⟩, q⟩ := q
      exact ⟨a, rfl, .inl ⟨kvs, hd⟩, _, q, fun y H2 q => ⟨_, q, fun z H3 q => by
        split at q
        · obtain ⟨kvs', hd', q⟩ := q
          exact ⟨_, .inl ⟨kvs', _, hd', keyV_kV (by assumption), rfl⟩, q⟩
        · exact q.elim⟩⟩
    · exact q.elim⟩
end
/-! ### comprehensions of dicts -/
def Dc (J : It) (g : TG) (tt : TT) (tk tv : TE) (vs : List Nat) (σ : L2.St) (H1 : Hp) (D : Addr) (Q : VK) : Prop := ∃ W : Nat → Nat → Hp → Prop, (∃ m, W 0 m (upd H1 D (.dK []))) ∧ ∀ i m H, W i m H →
  (J.stop i H ∧ Q (.ref D) H) ∨ (J.go i H ∧ ∃ Nx : Hp → Prop, (∀ H', Nx H' → ∃ m', m' < m ∧ W (i + 1) m' H') ∧ ∀ x H', J.yld i H x H' → g x (wipe σ vs) H' fun σ2 H2 => wipe σ2 vs = wipe σ vs ∧ tt σ2 H2 fun b H3 =>
    if b = true then tk σ2 H3 fun y H4 => tv σ2 H4 fun z H5 => ∃ kvs k, y = kV k ∧ H5 D = some (.dK kvs) ∧ kvs.length < sizeLine ∧ Nx (upd H5 D (.dK (putK kvs k z))) else Nx H3)
theorem dc_ {wi : TI} {g : TG} {tt : TT} {tk tv : TE} {vs : List Nat} {σ : L2.St} {H : Hp} {Q : VK} (h : wi σ H fun J H1 => ∀ D, H1 D = none → Dc J g tt tk tv vs σ H1 D Q) : tDc wi g tt tk tv vs σ H Q := h
theorem dcx_tup {K : PySem.W.Frag} {a : Addr} {xs : List V} {g : TG} {tt : TT} {tk tv : TE} {vs : List Nat} {σ : L2.St} {H1 : Hp} {D : Addr} {Q : VK} (Pv : Nat → Hp → Prop) (h0 : Pv 0 (upd H1 D (.dK []))) (hl : ∀ i H, i ≤ xs.length → Pv i H → SqT K H a xs)
    (hs : ∀ i x H, xs[i]? = some x → Pv i H → g x (wipe σ vs) H fun σ2 H2 => wipe σ2 vs = wipe σ vs ∧ tt σ2 H2 fun b H3 =>
      if b = true then tk σ2 H3 fun y H4 => tv σ2 H4 fun z H5 => ∃ kvs k, y = kV k ∧ H5 D = some (.dK kvs) ∧ kvs.length < sizeLine ∧ Pv (i + 1) (upd H5 D (.dK (putK kvs k z))) else Pv (i + 1) H3) (hd : ∀ H, Pv xs.length H → Q (.ref D) H) : Dc (Itt K a) g tt tk tv vs σ H1 D Q :=
  dc_tup Pv h0 hl hs hd
end Fx
namespace Fx
open PySem PySem.Spec PyProof.Rows L2
def iEither (i1 i2 : TI) : TI := fun σ H R => i1 σ H R ∨ i2 σ H R
theorem pi_either {X : Cx} {tg e : Expr} {i1 i2 : TI} (h1 : PI X tg e i1) (h2 : PI X tg e i2) : PI X tg e (iEither i1 i2) := ⟨fun pins s σ H R I h => h.elim (h1.run pins s σ H R I) (h2.run pins s σ H R I)⟩
end Fx
namespace Fx
open PySem PySem.Spec PyProof.Rows L2
theorem lcx_tup {K : PySem.W.Frag} {a : Addr} {xs : List V} {g : TG} {tt : TT} {te : TE} {vs : List Nat} {σ : L2.St} {H1 : Hp} {D : Addr} {Q : VK} (Pv : Nat → Hp → Prop) (h0 : Pv 0 (upd H1 D (.lst []))) (hl : ∀ i H, i ≤ xs.length → Pv i H → SqT K H a xs)
    (hs : ∀ i x H, xs[i]? = some x → Pv i H → g x (wipe σ vs) H fun σ2 H2 => wipe σ2 vs = wipe σ vs ∧ tt σ2 H2 fun b H3 =>
      if b = true then te σ2 H3 fun y H4 => ∃ acc, H4 D = some (.lst acc) ∧ acc.length < sizeLine ∧ Pv (i + 1) (upd H4 D (.lst (acc ++ [y]))) else Pv (i + 1) H3) (hd : ∀ H, Pv xs.length H → Q (.ref D) H) : Lc (Itt K a) g tt te vs σ H1 D Q :=
  lc_it walk_tup Pv h0 hl (fun i x H H' hi p y => by
    obtain ⟨rfl, e⟩ := y
    exact hs i x _ e p) hd
end Fx
namespace Fx
open PySem PySem.Spec PyProof.Rows L2
/-- tuple(list) -/
def fTupOf : List V → Hp → VK → Prop := fun xs H Q => match xs with
  | [.ref p] => ∃ ys, H p = some (.lst ys) ∧ ∀ l H1, H l = none → Same H H1 → H1 l = some (.tup ys) → Q (.ref l) H1
  | _ => False
theorem call_fTupOf {X : Cx} : CallR X (.type "tuple") fTupOf := by
  intro pins s σ H xs us Q I r h
  match xs, r, h with
  | [.ref p], r, ⟨ys, h1, h2⟩ => exact call_tuple_of pins s σ H _ us Q I r ⟨p, ys, rfl, .inl ⟨SqL.of h1, fun l nl => h2 l _ nl (same_new nl) upd_same⟩⟩
end Fx

set_option Elab.async false
set_option linter.all false
set_option maxRecDepth 100000
set_option maxHeartbeats 1000000
/-! Zp: zip of a list and a tuple. -/
namespace Fx
open PySem PySem.Spec PyProof.Rows L2
/-- the list at a and the tuple at b as they stand at each turn -/
def ItzM (K : PySem.W.Frag) (a b : Addr) : It where
  go i H := ∃ (xs ys : List V) (x y : V), SqL K H a xs ∧ SqT K H b ys ∧ xs[i]? = some x ∧ ys[i]? = some y
  yld i H v H' := ∃ T x y, v = .ref T ∧ H T = none ∧ H' = upd H T (.tup [x, y]) ∧ (∀ xs, SqL K H a xs → xs[i]? = some x) ∧ ∀ ys, SqT K H b ys → ys[i]? = some y
  stop i H := ∃ xs ys : List V, SqL K H a xs ∧ SqT K H b ys ∧ i ≤ xs.length ∧ i ≤ ys.length ∧ (i = xs.length ∨ i = ys.length)
def StM (zp ti to j1 j2 a b : Addr) (i : Nat) (h : Heap) : Prop := IsZip h zp ti to .none ∧ IsPair h ti (.ref j1) (.ref j2) ∧ (∃ x y, IsPair h to x y) ∧ h.IsListIter j1 a i ∧ h.IsTupleIter j2 b i
theorem sepM {zp ti to j1 j2 a b : Addr} (D : ZipApart zp ti to j1 j2 a b) : ZipSep2 zp ti to j1 j2 [j1, a] [j2, b] := by
  constructor <;> simp [D.TIz, D.TOz, D.TITO, D.TIi1, D.TIi2, Ne.symm D.i1z, Ne.symm D.i2z, Ne.symm D.l1z, Ne.symm D.l2z, D.TOi1, D.TOi2, Ne.symm D.l1TO, Ne.symm D.l2TO, D.i12, Ne.symm D.i12, D.l1i2, D.l2i1, Ne.symm D.l1i2, Ne.symm D.l2i1]
theorem turn_zipM {P : Program} {w : World} {K : PySem.W.Frag} {el : List Expr} {kx : Nat} {tp : Pos} {a b zp ti to j1 j2 : Addr} (D : ZipApart zp ti to j1 j2 a b) : Turn P w K (.Tuple el kx tp) (ItzM K a b) [zp, ti, to, j1, j2] zp (StM zp ti to j1 j2 a b) where
  mem := List.mem_cons_self ..
  obj := fun i h ⟨g1, g2, ⟨x, y, g3⟩, ⟨o1, g4, _, g5⟩, ⟨o2, g6, _, g7⟩⟩ q hq => by
    simp only [List.mem_cons, List.not_mem_nil, or_false] at hq
    rcases hq with rfl | rfl | rfl | rfl | rfl
    · exact ⟨_, g1, fun v e => by cases e⟩
    · exact ⟨_, g2, fun v e => by cases e⟩
    · exact ⟨_, g3, fun v e => by cases e⟩
    · exact ⟨o1, g4, fun v e => by rw [g5] at e; cases e⟩
    · exact ⟨o2, g6, fun v e => by rw [g7] at e; cases e⟩
  keep := fun i h h' ⟨g1, g2, ⟨x, y, g3⟩, g4, g5⟩ k => ⟨k zp (by simp) _ g1, k ti (by simp) _ g2, ⟨x, y, k to (by simp) _ g3⟩, g4.at fun o e => k j1 (by simp) o e, g5.at fun o e => k j2 (by simp) o e⟩
  item := by
    intro X eP ew eK ec i pins s σ H E I hf st hg
    cases eP; cases ew; cases eK
    obtain ⟨g1, g2, ⟨x0, y0, g3⟩, g4, g5⟩ := st
    obtain ⟨xs, ys, x, y, sx, sy, ex, ey⟩ := hg
    obtain ⟨its, rv, pl, _⟩ := I.list sx
    obtain ⟨jts, rw2, pt, _⟩ := I.tuple sy
    obtain ⟨u, hu, ru⟩ := rv.get ex
    obtain ⟨v, hv, rv'⟩ := rw2.get ey
    have hh : X.A.in1.handled = none := I.ok.hd ec
    have lz : zp < s.heap.objs.size := Heap.lt_size g1
    have n1 : i < its.toArray.size := by
      have := (List.getElem?_eq_some_iff.mp hu).1
      simpa using this
    have n2 : i < jts.toArray.size := by
      have := (List.getElem?_eq_some_iff.mp hv).1
      simpa using this
    refine wpAny_pyNext_zipD2_item (sepM D) (Draws.list hh j1 a D.l1i1 its.toArray) (Draws.tuple hh j2 b D.l2i2 jts.toArray) g1 g2 g3 ⟨g4, pl.isList⟩ ⟨g5, pt⟩ n1 n2 fun u' v' hn tk e1 e2 kz ko st1 st2 hT hsz hk => ?_
    have eu : u' = u := by
      have e1 : its.toArray[i]? = some u' := e1
      rw [List.getElem?_toArray, hu] at e1
      exact (Option.some.inj e1).symm
    have ev : v' = v := by
      have e2 : jts.toArray[i]? = some v' := e2
      rw [List.getElem?_toArray, hv] at e2
      exact (Option.some.inj e2).symm
    subst eu ev
    refine ⟨_, rfl, wpAny_letOwnedTupleGo_zip (s := { s with heap := hn, toks := tk }) kz fun hm kz2 sb => ?_⟩
    have hT2 : hm.get? s.heap.objs.size = some { cls := .type "tuple", data := .seq #[u', v'] } := (sb.2 _ (Nat.ne_of_gt lz)).trans hT
    have new : ObjOk X.prog X.w (upd H s.heap.objs.size (.tup [x, y])) hm s.heap.objs.size (.tup [x, y]) := ⟨by show 2 ≤ sizeLine; decide, [u', v'], .cons ru (.cons rv' .nil), ⟨_, hT2, rfl, _, rfl⟩⟩
    have I1 : Inv X pins σ (upd H s.heap.objs.size (.tup [x, y])) { s with heap := hm, toks := tk } :=
      I.turnedNew (ch := [zp, ti, to, j1, j2]) (fun q o hq e => (sb.2 q (fun z => hq (by simp [z]))).trans (hk q o (fun z => hq (by simp [z])) (fun z => hq (by simp [z])) (fun z => hq (by simp [z])) (fun z => hq (by simp [z])) e)) hf (Nat.le_refl _) new
    refine ⟨.ref s.heap.objs.size, _, I1, rfl, ⟨_, x, y, rfl, I.hok.fresh (Nat.le_refl _), rfl, fun l hl => by rw [I.list_inj hl sx]; exact ex, fun l hl => by rw [I.tuple_inj hl sy]; exact ey⟩, ⟨kz2, ?_, ⟨u', v', ?_⟩, ?_, ?_⟩, fun q hq => ?_⟩
    · exact (sb.2 _ D.TIz).trans (hk _ _ D.TIz D.TITO D.TIi1 D.TIi2 g2)
    · exact (sb.2 _ D.TOz).trans ko
    · exact st1.1.at fun o e => (sb.2 _ D.i1z).trans e
    · exact st2.1.at fun o e => (sb.2 _ D.i2z).trans e
    · have hlt : q < s.heap.objs.size := by
        simp only [List.mem_cons, List.not_mem_nil, or_false] at hq
        rcases hq with rfl | rfl | rfl | rfl | rfl
        · exact lz
        · exact Heap.lt_size g2
        · exact Heap.lt_size g3
        · obtain ⟨_, e, _⟩ := g4; exact Heap.lt_size e
        · obtain ⟨_, e, _⟩ := g5; exact Heap.lt_size e
      rw [upd_ne (Nat.ne_of_lt hlt)]
      exact (hf q hq).1
  done := by
    intro X eP ew eK ec i pins s σ H E I hf st hg
    cases eP; cases ew; cases eK
    obtain ⟨g1, g2, ⟨x0, y0, g3⟩, g4, g5⟩ := st
    obtain ⟨xs, ys, sx, sy, l1, l2, l3⟩ := hg
    obtain ⟨its, rv, pl, _⟩ := I.list sx
    obtain ⟨jts, rw2, pt, _⟩ := I.tuple sy
    have hh : X.A.in1.handled = none := I.ok.hd ec
    have m1 : its.toArray.size = xs.length := by rw [rv.length]; simp
    have m2 : jts.toArray.size = ys.length := by rw [rw2.length]; simp
    exact wpAny_pyNext_zipD2_end (sepM D) (Draws.list hh j1 a D.l1i1 its.toArray) (Draws.tuple hh j2 b D.l2i2 jts.toArray) g1 g2 g3 ⟨g4, pl.isList⟩ ⟨g5, pt⟩ (by omega) (by omega) (by omega) fun hn tk hk =>
      ⟨rfl, I.turnedL (ch := [zp, ti, to, j1, j2]) (fun q o hq e => hk q o (fun z => hq (by simp [z])) (fun z => hq (by simp [z])) (fun z => hq (by simp [z])) (fun z => hq (by simp [z])) e) hf⟩
  self := fun A i s Q E st q => wpAny_pyIter_zip st.1 q
/-- for .. in zip(list, tuple) -/
def iZipM (K : PySem.W.Frag) (ta : TA) : TI := fun σ H R => ta σ H fun vs H1 => match vs with
  | [.ref a, .ref b] => ∃ xs ys, SqL K H1 a xs ∧ SqT K H1 b ys ∧ R (ItzM K a b) H1
  | _ => False
theorem pi_zipM {X : Cx} {e e2 : Expr} {ta : TA} {p pos tpos : Pos} {elts : List Expr} {kk : Nat} (hg : Gl X "zip") (hm : X.mg "zip" = none) (ha : PA X [e, e2] ta)
    (hs : starEach [e, e2] X.env = (false, eval e X.env) :: starEach [e2] X.env := by rfl) (hpl : (backTo pos (starEach [e2] X.env)).any (·.1) = false := by rfl) :
    PI X (.Tuple elts kk tpos) (.Call (.Name "zip" p) [e, e2] [] pos) (iZipM X.K ta) := by
  refine ⟨fun pins s σ H R I h => Call_ (ld_blt I hg hm PyProof.Rows.boot_zip (PyProof.Rows.callWith_type1 (thn (ha.run pos pins s σ H _ I h) fun us s1 ⟨vs, H1, I1, r1, q1⟩ => ?_) hs hpl))⟩
  dsimp only at q1
  split at q1
  · rename_i a b
    obtain ⟨xs, ys, sx, sy, q⟩ := q1
    cases r1 with
    | cons r t =>
     cases t with
     | cons r' t =>
      cases t
      cases r
      cases r'
      obtain ⟨its, rv, pl, _⟩ := I1.list sx
      obtain ⟨jts, rw2, pt, _⟩ := I1.tuple sy
      obtain ⟨o1, ho1, _⟩ := id pl.isList
      obtain ⟨o2, ho2, _⟩ := id pt
      have five : ∀ q, q ∈ [s1.heap.objs.size + 4, s1.heap.objs.size + 2, s1.heap.objs.size + 3, s1.heap.objs.size, s1.heap.objs.size + 1] → FpOk X pins H1 q := fun q hq => by
        have : s1.heap.objs.size ≤ q := by
          simp only [List.mem_cons, List.not_mem_nil, or_false] at hq
          omega
        exact I1.fpOk this (I1.hok.fresh this)
      refine zip_begins2 (begins_list a its.toArray) (begins_tuple b jts.toArray) pl.isList pt fun hn k1 k2 k3 k4 k5 _ hk => wpAny_pyIter_zip k1 ?_
      exact ⟨_, _, _, _, H1, rfl, I1.kept (t' := s1.toks) hk, turn_zipM (PySem.W.ktu_apart s1.heap.objs.size a b (Heap.lt_size ho1) (Heap.lt_size ho2)), ⟨k1, k2, ⟨_, _, k3⟩, ⟨_, k4, rfl, rfl⟩, ⟨_, k5, rfl, rfl⟩⟩, five, q⟩
  · exact q1.elim
/-- its loop -/
theorem loop_zipM {K : PySem.W.Frag} {a b : Addr} {xs ys : List V} {g : TG} {tb : TS} {D : Ends} {σ : L2.St} {H : Hp} (hl : xs.length = ys.length) (Pv : Nat → L2.St → Hp → Prop) (h0 : Pv 0 σ H) (hq : ∀ i σ H, Pv i σ H → SqL K H a xs ∧ SqT K H b ys)
    (hs : ∀ (i : Nat) (x y : V) (T : Addr) (σ : L2.St) (H : Hp), xs[i]? = some x → ys[i]? = some y → Pv i σ H → H T = none → g (.ref T) σ (upd H T (.tup [x, y])) fun σ2 H2 => tb { D with nx := Pv (i + 1), ct := Pv (i + 1), bk := D.nx } σ2 H2) (hd : ∀ σ H, Pv xs.length σ H → D.nx σ H) : Loop (ItzM K a b) g tb D σ H := by
  refine ⟨fun i m σ H => m = xs.length - i ∧ i ≤ xs.length ∧ Pv i σ H, ⟨_, rfl, Nat.zero_le _, h0⟩, fun i m σ H ⟨em, hi, hp⟩ => ?_⟩
  subst em
  obtain ⟨qx, qy⟩ := hq i σ H hp
  rcases Nat.lt_or_ge i xs.length with lt | ge
  · refine .inr ⟨⟨xs, ys, xs[i], ys[i]'(by omega), qx, qy, List.getElem?_eq_getElem _, List.getElem?_eq_getElem _⟩, Pv (i + 1), fun σ' H' p' => ⟨xs.length - (i + 1), by omega, rfl, lt, p'⟩, fun v H' ⟨T, x', y', e1, e2, e3, f1, f2⟩ => ?_⟩
    subst e1 e3
    exact hs i x' y' T σ H (f1 xs qx) (f2 ys qy) hp e2
  · have e : i = xs.length := by omega
    subst e
    exact .inl ⟨⟨xs, ys, qx, qy, Nat.le_refl _, by omega, .inl rfl⟩, hd σ H hp⟩
/-! ### dicts of the module whose values are tuples of scalars -/
def EntT (K : PySem.W.Frag) (d : Addr) : Str × Option (List V) → Prop
  | (z, none) => PySem.W.nsIn K d z = some none
  | (z, some xs) => ∃ a, PySem.W.nsIn K d z = some (some (.ref a)) ∧ ∀ H, SqT K H a xs
theorem entt_none {K : PySem.W.Frag} {d : Addr} {z : Str} (h : PySem.W.nsIn K d z = some none) : EntT K d (z, none) := h
theorem entt_tup {K : PySem.W.Frag} {d a : Addr} {z : Str} {xs : List V} {od : Option Addr} {its : Array Value} {n : Nat} {sl : Array (Option Value)} (h1 : PySem.W.nsIn K d z = some (some (.ref a))) (h2 : K.lookup a = some ⟨.type "tuple", od, .seq its n, sl⟩) (h3 : absVs its.toList = some xs) (h4 : its.size ≤ 1000) : EntT K d (z, some xs) :=
  ⟨a, h1, fun _ => .inr ⟨_, its, n, h2, rfl, rfl, Nat.le_trans h4 (by decide), absVs_rel h3⟩⟩
structure DTAt (K : PySem.W.Frag) (w : World) (d : Addr) (ks : List (Str × Option (List V))) : Prop where
  ex : ∃ es n, KDict K w d es n
  en : ∀ p ∈ ks, EntT K d p
def GDictT (K : PySem.W.Frag) (w : World) (mg : Str → Option Value) (x : Str) (ks : List (Str × Option (List V))) : Prop := ∃ d, mg x = some (.ref d) ∧ DTAt K w d ks
structure GDictTF (K : PySem.W.Frag) (w : World) (x : Str) (ks : List (Str × Option (List V))) : Prop where
  ex : ∃ d, PySem.W.nsIn K mainGlobals x = some (some (.ref d)) ∧ DTAt K w d ks
theorem GDictTF.of {K : PySem.W.Frag} {w : World} {x : Str} {ks : List (Str × Option (List V))} {d : Addr} {es : Array DictEntry} {n : Nat} (h1 : PySem.W.nsIn K mainGlobals x = some (some (.ref d))) (h2 : K.lookup d = some ⟨.type "dict", none, .dict es n, #[]⟩)
    (h3 : PySem.W.KeysLit w.params es.toList) (h4 : (d == sysModules) = false) (h5 : ∀ p ∈ ks, EntT K d p) : GDictTF K w x ks := ⟨d, h1, ⟨es, n, h2, h3, h4⟩, h5⟩
theorem GDictTF.get {K : PySem.W.Frag} {w : World} {mg : Str → Option Value} {x : Str} {ks : List (Str × Option (List V))} {h : Heap} (X : K.In h) (G : h.Ns mainGlobals mg) (F : GDictTF K w x ks) : GDictT K w mg x ks := by
  obtain ⟨d, h1, h2⟩ := F.ex
  exact ⟨d, PySem.W.mg_of X G h1, h2⟩
theorem entt_at {K : PySem.W.Frag} {d : Addr} {z : Str} {o : Option (List V)} : ∀ {ks : List (Str × Option (List V))}, (∀ p ∈ ks, EntT K d p) → ks.lookup z = some o → EntT K d (z, o)
  | [], _, h => by cases h
  | (y, p) :: ks, hk, h => by
    rw [List.lookup_cons] at h
    split at h
    · rename_i e
      cases h
      have e' := eq_of_beq e
      subst e'
      exact hk _ (List.mem_cons_self ..)
    · exact entt_at (fun q hq => hk q (List.mem_cons_of_mem _ hq)) h
def fGdT_ (K : PySem.W.Frag) (w : World) (ks : List (Str × Option (List V))) : TE := fun _ H Q => ∀ d, DTAt K w d ks → Q (.ref d) H
section
variable {X : Cx}
theorem fe_gdictT {x : Str} {pos : Pos} {ks : List (Str × Option (List V))} (hg : Gl X x) (h : GDictT X.K X.w X.mg x ks) (hd : (x == ("__debug__" : Str)) = false := by decide) : PE X (.Name x pos) (fGdT_ X.K X.w ks) := by
  obtain ⟨d, h, hs⟩ := h
  exact pe_wk (pe_glob hg h (v := .ref d) rfl hd) fun σ H Q q => q d hs
def fInDT (K : PySem.W.Frag) (w : World) : R2 := fun x y H Q => match x, y with
  | .str z, .ref d => ∃ ks o, DTAt K w d ks ∧ ks.lookup z = some o ∧ Q (.bl o.isSome) H
  | _, _ => False
theorem op_fInDT : OpR X (compareOp .In) (fInDT X.K X.w) := by
  intro pins s σ H x y v u Q I rx ry h
  match x, y, rx, ry, h with
  | .str z, .ref d, rx, ry, ⟨ks, o, D, e, q⟩ =>
    obtain ⟨es, n, kd⟩ := D.ex
    have en := entt_at D.en e
    cases o with
    | none => exact op_in_kd kd pins s σ H _ _ v u Q I rx ry ⟨z, none, rfl, rfl, en, q⟩
    | some xs =>
      obtain ⟨a, e0, _⟩ := en
      exact op_in_kd kd pins s σ H _ _ _ u Q I rx ry ⟨z, some (.ref a), rfl, rfl, e0, q⟩
def fIxDT (K : PySem.W.Frag) (w : World) : R2 := fun x y H Q => match x, y with
  | .ref d, .str z => ∃ ks xs, DTAt K w d ks ∧ ks.lookup z = some (some xs) ∧ ∀ a, (∀ H', SqT K H' a xs) → Q (.ref a) H
  | _, _ => False
theorem ix_fxDT : IxR X (fIxDT X.K X.w) := by
  intro e1 e2 pins s σ H x y v u Q I rx ry h hs
  match x, y, rx, ry, h with
  | .ref d, .str z, rx, ry, ⟨ks, xs, D, e, q⟩ =>
    obtain ⟨es, n, kd⟩ := D.ex
    obtain ⟨a, e0, r0⟩ := entt_at D.en e
    exact ix_kdict e1 e2 pins s σ H (.ref d) (.str z) v u Q I rx ry ⟨d, z, .ref a, rfl, rfl, ⟨es, n, .ref a, kd.at_, kd.lit, e0, rfl⟩, q a r0⟩ hs
end
end Fx
namespace Fx
open PySem PySem.Spec PyProof.Rows L2
section
variable {X : Cx} {o i e : Expr} {to ti te : TE} {tpos pos p1 p2 p3 : Pos} {k : Nat}
/-- xs[::-1] -/
def fRevL (K : PySem.W.Frag) (te : TE) : TE := fun σ H Q => te σ H fun x H1 => match x with
  | .ref a => ∃ xs, SqL K H1 a xs ∧ ∀ p H2, H1 p = none → Same H1 H2 → H2 p = some (.lst xs.reverse) → Q (.ref p) H2
  | _ => False
theorem fe_revL (he : PE X e te) : PE X (.Subscript e (.Slice none none (some (.UnaryOp .USub (.Constant (.int 1) k p1) p2)) p3) pos) (fRevL X.K te) :=
  pe_wk (pe_revL (pe_clos he)) fun σ H Q q => ⟨_, q, fun x H1 q => by
    split at q
    · rename_i a
      obtain ⟨xs, h, q⟩ := q
      exact ⟨a, xs, rfl, h, fun p np => q p _ np (same_new np) upd_same⟩
    · exact q.elim⟩
/-- del xs[i] -/
def sDelL (to ti : TE) : TS := fun D σ H => to σ H fun x H1 => ti σ H1 fun y H2 => match x, y with
  | .ref l, .int i => ∃ xs, ∃ n : Nat, H2 l = some (.lst xs) ∧ i = (n : Nat) ∧ n < xs.length ∧ n < 1000000 ∧ D.nx σ (upd H2 l (.lst (xs.eraseIdx n)))
  | _, _ => False
theorem fs_delL (ho : PE X o to) (hi : PE X i ti) : PS X (.Delete [.Subscript o i tpos] pos) (sDelL to ti) :=
  ps_wk (ps_delL (pe_clos ho) (pe_clos hi)) fun D σ H q => ⟨_, q, fun x H1 q => ⟨_, q, fun y H2 q => by
    split at q
    · obtain ⟨xs, n, h1, rfl, h2, h3, q⟩ := q
      refine ⟨_, xs, _, n, rfl, rfl, h1, by omega, by omega, ?_, q⟩
      unfold seqIndex?
      simp
      omega
    · exact q.elim⟩⟩
/-- for at, x in enumerate(xs) -/
def iEnum_ (K : PySem.W.Frag) (ta : TA) : TI := fun σ H R => ta σ H fun vs H1 => match vs with
  | [.ref a] => (∃ xs, SqL K H1 a xs) ∧ R (Ite K a) H1
  | _ => False
theorem pi_enum_ {ta : TA} {p pos tpos : Pos} {elts : List Expr} {kk : Nat} (hg : Gl X "enumerate") (hm : X.mg "enumerate" = none) (ha : PA X [e] ta) (hs : starEach [e] X.env = [(false, eval e X.env)] := by rfl) : PI X (.Tuple elts kk tpos) (.Call (.Name "enumerate" p) [e] [] pos) (iEnum_ X.K ta) :=
  ⟨fun pins s σ H R I h => (pi_enum hg hm (pa_clos ha) hs).run pins s σ H R I ⟨_, h, fun vs H1 q => by
    split at q
    · obtain ⟨⟨xs, h⟩, q⟩ := q
      exact ⟨_, xs, rfl, h, q⟩
    · exact q.elim⟩⟩
/-- list + list and the like in comprehensions over enumerate -/
theorem lcx_enum {K : PySem.W.Frag} {a : Addr} {xs : List V} {g : TG} {tt : TT} {te : TE} {vs : List Nat} {σ : L2.St} {H1 : Hp} {D : Addr} {Q : VK} (Pv : Nat → Hp → Prop) (h0 : Pv 0 (upd H1 D (.lst []))) (hl : ∀ i H, i ≤ xs.length → Pv i H → SqL K H a xs)
    (hs : ∀ (i : Nat) x T H H', xs[i]? = some x → Pv i H → H T = none → H' = upd H T (.tup [.int (i : Nat), x]) → g (.ref T) (wipe σ vs) H' fun σ2 H2 => wipe σ2 vs = wipe σ vs ∧ tt σ2 H2 fun b H3 =>
      if b = true then te σ2 H3 fun y H4 => ∃ acc, H4 D = some (.lst acc) ∧ acc.length < sizeLine ∧ Pv (i + 1) (upd H4 D (.lst (acc ++ [y]))) else Pv (i + 1) H3) (hd : ∀ H, Pv xs.length H → Q (.ref D) H) : Lc (Ite K a) g tt te vs σ H1 D Q :=
  lc_it walk_enum Pv h0 hl (fun i x H H' hi p y => by
    obtain ⟨T, u, v, e1, e2, e3, e4, e5⟩ := y
    cases e4
    subst e1
    exact hs i v T H H' e5 p e2 e3) hd
end
end Fx
namespace Fx
open PySem PySem.Spec PyProof.Rows L2
/-- a op1 b op2 c op3 d, as a test -/
def tChain3 (r1 r2 r3 : R2) (ta tb tc td : TE) : TT := fun σ H Q => ta σ H fun x H1 => tb σ H1 fun y H2 => r1 x y H2 fun v1 H3 => ∃ k, v1 = .bl k ∧ if k = true then tc σ H3 fun z H4 => r2 y z H4 fun v2 H5 => ∃ j, v2 = .bl j ∧ (if j = true then td σ H5 fun u H6 => r3 z u H6 fun v3 H7 => ∃ i, v3 = .bl i ∧ Q i H7 else Q false H5) else Q false H3
theorem pt_chain3 {X : Cx} {o1 o2 o3 : CmpOp} {r1 r2 r3 : R2} {a b c d : Expr} {ta tb tc td : TE} {pos : Pos} (h1 : OpR X (compareOp o1) r1) (h2 : OpR X (compareOp o2) r2) (h3 : OpR X (compareOp o3) r3) (ha : PE X a ta) (hb : PE X b tb) (hc : PE X c tc) (hd : PE X d td)
    (hm : lastMarks [o1, o2, o3] [b, c, d] = false := by with_unfolding_all rfl) : PT X (.Compare a [o1, o2, o3] [b, c, d] pos) (tChain3 r1 r2 r3 ta tb tc td) :=
  ⟨fun pins s σ H Q I h => isTrue_chain (thn (ha.run pins s σ H _ I h) fun v s1 ⟨x, H1, I1, e1, q1⟩ => test_link (thn (hb.run pins s1 σ H1 _ I1 q1) fun u s2 ⟨y, H2, I2, e2, q2⟩ =>
    thn (h1 pins s2 σ H2 x y v u _ I2 e1 e2 q2) fun t s3 ⟨z, H3, I3, e3, k, ek, q3⟩ => by
      subst ek
      cases e3
      refine wpAny_truthy_bool ?_
      cases k with
      | false => exact ite_ff ⟨H3, I3, q3⟩
      | true =>
        refine ite_tt (test_link (thn (hc.run pins s3 σ H3 _ I3 q3) fun v4 s4 ⟨z4, H4, I4, e4, q4⟩ => thn (h2 pins s4 σ H4 y z4 u v4 _ I4 e2 e4 q4) fun t5 s5 ⟨z5, H5, I5, e5, j, ej, q5⟩ => ?_))
        subst ej
        cases e5
        refine wpAny_truthy_bool ?_
        cases j with
        | false => exact ite_ff ⟨H5, I5, q5⟩
        | true =>
          refine ite_tt (test_last (thn (hd.run pins s5 σ H5 _ I5 q5) fun v6 s6 ⟨z6, H6, I6, e6, q6⟩ => thn (h3 pins s6 σ H6 z4 z6 v4 v6 _ I6 e4 e6 q6) fun t7 s7 ⟨z7, H7, I7, e7, i, ei, q7⟩ => ?_))
          subst ei
          cases e7
          exact wpAny_truthy_bool ⟨H7, I7, q7⟩)) hm⟩
end Fx
namespace Fx
open PySem PySem.Spec PyProof.Rows L2
theorem pg_tupK {X : Cx} {K : PySem.W.Frag} {es : List Expr} {k : Nat} {t : TGs} {n : Nat} {pos : Pos} (hK : X.K = K) (hc : X.calm = true) (h : PGs X es t) (hn : (assignEach es X.env).length = n := by rfl) (hst : (assignEach es X.env).findIdx? (·.1) = none := by rfl) : PG X (.Tuple es k pos) (gTup K n t) := hK ▸ pg_tup hc h hn hst
end Fx
namespace Fx
open PySem PySem.Spec PyProof.Rows L2
/-- what follows an expression is a word of its own -/
theorem cute_ {t : TE} {σ : L2.St} {H : Hp} {Q : VK} (h : ∀ N : VK, (∀ v H1, Q v H1 → N v H1) → t σ H N) : t σ H Q := h _ fun _ _ x => x
end Fx
namespace Fx
open PySem PySem.Spec PyProof.Rows L2
def fClear : V → List V → Hp → VK → Prop := fun x vs H Q => match x, vs with
  | .ref l, [] => match H l with
    | some (.lst _) => Q .non (upd H l (.lst []))
    | _ => False
  | _, _ => False
theorem mt_fClear {X : Cx} : MtR X "list.clear" fClear := by
  intro pins s σ H x xs v us Q I rx rs h
  unfold fClear at h
  split at h
  · split at h
    · exact mt_clear pins s σ H _ _ v us Q I rx rs ⟨_, _, rfl, rfl, by assumption, h⟩
    · exact h.elim
  · exact h.elim
end Fx

set_option Elab.async false
set_option linter.all false
set_option maxRecDepth 100000
set_option maxHeartbeats 1000000
/-! Wr: text.replace of written texts, loops over enumerate. -/
namespace Fx
open PySem PySem.Spec PyProof.Rows L2
section
variable {X : Cx}
/-- e.replace("a", "b") by value -/
def fReplC (to : TE) (y z : Str) : TE := fun σ H Q => to σ H fun v H1 => match v with
  | .str x => x.length + (x.length + 1) * z.length ≤ 16777216 ∧ Q (.str (Txt.replace x y z)) H1
  | _ => False
theorem pet_wk {e : Expr} {t t' : TE} (h : PET X e t) (wk : ∀ σ H Q, t' σ H Q → t σ H Q) : PET X e t' := fun pins s σ H Q h0 I q => h pins s σ H Q h0 I (wk σ H Q q)
theorem pet_clos {e : Expr} {t : TE} (h : PET X e t) : PET X e (clos t) := fun pins s σ H Q h0 I ⟨Q0, q, wk⟩ => wpAny_mono (h pins s σ H Q0 h0 I q) (fun u s' ⟨v, H', I', r, q⟩ => ⟨v, H', I', r, wk v H' q⟩) fun _ _ x => x
theorem fet_repl {o : Expr} {to : TE} {y z : Str} {j k : Nat} {c0 c1 apos pos : Pos} (ho : PET X o to) (hyz : (y == z) = false)
    (hst : starEach [.Constant (.str y) j c0, .Constant (.str z) k c1] X.env = [(false, eval (.Constant (.str y) j c0) X.env), (false, eval (.Constant (.str z) k c1) X.env)] := by rfl)
    (hbase : attributeBase o "replace" X.env (eval o X.env) = eval o X.env := by rfl) (hline : (apos.endLine == pos.line) = true := by rfl) :
    PET X (.Call (.Attribute o "replace" apos) [.Constant (.str y) j c0, .Constant (.str z) k c1] [] pos) (fReplC to y z) :=
  pet_wk (CwR.pet_replT (pet_clos ho) hyz hst hbase hline) fun σ H Q q => ⟨_, q, fun v H1 q => by
    split at q
    · exact ⟨_, rfl, q⟩
    · exact q.elim⟩
/-- i ** j, small -/
def fPow : R2 := fun x y H Q => match x, y with
  | .int i, .int j => (0 ≤ j ∧ j ≤ 1000000 ∧ i.natAbs < 18446744073709551616) ∧ Q (.int (i ^ j.toNat)) H
  | _, _ => False
theorem op_fPow : OpR X (binaryOp .Pow) fPow := by
  intro pins s σ H x y v u Q I rx ry h
  match x, y, rx, ry, h with
  | .int i, .int j, rx, ry, h => exact op_pow pins s σ H _ _ v u Q I rx ry ⟨i, j, rfl, rfl, h.1, h.2⟩
/-- x = e, e with a token -/
theorem pst_set {i : Nat} {x : Str} {e : Expr} {te : TE} {pos pos' : Pos} (hN : X.N.Nodup) (hi : X.N[i]? = some x) (hx : Loc X.env.scope x) (he : PET X e te) (hs : swapsWith e (some (.Name x pos')) pos.line X.env = pure false) (hf : X.fn x = true ∨ X.env.scope.names.lookup x = some .local := by first | exact .inl rfl | exact .inr rfl | assumption) :
    PST X (.Assign [.Name x pos'] e pos) (tAsg te (gName i)) := fun pins s σ H D h0 I h =>
  wpAny_Assign_Name (thn (he pins s σ H _ h0 I h) fun _ s1 ⟨_, H1, I1, r1, q1⟩ => store_ok I1 hN hi hx r1 (fun _ I2 => ⟨_, H1, I2, q1⟩) hf) hs
end
section
variable {P : Program} {w : World} {K : PySem.W.Frag} {mg : Str → Option Value} {base : Heap}
/-- a def whose body takes a token -/
theorem hasT_of {x qual : Str} {st : Stmt} {N ps : List Str} {k : Nat} {sp : Sp} (A : At K mg x qual st ps) (S : FnScope N ps (defScope st)) (hnc : ∀ y ∈ (defScope st).names, y.2 ≠ .cell) (hps : 1 ≤ ps.length) (len : ∀ vs H Q E, sp vs H Q E → vs.length = ps.length)
    (hbody : ∀ (cdv : Value) (f : Addr) (A : Around) (outer : List Env) (s : Shared) (H : Hp) (vs : List V) (Q : VK) (E : XK), Room k (A.deeper (envOfC qual (defScope st) s.heap.objs.size f cdv)) → sp vs H Q E →
      ∃ t, PSsT (cxOf CX0 P w K mg base N qual (defScope st) f cdv A outer s H E) (defBody st) t ∧ t { nx := fun _ H' => Q .non H', rt := Q } (start N vs) H) : Has P w K mg base CX0 x (k + 1) ps sp := by
  obtain ⟨f, fd, F, B, G⟩ := A.ex
  have F2 := F
  obtain ⟨oc, od, kV, doc, pm, an, cdv, ct, osl, rfl, lk, hcd⟩ := F.ex
  exact ⟨f, _, fn_ofT lk hcd S hnc hps len fun A outer s H vs Q E hr hsp => hbody cdv f A outer s H vs Q E hr hsp, B, G, F2.kp⟩
end
/-- the loop of for at, x in enumerate(xs) -/
theorem loop_enum {K : PySem.W.Frag} {a : Addr} {xs : List V} {g : TG} {tb : TS} {D : Ends} {σ : L2.St} {H : Hp} (Pv : Nat → L2.St → Hp → Prop) (h0 : Pv 0 σ H) (hl : ∀ i σ H, i ≤ xs.length → Pv i σ H → SqL K H a xs)
    (hs : ∀ (i : Nat) x T σ H, xs[i]? = some x → Pv i σ H → H T = none → g (.ref T) σ (upd H T (.tup [.int (i : Nat), x])) fun σ2 H2 => tb { D with nx := Pv (i + 1), ct := Pv (i + 1), bk := D.nx } σ2 H2) (hd : ∀ σ H, Pv xs.length σ H → D.nx σ H) : Loop (Ite K a) g tb D σ H :=
  L2.for_it walk_enum Pv h0 hl (fun i x σ H H' hi p y => by
    obtain ⟨T, u, v, e1, e2, e3, e4, e5⟩ := y
    cases e4
    subst e1
    rw [e3]
    exact hs i v T σ H e5 p e2) hd
end Fx

set_option Elab.async false
set_option linter.all false
set_option maxRecDepth 100000
set_option maxHeartbeats 1000000
/-! Df: makings of classes whose __init__ has one default, the empty tuple. -/
namespace Fx
open PySem PySem.Spec PyProof.Rows L2
/-- what the top has written of a method with one default, the empty tuple -/
structure MFactD (K : PySem.W.Frag) (C : Addr) (x qual : Str) (st : Stmt) : Prop where
  ex : ∃ (f : Addr) (oc : Value) (od an : Option Addr) (sl : Array (Option Value)) (T e : Addr) (kV dc pm cd ct : Value) (o : Obj) (n : Nat),
    PySem.W.findIn K (.ref C) x = some (some (.ref f)) ∧ K.lookup f = some ⟨oc, od, .func (PySem.W.fnOf x qual (defArgs st) (defBody st) (defScope st) (.ref T) kV dc pm an cd ct), sl⟩ ∧
    PySem.W.codeIn K cd qual = true ∧ PySem.W.keepIn K (.ref f) = true ∧ PySem.W.isFn K (.ref f) = true ∧ K.lookup T = some o ∧ o.data = .seq [Value.ref e].toArray n ∧ ∀ H, SqT K H e []
/-- such a method, with the parameters ps (the last one has the default) -/
structure AtD (K : PySem.W.Frag) (C : Addr) (x qual : Str) (st : Stmt) (ps : List Str) : Prop where
  ex : ∃ (f : Addr) (fd : FuncData) (e : Addr) (ds : List Value), FunD K x qual (defArgs st) (defBody st) (defScope st) [.ref e] [] f fd ∧ (∀ H, SqT K H e []) ∧ Vals [.ref e] ds ∧ Binds K fd ps ds ∧ Meth K C x f
theorem AtD.of {K : PySem.W.Frag} {C : Addr} {x qual : Str} {st : Stmt} {ps : List Str} {n : Nat} (F : MFactD K C x qual st) (hn : n + 1 = ps.length)
    (h : ∀ (T : Addr) (kV doc pm : Value) (an : Option Addr) (cdv ct : Value) (us its : List Value), us.length = n → its.length = 1 →
      ∃ k, bindArgs (PySem.W.fnOf x qual (defArgs st) (defBody st) (defScope st) (.ref T) kV doc pm an cdv ct) ⟨us, []⟩ = seqItems? (.ref T) >>= k ∧ k (some its.toArray) = pure (ps.zip (us ++ its))) : AtD K C x qual st ps := by
  obtain ⟨f, oc, od, an, sl, T, e, kV, dc, pm, cd, ct, o, m, a, l, c, k, i, lT, oT, hE⟩ := F.ex
  have FD : FunD K x qual (defArgs st) (defBody st) (defScope st) [.ref e] [] f (PySem.W.fnOf x qual (defArgs st) (defBody st) (defScope st) (.ref T) kV dc pm an cd ct) :=
    ⟨⟨oc, od, .ref T, kV, dc, pm, an, cd, ct, sl, rfl, l, c, .inr ⟨by simp, T, o, [.ref e], m, rfl, lT, oT, .cons rfl .nil⟩, .inl rfl⟩, k⟩
  obtain ⟨ds, hd, hb⟩ := FD.binds1 (ps := ps) n 0 (by simp) hn h
  exact ⟨f, _, e, ds, FD, hE, hd, hb, ⟨a, i, k⟩⟩
/-- a class whose making (all but the default are given) keeps a promise -/
structure HasCD (P : Program) (w : World) (K : PySem.W.Frag) (mg : Str → Option Value) (base : Heap) (CX : CXT) (C : Addr) (x : Str) (k : Nat) (ps : List Str) (sp : Sp) : Prop where
  ex : ∃ (f : Addr) (fd : FuncData) (sp' : Sp) (dv : V) (ds : List Value), FnOk P w K mg base CX k f fd ps sp' ∧ Binds K fd ps ds ∧ Vals [dv] ds ∧ Mk K C f ∧ mg x = some (.ref C) ∧
    ∀ vs H Q E, sp vs H Q E → ∀ y dx H0, H y = none → Same H H0 → H0 y = some (.ins C dx []) → sp' (.ref y :: (vs ++ [dv])) H0 (fun v H2 => v = .non ∧ Q (.ref y) H2) E
section
variable {P : Program} {w : World} {K : PySem.W.Frag} {mg : Str → Option Value} {base : Heap}
theorem hasCD_of {C : Addr} {x qual : Str} {st : Stmt} {N ps : List Str} {k : Nat} {sp : Sp} (M : MkAt K mg x C) (A : AtD K C "__init__" qual st ps) (S : FnScope N ps (defScope st)) (len : ∀ vs H Q E, sp vs H Q E → vs.length + 2 = ps.length)
    (hbody : ∀ (cdv : Value) (A : Around) (outer : List Env) (s : Shared) (f : Addr) (H : Hp) (vs : List V) (Q : VK) (E : XK) (y dx e : Addr) (H0 : Hp), Room k (A.deeper (envOfC qual (defScope st) s.heap.objs.size f cdv)) → sp vs H Q E → H y = none → Same H H0 → H0 y = some (.ins C dx []) → (∀ H, SqT K H e []) →
      ∃ t, PSs (cxOf CX0 P w K mg base N qual (defScope st) f cdv A outer s H0 E) (defBody st) t ∧ t { nx := fun _ H' => Q (.ref y) H', rt := fun v H' => v = .non ∧ Q (.ref y) H' } (start N (.ref y :: (vs ++ [.ref e]))) H0) : HasCD P w K mg base CX0 C x (k + 1) ps sp := by
  obtain ⟨f, fd, e, ds, F, hE, hd, B, G⟩ := A.ex
  refine ⟨f, fd, fun ws H0 Q' E => ∃ y vs H Q dx, ws = .ref y :: (vs ++ [.ref e]) ∧ sp vs H Q E ∧ H y = none ∧ Same H H0 ∧ H0 y = some (.ins C dx []) ∧ Q' = fun v H2 => v = .non ∧ Q (.ref y) H2, .ref e, ds, ?_, B, hd, ⟨M.makes, G.at_, G.fn, M.kp⟩, M.at_, ?_⟩
  · refine F.ok S (fun ws H0 Q' E h => ?_) fun cdv A outer s H0 ws Q' E hr h => ?_
    · obtain ⟨y, vs, H, Q, dx, rfl, h, _⟩ := h
      have := len vs H Q E h
      rw [List.length_cons, List.length_append, List.length_singleton]
      exact this
    · obtain ⟨y, vs, H, Q, dx, rfl, h, hy, hs, h0, rfl⟩ := h
      obtain ⟨t, h1, h2⟩ := hbody cdv A outer s f H vs Q E y dx e H0 hr h hy hs h0 hE
      refine ⟨t, h1, ?_⟩
      have e : (fun (_ : L2.St) (H' : Hp) => (fun v H2 => v = V.non ∧ Q (.ref y) H2) V.non H') = fun _ H' => Q (.ref y) H' := by
        funext _ H'
        exact propext ⟨fun h => h.2, fun h => ⟨rfl, h⟩⟩
      rw [e]
      exact h2
  · intro vs H Q E h y dx H0 hy hs h0
    exact ⟨y, vs, H, Q, dx, rfl, h, hy, hs, h0, rfl⟩
end
section
variable {X : Cx} {CX : CXT} {k : Nat} {C : Addr} {x : Str} {p pos : Pos} {e : Expr} {es : List Expr} {t : TA} {ps : List Str} {sp : Sp} {E : XK}
theorem fe_makeD (h : HasCD X.prog X.w X.K X.mg X.base CX C x k ps sp) (hr : Room (k + 1) X.A) (hg : Gl X x) (hx : Passes CX X E) (ha : PA X (e :: es) t) (hd : (x == ("__debug__" : Str)) = false := by decide)
    (hs : starEach (e :: es) X.env = (false, eval e X.env) :: starEach es X.env := by rfl) (hplain : (backTo pos (starEach es X.env)).any (·.1) = false := by rfl) : PE X (.Call (.Name x p) (e :: es) [] pos) (tCall sp [] E t) := by
  obtain ⟨f, fd, sp', dv, ds, F, B, hv, M, G, h⟩ := h.ex
  refine pe_wk (pe_make M F hr hg G B hv hx (pa_clos ha) hd hs hplain) fun σ H Q q => ⟨_, q, fun vs H1 q y dx n1 n2 n3 => ?_⟩
  rw [List.append_nil] at q
  refine h vs H1 Q E q y dx _ n1 (fun b z ez => ?_) upd_same
  rw [upd_ne (ne_of_none ez n1), upd_ne (ne_of_none ez n2)]
  exact ez
end
end Fx

set_option Elab.async false
set_option linter.all false
set_option maxRecDepth 100000
set_option maxHeartbeats 1000000
/-! Hd: heads: what the top leaves, read off by one run of the kernel. -/
namespace Hd
open PySem PySem.Spec PyProof.Rows L2 Fx
/-! ### facts as tests -/
def opB (K : PySem.W.Frag) (C : Addr) : Bool := PySem.W.plainGet K C Str.empty && (PySem.W.hasDictIn K C && (PySem.W.plainOver K C && (decide (PySem.W.findIn K (.ref C) "__setattr__" = some (some (.builtin "object.__setattr__"))) &&
  (decide (PySem.W.findIn K (.ref C) "__class__" = some (some (.builtin "object.__class__"))) && (decide (PySem.W.mroIn K C (.type "object") = some true) && (PySem.W.makesIn K C && PySem.W.keepIn K (.ref C)))))))
theorem opB_ok {K : PySem.W.Frag} {C : Addr} (h : opB K C = true) : ClsFact K C := by
  simp only [opB, Bool.and_eq_true, decide_eq_true_eq] at h
  obtain ⟨h1, h2, h3, h4, h5, h6, h7, h8⟩ := h
  exact ⟨h1, h2, h3, h4, h5, h6, h7, h8⟩
/-- an exception class of the program -/
def exB (K : PySem.W.Frag) (C : Addr) : Bool := (match K.lookup C with
  | some ⟨.type t, _, .cls cd, sl⟩ => decide (t = "type") && (match cd.mro, sl.toList with
    | .ref D :: bm, [_, _, _, _, some (.builtin n), _] => decide (D = C) && (decide (n = "ValueError.__new__") && (!cd.hasDel && (cd.hasDict && PySem.HandSPX.refsVE bm)))
    | _, _ => false)
  | _ => false) && (decide (PySem.W.findIn K (.ref C) "__setattr__" = some (some (.builtin "object.__setattr__"))) && (decide (PySem.W.findIn K (.ref C) "__getattribute__" = some (some (.builtin "BaseException.__getattribute__"))) &&
  (decide (PySem.W.findIn K (.ref C) "__getattr__" = some none) && (decide (PySem.W.subIn K (.ref C) (.type "BaseException") = some true) && (decide (PySem.W.typeIn K (.ref C) = some (.type "type")) && (PySem.W.keepIn K (.ref C) && (PySem.W.hasDictIn K C &&
  (decide (PySem.W.findIn K (.ref C) "__class__" = some (some (.builtin "object.__class__"))) && decide (PySem.W.mroIn K C (.type "object") = some true)))))))))
theorem exB_ok {K : PySem.W.Frag} {C : Addr} (h : exB K C = true) : ExcFact K C := by
  obtain ⟨h0, h⟩ := Bool.and_eq_true_iff.mp h
  simp only [Bool.and_eq_true, decide_eq_true_eq] at h
  obtain ⟨h1, h2, h3, h4, h5, h6, h7, h8, h9⟩ := h
  refine ⟨?_, h1, h2, h3, h4, h5, h6, h7, h8, h9⟩
  split at h0
  · rename_i t dd cd sl lk
    obtain ⟨g1, g2⟩ := Bool.and_eq_true_iff.mp h0
    have g1 := of_decide_eq_true g1
    subst g1
    split at g2
    · rename_i D bm k0 k1 k2 k3 n k5 hm hs
      simp only [Bool.and_eq_true, decide_eq_true_eq, Bool.not_eq_true'] at g2
      obtain ⟨rfl, rfl, e3, e4, e5⟩ := g2
      obtain ⟨nm, bs, mro, ns, qn, hd, sn, sub, ab, col, del⟩ := cd
      obtain ⟨sl⟩ := sl
      dsimp only at hm hs e3 e4
      subst hm hs e3 e4
      exact ⟨_, _, _, _, _, _, _, _, _, _, _, _, _, _, _, lk, e5⟩
    · cases g2
  · cases h0
/-- the getter of a property -/
def pa (K : PySem.W.Frag) (C : Addr) (x : Str) : Addr := match PySem.W.recIn K (He.ma K C x) "property" with
  | some (.ref f :: _) => f
  | _ => 0
/-- a name that stands for nothing, an object, a number, a text, a tuple -/
inductive Fh where
  | glo (x : Str)
  | free (x : Str)
  | int (x : Str) (i : Int)
  | str (x z : Str)
  | tup (x : Str) (vs : List V)
  | cls (x : Str)
  | exc (x : Str)
  | noat (x f : Str)
  | sub (x y : Str) (b : Bool)
  | kit (x y : Str) (b : Bool)
  | kio (x y : Str)
  | kib (n : String) (y : Str)
  | kob (x : Str) (n : String)
  | obj
  | ne (x y : Str)
  | keep (x : Str)
  | meth (x m : Str)
  | init (x : Str)
  | prop (x m : Str)
  | dict (x : Str) (ks : List (Str × Option V))
  | dicT (x : Str) (ks : List (Str × Option (List V)))
def entB (K : PySem.W.Frag) (d : Addr) : Str × Option V → Bool
  | (z, none) => He.eqO (PySem.W.nsIn K d z) (some none)
  | (z, some v) => match PySem.W.nsIn K d z with
    | some (some u) => He.relB v u
    | _ => false
def tupAt (K : PySem.W.Frag) (a : Addr) (vs : List V) : Bool := match K.lookup a with
  | some ⟨.type c, _, .seq its _, _⟩ => decide (c = "tuple") && (decide (its.size ≤ 1000) && He.relAll vs its.toList)
  | _ => false
def enTB (K : PySem.W.Frag) (d : Addr) : Str × Option (List V) → Bool
  | (z, none) => He.eqO (PySem.W.nsIn K d z) (some none)
  | (z, some vs) => match PySem.W.nsIn K d z with
    | some (some (.ref a)) => tupAt K a vs
    | _ => false
def dicB (K : PySem.W.Frag) (d : Addr) : Bool := (match K.lookup d with
  | some ⟨.type c, none, .dict _ _, sl⟩ => decide (c = "dict") && decide (sl.toList.length = 0)
  | _ => false) && !(d == sysModules)
open He (ga ma eqO)
def Fh.ok (K : PySem.W.Frag) : Fh → Bool
  | .glo x => eqO (PySem.W.nsIn K mainGlobals x) (some (some (.ref (ga K x))))
  | .free x => eqO (PySem.W.nsIn K mainGlobals x) (some none)
  | .int x i => (match PySem.W.nsIn K mainGlobals x with
    | some (some u) => He.relB (.int i) u
    | _ => false)
  | .str x z => (match PySem.W.nsIn K mainGlobals x with
    | some (some u) => He.relB (.str z) u
    | _ => false)
  | .tup x vs => tupAt K (ga K x) vs
  | .cls x => opB K (ga K x)
  | .exc x => exB K (ga K x)
  | .noat x f => eqO (PySem.W.findIn K (.ref (ga K x)) f) (some none)
  | .sub x y b => decide (PySem.W.subIn K (.ref (ga K x)) (.ref (ga K y)) = some b)
  | .kit x y b => decide (PySem.W.kitOne K (.ref (ga K x)) (.ref (ga K y)) = some b)
  | .kio x y => decide (PySem.W.kitOne K (.ref (ga K x)) (.ref (ga K y)) = some (decide (ga K x = ga K y)))
  | .kib n y => decide (PySem.W.kitOne K (.type n) (.ref (ga K y)) = some false)
  | .kob x n => decide (PySem.W.kitOne K (.ref (ga K x)) (.type n) = some false)
  | .obj => decide (PySem.W.specialIn K (.builtin "object.__class__") "__get__" = some (some (.builtin "getset_descriptor.__get__"))) && decide (PySem.W.takesIn K (.builtin "object.__class__") = some true)
  | .ne x y => decide (ga K x ≠ ga K y)
  | .keep x => PySem.W.keepIn K (.ref (ga K x))
  | .meth x m => eqO (PySem.W.findIn K (.ref (ga K x)) m) (some (some (.ref (ma K (ga K x) m)))) && (PySem.W.keepIn K (.ref (ma K (ga K x) m)) && PySem.W.isFn K (.ref (ma K (ga K x) m)))
  | .init x => eqO (PySem.W.findIn K (.ref (ga K x)) "__init__") (some (some (.ref (ma K (ga K x) "__init__")))) && (PySem.W.keepIn K (.ref (ma K (ga K x) "__init__")) && decide (PySem.W.typeIn K (.ref (ma K (ga K x) "__init__")) = some (.type "function")))
  | .prop x m => eqO (PySem.W.findIn K (.ref (ga K x)) m) (some (some (.ref (ma K (ga K x) m)))) && (decide (PySem.W.specialIn K (.ref (ma K (ga K x) m)) "__get__" = some (some (.builtin "property.__get__"))) && (decide (PySem.W.takesIn K (.ref (ma K (ga K x) m)) = some true) &&
    ((match PySem.W.recIn K (ma K (ga K x) m) "property" with
      | some (.ref _ :: _) => true
      | _ => false) && PySem.W.keepIn K (.ref (pa K (ga K x) m)))))
  | .dict x ks => dicB K (ga K x) && ks.all (entB K (ga K x))
  | .dicT x ks => dicB K (ga K x) && ks.all (enTB K (ga K x))
/-! ### functions -/
inductive At_ where
  | glo (x : Str)
  | meth (x m : Str)
  | prop (x m : Str)
def At_.ad (K : PySem.W.Frag) : At_ → Addr
  | .glo x => ga K x
  | .meth x m => ma K (ga K x) m
  | .prop x m => pa K (ga K x) m
structure Df where
  at_ : At_
  name : Str
  qual : Str
  st : Stmt
  d : Bool
/-- a tuple of one thing, the empty tuple -/
def emT (K : PySem.W.Frag) (T : Addr) : Bool := match K.lookup T with
  | some ⟨_, _, .seq its _, _⟩ => (match its.toList with
    | [.ref e] => tupAt K e []
    | _ => false)
  | _ => false
def nrm (K : PySem.W.Frag) : Value → Value
  | .none => .none
  | .ref T => if emT K T = true then .type "dfl" else .type "other"
  | _ => .type "other"
theorem nrm_none {K : PySem.W.Frag} {v : Value} (h : nrm K v = .none) : v = .none := by
  unfold nrm at h
  split at h
  · rfl
  · split at h <;> cases h
  · cases h
abbrev FV : Type := Option (Str × Str × Arguments × FuncBody × Scope × Addr × List (Str × Addr) × Value × Addr)
def fv (K : PySem.W.Frag) (a : Addr) : FV := match K.lookup a with
  | some o => match o.data with
    | .func g => some (g.name, g.qualname, g.params, g.body, g.scope, g.globals, g.closure, nrm K g.defaults, g.builtins)
    | _ => none
  | none => none
def fc (K : PySem.W.Frag) (a : Addr) (q : Str) : Bool := match K.lookup a with
  | some o => match o.data with
    | .func g => PySem.W.codeIn K g.code q
    | _ => false
  | none => false
def Df.val (d : Df) : FV := some (d.name, d.qual, defArgs d.st, .stmts (defBody d.st), defScope d.st, mainGlobals, [], (if d.d = true then .type "dfl" else .none), builtinsNs)
theorem fv_ok0 {K : PySem.W.Frag} {a : Addr} {d : Df} (e : fv K a = d.val) (c : fc K a d.qual = true) :
    ∃ oc od sl dV kV dc pm an cd ct, K.lookup a = some ⟨oc, od, .func (PySem.W.fnOf d.name d.qual (defArgs d.st) (defBody d.st) (defScope d.st) dV kV dc pm an cd ct), sl⟩ ∧ PySem.W.codeIn K cd d.qual = true ∧ nrm K dV = (if d.d = true then .type "dfl" else .none) := by
  unfold fv at e
  unfold fc at c
  split at e
  · rename_i o lk
    rw [lk] at c
    obtain ⟨oc, od, dt, sl⟩ := o
    dsimp only at e c
    split at e
    · rename_i g
      obtain ⟨m1, m2, m3, m4, m5, m6, m7, m8, m9, m10, m11, m12, m13, m14, m15⟩ := g
      unfold Df.val at e
      simp only [Option.some.injEq, Prod.mk.injEq] at e
      obtain ⟨g1, g2, g3, g4, g5, g6, g7, g8, g9⟩ := e
      subst g1 g2 g3 g4 g5 g6 g7 g9
      exact ⟨oc, od, sl, _, m9, m10, m11, m12, m13, m14, lk, c, g8⟩
    · cases e
  · cases e
theorem fv_ok {K : PySem.W.Frag} {a : Addr} {d : Df} (hd : d.d = false) (e : fv K a = d.val) (c : fc K a d.qual = true) :
    ∃ oc od sl kV dc pm an cd ct, K.lookup a = some ⟨oc, od, .func (PySem.W.fnOf d.name d.qual (defArgs d.st) (defBody d.st) (defScope d.st) .none kV dc pm an cd ct), sl⟩ ∧ PySem.W.codeIn K cd d.qual = true := by
  obtain ⟨oc, od, sl, dV, kV, dc, pm, an, cd, ct, l, h1, h2⟩ := fv_ok0 e c
  rw [hd, if_neg (by simp)] at h2
  rw [nrm_none h2] at l
  exact ⟨oc, od, sl, kV, dc, pm, an, cd, ct, l, h1⟩
theorem fv_okD {K : PySem.W.Frag} {a : Addr} {d : Df} (hd : d.d = true) (e : fv K a = d.val) (c : fc K a d.qual = true) :
    ∃ oc od sl T kV dc pm an cd ct, K.lookup a = some ⟨oc, od, .func (PySem.W.fnOf d.name d.qual (defArgs d.st) (defBody d.st) (defScope d.st) (.ref T) kV dc pm an cd ct), sl⟩ ∧ PySem.W.codeIn K cd d.qual = true ∧ emT K T = true := by
  obtain ⟨oc, od, sl, dV, kV, dc, pm, an, cd, ct, l, h1, h2⟩ := fv_ok0 e c
  rw [hd, if_pos rfl] at h2
  unfold nrm at h2
  split at h2
  · cases h2
  · rename_i T
    split at h2
    · exact ⟨oc, od, sl, T, kV, dc, pm, an, cd, ct, l, h1, by assumption⟩
    · exact absurd h2 (by simp)
  · exact absurd h2 (by simp)
/-! ### dicts: their keys -/
def keyT (e : DictEntry) : Int × Option Str := (e.hash, match e.key with | .str x _ => some x | _ => none)
def dk (K : PySem.W.Frag) (d : Addr) : List (Int × Option Str) := match K.lookup d with
  | some o => match o.data with
    | .dict es _ => es.toList.map keyT
    | _ => []
  | none => []
theorem keys_lit {P : Params} : ∀ {es : List DictEntry} {ks : List Str}, es.map keyT = ks.map (fun z => (PyData.keyHash P z, some z)) → PySem.W.KeysLit P es
  | [], _, _ => trivial
  | e :: es, [], h => by cases h
  | e :: es, k :: ks, h => by
    rw [List.map_cons, List.map_cons] at h
    obtain ⟨h1, h2⟩ := List.cons.inj h
    unfold keyT at h1
    obtain ⟨h3, h4⟩ := Prod.mk.inj h1
    refine ⟨?_, keys_lit h2⟩
    split at h4
    · rename_i x t ek
      cases h4
      exact ⟨k, t, ek, h3⟩
    · cases h4
/-! ### the Hook -/
/-- what these objects reach in n steps, front by front -/
def asF (g : Addr → Option Obj) : Nat → List Addr → List Addr
  | 0, fr => fr
  | n + 1, fr => fr ++ asF g n (fr.flatMap fun a => match g a with
    | some o => He.refsD o
    | none => [])
/-- what these names of the module reach -/
def asN (g : Addr → Option Obj) (n : Nat) (xs : List Str) : List Addr := mainGlobals :: asF g n (xs.map (He.ga (He.frG g [mainGlobals])))
abbrev Al : Type := Bool × List FV × List (List (Int × Option Str))
def obsK (fa : List Fh) (fn : List Df) (ds : List (Str × List Str)) (K : PySem.W.Frag) : Al := ((fa.all fun f => f.ok K) && fn.all fun d => fc K (d.at_.ad K) d.qual, fn.map fun d => fv K (d.at_.ad K), ds.map fun d => dk K (ga K d.1))
def valK (w : World) (fn : List Df) (ds : List (Str × List Str)) : Al := (true, fn.map Df.val, ds.map fun d => d.2.map fun z => (PyData.keyHash w.params z, some z))
def Says (fa : List Fh) (fn : List Df) (ds : List (Str × List Str)) (w : World) (K : PySem.W.Frag) : Prop := obsK fa fn ds K = valK w fn ds
def obsG (n : Nat) (xs : List Str) (fa : List Fh) (fn : List Df) (ds : List (Str × List Str)) (g : Addr → Option Obj) : Al := obsK fa fn ds (He.frG g (asN g n xs))
def hook (n : Nat) (xs : List Str) (fa : List Fh) (fn : List Df) (ds : List (Str × List Str)) : PySem.W.Hook where
  α := Al
  obs := fun s => obsG n xs fa fn ds s.heap.get?
  val := fun w => valK w fn ds
  says := fun w h => ∃ K : PySem.W.Frag, K.In h ∧ Says fa fn ds w K
  of := fun _ _ e => ⟨_, He.frG_in, e⟩
  keeps := fun _ _ _ ⟨K, hK, c⟩ k => ⟨K, PySem.W.Frag.In.keeps hK k, c⟩
theorem obsG_eq {n : Nat} {xs : List Str} {fa : List Fh} {fn : List Df} {ds : List (Str × List Str)} {g : Addr → Option Obj} {s : Shared} (h : ∀ a, g a = s.heap.get? a) : obsG n xs fa fn ds g = (hook n xs fa fn ds).obs s := by
  rw [funext h]; rfl
section
variable {fa : List Fh} {fn : List Df} {ds : List (Str × List Str)} {K : PySem.W.Frag} {w : World}
theorem Says.fact (c : Says fa fn ds w K) (i : Nat) {f : Fh} (h : fa[i]? = some f) : f.ok K = true := by
  have c1 : ((fa.all fun f => f.ok K) && fn.all fun d => fc K (d.at_.ad K) d.qual) = true := congrArg (fun z : Al => z.1) c
  exact List.all_eq_true.mp (Bool.and_eq_true_iff.mp c1).1 f (List.mem_of_getElem? h)
theorem Says.def0 (c : Says fa fn ds w K) (i : Nat) {d : Df} (h : fn[i]? = some d) : fv K (d.at_.ad K) = d.val ∧ fc K (d.at_.ad K) d.qual = true := by
  have c1 : ((fa.all fun f => f.ok K) && fn.all fun d => fc K (d.at_.ad K) d.qual) = true := congrArg (fun z : Al => z.1) c
  have c2 : fn.map (fun d => fv K (d.at_.ad K)) = fn.map Df.val := congrArg (fun z : Al => z.2.1) c
  have e : (fn.map fun d => fv K (d.at_.ad K))[i]? = (fn.map Df.val)[i]? := by rw [c2]
  rw [List.getElem?_map, List.getElem?_map, h] at e
  exact ⟨Option.some.inj e, List.all_eq_true.mp (Bool.and_eq_true_iff.mp c1).2 d (List.mem_of_getElem? h)⟩
theorem Says.def_ (c : Says fa fn ds w K) (i : Nat) {d : Df} (hd : d.d = false) (h : fn[i]? = some d) : ∃ oc od sl kV dc pm an cd ct, K.lookup (d.at_.ad K) = some ⟨oc, od, .func (PySem.W.fnOf d.name d.qual (defArgs d.st) (defBody d.st) (defScope d.st) .none kV dc pm an cd ct), sl⟩ ∧ PySem.W.codeIn K cd d.qual = true := by
  obtain ⟨e, c1⟩ := c.def0 i h
  exact fv_ok hd e c1
theorem Says.dic (c : Says fa fn ds w K) (i : Nat) {d : Str × List Str} (h : ds[i]? = some d) : dk K (ga K d.1) = d.2.map fun z => (PyData.keyHash w.params z, some z) := by
  have c2 : ds.map (fun d => dk K (ga K d.1)) = ds.map fun d => d.2.map fun z => (PyData.keyHash w.params z, some z) := congrArg (fun z : Al => z.2.2) c
  have e : (ds.map fun d => dk K (ga K d.1))[i]? = (ds.map fun d => d.2.map fun z => (PyData.keyHash w.params z, some z))[i]? := by rw [c2]
  rw [List.getElem?_map, List.getElem?_map, h] at e
  exact Option.some.inj e
/-! ### what the walks ask -/
theorem glo_ {x : Str} (h : (Fh.glo x).ok K = true) : PySem.W.nsIn K mainGlobals x = some (some (.ref (ga K x))) := He.eqO_ok h
theorem free_ {x : Str} (h : (Fh.free x).ok K = true) : PySem.W.nsIn K mainGlobals x = some none := He.eqO_ok h
theorem int_ {x : Str} {i : Int} (h : (Fh.int x i).ok K = true) : ∃ t, PySem.W.nsIn K mainGlobals x = some (some (.int i t)) := by
  have h' : (match PySem.W.nsIn K mainGlobals x with | some (some u) => He.relB (.int i) u | _ => false) = true := h
  split at h'
  · rename_i u e
    obtain ⟨t, rfl⟩ := He.relB_ok h'
    exact ⟨t, e⟩
  · cases h'
theorem str_ {x z : Str} (h : (Fh.str x z).ok K = true) : ∃ t, PySem.W.nsIn K mainGlobals x = some (some (.str z t)) := by
  have h' : (match PySem.W.nsIn K mainGlobals x with | some (some u) => He.relB (.str z) u | _ => false) = true := h
  split at h'
  · rename_i u e
    obtain ⟨t, rfl⟩ := He.relB_ok h'
    exact ⟨t, e⟩
  · cases h'
theorem tupAt_ok {a : Addr} {vs : List V} (h : tupAt K a vs = true) : ∀ H, SqT K H a vs := fun H => by
  unfold tupAt at h
  split at h
  · rename_i cc od its n sl lk
    simp only [Bool.and_eq_true, decide_eq_true_eq] at h
    obtain ⟨rfl, h2, h3⟩ := h
    exact .inr ⟨_, its, n, lk, rfl, rfl, Nat.le_trans h2 (by decide), He.relAll_ok h3⟩
  · cases h
/-- a tuple of the module, by its address -/
theorem tup_get {mg : Str → Option Value} {hp : Heap} {x : Str} {vs : List V} (X : K.In hp) (G : hp.Ns mainGlobals mg) (g : (Fh.glo x).ok K = true) (h : (Fh.tup x vs).ok K = true) : GTup K mg x vs := ⟨ga K x, PySem.W.mg_of X G (glo_ g), tupAt_ok h⟩
theorem cls_ {x : Str} (h : (Fh.cls x).ok K = true) : ClsFact K (ga K x) := opB_ok h
theorem exc_ {x : Str} (h : (Fh.exc x).ok K = true) : ExcFact K (ga K x) := exB_ok h
theorem noat_ {x f : Str} (h : (Fh.noat x f).ok K = true) : PySem.W.findIn K (.ref (ga K x)) f = some none := He.eqO_ok h
theorem sub_ {x y : Str} {b : Bool} (h : (Fh.sub x y b).ok K = true) : PySem.W.subIn K (.ref (ga K x)) (.ref (ga K y)) = some b := of_decide_eq_true h
theorem kit_ {x y : Str} {b : Bool} (h : (Fh.kit x y b).ok K = true) : PySem.W.kitOne K (.ref (ga K x)) (.ref (ga K y)) = some b := of_decide_eq_true h
theorem kio_ {x y : Str} (h : (Fh.kio x y).ok K = true) : PySem.W.kitOne K (.ref (ga K x)) (.ref (ga K y)) = some (decide (ga K x = ga K y)) := of_decide_eq_true h
theorem kib_ {n : String} {y : Str} (h : (Fh.kib n y).ok K = true) : PySem.W.kitOne K (.type n) (.ref (ga K y)) = some false := of_decide_eq_true h
theorem kob_ {x : Str} {n : String} (h : (Fh.kob x n).ok K = true) : PySem.W.kitOne K (.ref (ga K x)) (.type n) = some false := of_decide_eq_true h
theorem obj_ (h : Fh.obj.ok K = true) : ObjFact K := by
  have h : (decide (PySem.W.specialIn K (.builtin "object.__class__") "__get__" = some (some (.builtin "getset_descriptor.__get__"))) && decide (PySem.W.takesIn K (.builtin "object.__class__") = some true)) = true := h
  obtain ⟨h1, h2⟩ := Bool.and_eq_true_iff.mp h
  exact ⟨of_decide_eq_true h1, of_decide_eq_true h2⟩
theorem ne_ {x y : Str} (h : (Fh.ne x y).ok K = true) : ga K x ≠ ga K y := of_decide_eq_true h
theorem fn_ {x : Str} {qual : Str} {st : Stmt} (c : Says fa fn ds w K) (i j k : Nat) (h : fn[i]? = some ⟨.glo x, x, qual, st, false⟩) (g : fa[j]? = some (.glo x)) (p : fa[k]? = some (.keep x)) : FnFact K x qual st := by
  obtain ⟨oc, od, sl, kV, dc, pm, an, cd, ct, l, e⟩ := c.def_ i rfl h
  exact FnFact.of (glo_ (c.fact j g)) l e (c.fact k p)
theorem meth_ {x m : Str} {qual : Str} {st : Stmt} (c : Says fa fn ds w K) (i j : Nat) (h : fn[i]? = some ⟨.meth x m, m, qual, st, false⟩) (g : fa[j]? = some (.meth x m)) : MFact K (ga K x) m qual st := by
  obtain ⟨oc, od, sl, kV, dc, pm, an, cd, ct, l, e⟩ := c.def_ i rfl h
  have g := c.fact j g
  obtain ⟨g1, g⟩ := Bool.and_eq_true_iff.mp g
  obtain ⟨g2, g3⟩ := Bool.and_eq_true_iff.mp g
  exact MFact.of (He.eqO_ok g1) l e g2 g3
theorem methD_ {x m : Str} {qual : Str} {st : Stmt} (c : Says fa fn ds w K) (i j : Nat) (h : fn[i]? = some ⟨.meth x m, m, qual, st, true⟩) (g : fa[j]? = some (.meth x m)) : MFactD K (ga K x) m qual st := by
  obtain ⟨e0, c0⟩ := c.def0 i h
  obtain ⟨oc, od, sl, T, kV, dc, pm, an, cd, ct, l, e, hT⟩ := fv_okD rfl e0 c0
  have g := c.fact j g
  obtain ⟨g1, g⟩ := Bool.and_eq_true_iff.mp g
  obtain ⟨g2, g3⟩ := Bool.and_eq_true_iff.mp g
  unfold emT at hT
  split at hT
  · rename_i c1 d1 its n s1 lT
    split at hT
    · rename_i e1 he
      refine ⟨_, oc, od, an, sl, T, e1, kV, dc, pm, cd, ct, _, n, He.eqO_ok g1, l, e, g2, g3, lT, ?_, tupAt_ok hT⟩
      show Data.seq its n = _
      rw [← he]
    · cases hT
  · cases hT
theorem init_ {x : Str} {qual : Str} {st : Stmt} (c : Says fa fn ds w K) (i j : Nat) (h : fn[i]? = some ⟨.meth x "__init__", "__init__", qual, st, false⟩) (g : fa[j]? = some (.init x)) : EFact K (ga K x) qual st := by
  obtain ⟨oc, od, sl, kV, dc, pm, an, cd, ct, l, e⟩ := c.def_ i rfl h
  have g := c.fact j g
  obtain ⟨g1, g⟩ := Bool.and_eq_true_iff.mp g
  obtain ⟨g2, g3⟩ := Bool.and_eq_true_iff.mp g
  exact EFact.of (He.eqO_ok g1) l e g2 (of_decide_eq_true g3)
theorem prop_ {x m : Str} {qual : Str} {st : Stmt} (c : Says fa fn ds w K) (i j : Nat) (h : fn[i]? = some ⟨.prop x m, m, qual, st, false⟩) (g : fa[j]? = some (.prop x m)) : PFact K (ga K x) m qual st := by
  obtain ⟨oc, od, sl, kV, dc, pm, an, cd, ct, l, e⟩ := c.def_ i rfl h
  have g := c.fact j g
  obtain ⟨g1, g⟩ := Bool.and_eq_true_iff.mp g
  obtain ⟨g2, g⟩ := Bool.and_eq_true_iff.mp g
  obtain ⟨g3, g⟩ := Bool.and_eq_true_iff.mp g
  obtain ⟨g4, g5⟩ := Bool.and_eq_true_iff.mp g
  have l : K.lookup (pa K (ga K x) m) = _ := l
  have g5 : PySem.W.keepIn K (.ref (pa K (ga K x) m)) = true := g5
  split at g4
  · rename_i f rest er
    have ep : pa K (ga K x) m = f := by unfold pa; rw [er]
    rw [ep] at l g5
    exact PFact.of (He.eqO_ok g1) (of_decide_eq_true g2) (of_decide_eq_true g3) er l e g5
  · cases g4
theorem dic_ent {d : Addr} : ∀ {ks : List (Str × Option V)}, ks.all (entB K d) = true → ∀ p ∈ ks, EntOk K d p := fun h p m => by
  have h1 := List.all_eq_true.mp h p m
  obtain ⟨z, o⟩ := p
  cases o with
  | none => exact He.eqO_ok h1
  | some v =>
    have h2 : (match PySem.W.nsIn K d z with | some (some u) => He.relB v u | _ => false) = true := h1
    split at h2
    · rename_i u e
      exact ⟨u, e, He.relB_ok h2⟩
    · cases h2
theorem dic_enT {d : Addr} : ∀ {ks : List (Str × Option (List V))}, ks.all (enTB K d) = true → ∀ p ∈ ks, EntT K d p := fun h p m => by
  have h1 := List.all_eq_true.mp h p m
  obtain ⟨z, o⟩ := p
  cases o with
  | none => exact He.eqO_ok h1
  | some v =>
    have h2 : (match PySem.W.nsIn K d z with | some (some (.ref a)) => tupAt K a v | _ => false) = true := h1
    split at h2
    · rename_i a e
      exact ⟨a, e, tupAt_ok h2⟩
    · cases h2
theorem dic_at {x : Str} {ks : List Str} (e : dk K (ga K x) = ks.map fun z => (PyData.keyHash w.params z, some z)) (h : dicB K (ga K x) = true) : ∃ es n, KDict K w (ga K x) es n := by
  obtain ⟨h1, h2⟩ := Bool.and_eq_true_iff.mp h
  unfold dk at e
  split at h1
  · rename_i cc es n sl lk
    rw [lk] at e
    simp only [Bool.and_eq_true, decide_eq_true_eq] at h1
    obtain ⟨rfl, h3⟩ := h1
    have h4 : sl = #[] := by
      obtain ⟨sl⟩ := sl
      have : sl = [] := List.eq_nil_of_length_eq_zero h3
      rw [this]
    subst h4
    exact ⟨es, n, lk, keys_lit e, by simpa using h2⟩
  · cases h1
theorem dict_ {x : Str} {ks : List Str} {es : List (Str × Option V)} (c : Says fa fn ds w K) (i j k : Nat) (h : ds[i]? = some (x, ks)) (g : fa[j]? = some (.glo x)) (p : fa[k]? = some (.dict x es)) : GDictF K w x es := by
  obtain ⟨p1, p2⟩ := Bool.and_eq_true_iff.mp (c.fact k p)
  exact ⟨_, glo_ (c.fact j g), dic_at (c.dic i h) p1, dic_ent p2⟩
theorem dicT_ {x : Str} {ks : List Str} {es : List (Str × Option (List V))} (c : Says fa fn ds w K) (i j k : Nat) (h : ds[i]? = some (x, ks)) (g : fa[j]? = some (.glo x)) (p : fa[k]? = some (.dicT x es)) : GDictTF K w x es := by
  obtain ⟨p1, p2⟩ := Bool.and_eq_true_iff.mp (c.fact k p)
  exact ⟨_, glo_ (c.fact j g), dic_at (c.dic i h) p1, dic_enT p2⟩
end
end Hd

set_option Elab.async false
set_option linter.all false
set_option maxRecDepth 100000
set_option maxHeartbeats 1000000
/-! Cd: texts of code, their lines and tokens, in plain Lean. -/
namespace Cd
open PySem Fx L2
def isLet (c : Nat) : Bool := (decide (65 ≤ c) && decide (c ≤ 90)) || (decide (97 ≤ c) && decide (c ≤ 122)) || decide (c = 95)
def isDig (c : Nat) : Bool := decide (48 ≤ c) && decide (c ≤ 57)
def isCom (c : Nat) : Bool := decide (c ≠ 10)
def esc (d : Nat) : Option Nat := if d = 110 then some 10 else if d = 34 then some 34 else if d = 92 then some 92 else none
def runC (p : Nat → Bool) (cs : List Nat) : Nat := (cs.takeWhile p).length
/-- behind the first quotation mark: what stands for, how many characters up to the end -/
def quoL : List Nat → Option (List Nat × Nat)
  | [] => none
  | c :: r => if c = 34 then some ([], 1) else if c = 10 then none else if c = 92 then
      (match r with
        | [] => none
        | d :: r' => match esc d with
          | none => none
          | some e => (quoL r').map fun x => (e :: x.1, x.2 + 2))
    else (quoL r).map fun x => (c :: x.1, x.2 + 1)
theorem quoL_nil : quoL [] = none := by rw [quoL]
theorem quoL_34 (r : List Nat) : quoL (34 :: r) = some ([], 1) := by rw [quoL.eq_def]; rfl
theorem quoL_10 (r : List Nat) : quoL (10 :: r) = none := by rw [quoL.eq_def]; rfl
theorem quoL_92n : quoL [92] = none := by rw [quoL.eq_def]; rfl
theorem quoL_92 (d : Nat) (r : List Nat) : quoL (92 :: d :: r) = match esc d with
  | none => none
  | some e => (quoL r).map fun x => (e :: x.1, x.2 + 2) := by rw [quoL.eq_def]; rfl
theorem quoL_c {c : Nat} (r : List Nat) (h1 : c ≠ 34) (h2 : c ≠ 10) (h3 : c ≠ 92) : quoL (c :: r) = (quoL r).map fun x => (c :: x.1, x.2 + 1) := by rw [quoL.eq_def]; dsimp only; rw [if_neg h1, if_neg h2, if_neg h3]
theorem quoL_step {l acc : List Nat} {i j n v : Nat} (hij : i < j) (e : quoL (l.drop i) = (quoL (l.drop j)).map fun x => (v :: x.1, x.2 + (j - i)))
    (hq : (quoL (l.drop i) = none ∧ quoL (l.drop (n + 1)) = none) ∨ ∃ x, quoL (l.drop i) = some x ∧ quoL (l.drop (n + 1)) = some (acc ++ x.1, x.2 + (i - (n + 1))) ∧ n + 1 ≤ i) :
    (quoL (l.drop j) = none ∧ quoL (l.drop (n + 1)) = none) ∨ ∃ x, quoL (l.drop j) = some x ∧ quoL (l.drop (n + 1)) = some ((acc ++ [v]) ++ x.1, x.2 + (j - (n + 1))) ∧ n + 1 ≤ j := by
  rw [e] at hq
  rcases hq with ⟨q, z⟩ | ⟨x, q, z, hn⟩
  · exact .inl ⟨Option.map_eq_none_iff.mp q, z⟩
  · obtain ⟨y, hy, rfl⟩ := Option.map_eq_some_iff.mp q
    refine .inr ⟨y, hy, ?_, by omega⟩
    rw [z, List.append_assoc, List.singleton_append]
    rw [show y.2 + (j - i) + (i - (n + 1)) = y.2 + (j - (n + 1)) by omega]
inductive TV where
  | s (z : Str)
  | i (n : Int)
  | no
def value (ds : List Nat) : Nat := NumText.digitsVal ds
def numV (ds : List Nat) : Option Nat := if 300 < (ds.dropWhile (· == 48)).length then none else if (ds.dropWhile (· == 48)).isEmpty = true then some 0 else some (value (ds.dropWhile (· == 48)))
structure CT where
  kind : Str
  off : Nat
  v : TV
inductive TR where
  | tok (kind : Str) (v : TV) (n : Nat)
  | err (m : Str)
def badQ : Str := "the text is not closed"
def badC : Str := "this cannot stand here"
def minusL : List Nat → Nat
  | c :: d :: _ => if c = 45 ∧ isDig d = true then 1 else 0
  | _ => 0
def numT (m : Nat) (ds : List Nat) : TV := match numV ds with
  | none => .no
  | some k => .i (if m = 1 then -(k : Int) else (k : Int))
def tokL : List Nat → TR
  | [] => .err badC
  | c :: r =>
    if isLet c = true then .tok "word" (.s (S ((c :: r).take (runC isLet (c :: r))))) (runC isLet (c :: r))
    else if c = 34 then (match quoL r with
      | none => .err badQ
      | some x => .tok "text" (.s (S x.1)) (x.2 + 1))
    else if isDig c = true ∨ minusL (c :: r) = 1 then
      .tok "number" (numT (minusL (c :: r)) (((c :: r).drop (minusL (c :: r))).take (runC isDig ((c :: r).drop (minusL (c :: r)))))) (minusL (c :: r) + runC isDig ((c :: r).drop (minusL (c :: r))))
    else if c = 58 then .tok "colon" (.s ":") 1
    else .err badC
inductive LR where
  | ok (ls : List (List CT))
  | err (o : Nat) (m : Str)
def linL : Nat → Nat → List Nat → List CT → List (List CT) → LR
  | 0, _, _, row, acc => .ok (acc ++ [row])
  | _ + 1, _, [], row, acc => .ok (acc ++ [row])
  | f + 1, off, c :: r, row, acc =>
    if c = 10 then linL f (off + 1) r [] (acc ++ [row])
    else if c = 32 then linL f (off + 1) r row acc
    else if c = 59 then linL f (off + runC isCom (c :: r)) ((c :: r).drop (runC isCom (c :: r))) row acc
    else match tokL (c :: r) with
      | .err m => .err off m
      | .tok k v n => linL f (off + n) ((c :: r).drop n) (row ++ [⟨k, off, v⟩]) acc
theorem quoL_pos : ∀ (n : Nat) (r : List Nat) {x : List Nat × Nat}, r.length ≤ n → quoL r = some x → 1 ≤ x.2 ∧ x.2 ≤ r.length
  | 0, [], _, _, h => by cases h
  | n + 1, [], _, _, h => by cases h
  | 0, c :: r, _, hl, _ => by simp at hl
  | n + 1, c :: r, x, hl, h => by
    have hl : r.length ≤ n := by simpa using hl
    unfold quoL at h
    split at h
    · cases h; exact ⟨Nat.le_refl _, by simp⟩
    · split at h
      · cases h
      · split at h
        · cases r with
          | nil => cases h
          | cons d r' =>
            dsimp only at h
            split at h
            · cases h
            · rename_i e _
              obtain ⟨y, hy, rfl⟩ := Option.map_eq_some_iff.mp h
              have := quoL_pos n r' (by simp at hl; omega) hy
              simp only [List.length_cons]
              omega
        · obtain ⟨y, hy, rfl⟩ := Option.map_eq_some_iff.mp h
          have := quoL_pos n r hl hy
          simp only [List.length_cons]
          omega
theorem runC_le (p : Nat → Bool) (cs : List Nat) : runC p cs ≤ cs.length := (List.takeWhile_sublist _).length_le
theorem runC_pos {p : Nat → Bool} {c : Nat} {r : List Nat} (h : p c = true) : 1 ≤ runC p (c :: r) := by
  unfold runC; rw [List.takeWhile_cons, if_pos h]; simp
theorem tokL_cons (c : Nat) (r : List Nat) : tokL (c :: r) = if isLet c = true then .tok "word" (.s (S ((c :: r).take (runC isLet (c :: r))))) (runC isLet (c :: r))
    else if c = 34 then (match quoL r with
      | none => .err badQ
      | some x => .tok "text" (.s (S x.1)) (x.2 + 1))
    else if isDig c = true ∨ minusL (c :: r) = 1 then
      .tok "number" (numT (minusL (c :: r)) (((c :: r).drop (minusL (c :: r))).take (runC isDig ((c :: r).drop (minusL (c :: r)))))) (minusL (c :: r) + runC isDig ((c :: r).drop (minusL (c :: r))))
    else if c = 58 then .tok "colon" (.s ":") 1
    else .err badC := rfl
theorem minus_le (cs : List Nat) : minusL cs ≤ cs.length := by
  unfold minusL
  split
  · split
    · simp
    · exact Nat.zero_le _
  · exact Nat.zero_le _
theorem tokL_pos {c : Nat} {r : List Nat} {k : Str} {v : TV} {n : Nat} (h : tokL (c :: r) = .tok k v n) : 1 ≤ n ∧ n ≤ (c :: r).length := by
  rw [tokL_cons] at h
  split at h
  · rename_i q
    cases h
    exact ⟨runC_pos q, runC_le _ _⟩
  · split at h
    · split at h
      · cases h
      · rename_i x e
        cases h
        have := quoL_pos r.length r (Nat.le_refl _) e
        simp only [List.length_cons]
        omega
    · split at h
      · rename_i q
        cases h
        have h1 := runC_le isDig ((c :: r).drop (minusL (c :: r)))
        have h2 := minus_le (c :: r)
        rw [List.length_drop] at h1
        refine ⟨?_, by omega⟩
        rcases q with q | q
        · by_cases z : minusL (c :: r) = 0
          · rw [z, List.drop_zero]
            have := runC_pos (r := r) q
            omega
          · omega
        · omega
      · split at h
        · cases h
          exact ⟨Nat.le_refl _, by simp⟩
        · cases h
theorem linL_fuel : ∀ (f g off : Nat) (cs : List Nat) (row : List CT) (acc : List (List CT)), cs.length ≤ f → cs.length ≤ g → linL f off cs row acc = linL g off cs row acc
  | 0, 0, _, _, _, _, _, _ => rfl
  | 0, g + 1, _, [], _, _, _, _ => rfl
  | f + 1, 0, _, [], _, _, _, _ => rfl
  | f + 1, g + 1, _, [], _, _, _, _ => rfl
  | 0, _, _, _ :: _, _, _, h, _ => by simp at h
  | _ + 1, 0, _, _ :: _, _, _, _, h => by simp at h
  | f + 1, g + 1, off, c :: r, row, acc, h1, h2 => by
    have h1' : r.length ≤ f := by simpa using h1
    have h2' : r.length ≤ g := by simpa using h2
    have dl : ∀ n, 1 ≤ n → ((c :: r).drop n).length ≤ r.length := fun n hn => by rw [List.length_drop, List.length_cons]; omega
    unfold linL
    split
    · exact linL_fuel f g _ _ _ _ h1' h2'
    · split
      · exact linL_fuel f g _ _ _ _ h1' h2'
      · split
        · rename_i q
          have hp := runC_pos (p := isCom) (c := c) (r := r) (by unfold isCom; rw [q]; rfl)
          exact linL_fuel f g _ _ _ _ (Nat.le_trans (dl _ hp) h1') (Nat.le_trans (dl _ hp) h2')
        · cases e : tokL (c :: r) with
          | err m => rfl
          | tok k v n =>
            have hp := (tokL_pos e).1
            exact linL_fuel f g _ _ _ _ (Nat.le_trans (dl _ hp) h1') (Nat.le_trans (dl _ hp) h2')
/-- the lines of a text (from an offset on) -/
def lin (off : Nat) (cs : List Nat) (row : List CT) (acc : List (List CT)) : LR := linL cs.length off cs row acc
theorem lin_at {f off : Nat} {cs : List Nat} {row : List CT} {acc : List (List CT)} (h : cs.length ≤ f) : linL f off cs row acc = lin off cs row acc := linL_fuel _ _ _ _ _ _ h (Nat.le_refl _)
theorem lin_nil {off : Nat} {row : List CT} {acc : List (List CT)} : lin off [] row acc = .ok (acc ++ [row]) := rfl
theorem lin_nl {off : Nat} {r : List Nat} {row : List CT} {acc : List (List CT)} : lin off (10 :: r) row acc = lin (off + 1) r [] (acc ++ [row]) := rfl
theorem lin_sp {off : Nat} {r : List Nat} {row : List CT} {acc : List (List CT)} : lin off (32 :: r) row acc = lin (off + 1) r row acc := rfl
theorem lin_com {off : Nat} {r : List Nat} {row : List CT} {acc : List (List CT)} : lin off (59 :: r) row acc = lin (off + runC isCom (59 :: r)) ((59 :: r).drop (runC isCom (59 :: r))) row acc := by
  have h : lin off (59 :: r) row acc = linL r.length (off + runC isCom (59 :: r)) ((59 :: r).drop (runC isCom (59 :: r))) row acc := rfl
  rw [h]
  refine lin_at ?_
  have hp := runC_pos (p := isCom) (c := 59) (r := r) (by rfl)
  rw [List.length_drop, List.length_cons]; omega
theorem linL_cons {f off c : Nat} {r : List Nat} {row : List CT} {acc : List (List CT)} : linL (f + 1) off (c :: r) row acc =
    if c = 10 then linL f (off + 1) r [] (acc ++ [row])
    else if c = 32 then linL f (off + 1) r row acc
    else if c = 59 then linL f (off + runC isCom (c :: r)) ((c :: r).drop (runC isCom (c :: r))) row acc
    else match tokL (c :: r) with
      | .err m => .err off m
      | .tok k v n => linL f (off + n) ((c :: r).drop n) (row ++ [⟨k, off, v⟩]) acc := rfl
theorem lin_tok {off c : Nat} {r : List Nat} {row : List CT} {acc : List (List CT)} (h1 : c ≠ 10) (h2 : c ≠ 32) (h3 : c ≠ 59) : lin off (c :: r) row acc = match tokL (c :: r) with
    | .err m => .err off m
    | .tok k v n => lin (off + n) ((c :: r).drop n) (row ++ [⟨k, off, v⟩]) acc := by
  show linL (r.length + 1) off (c :: r) row acc = _
  rw [linL_cons, if_neg h1, if_neg h2, if_neg h3]
  cases e : tokL (c :: r) with
  | err m => rfl
  | tok k v n =>
    have hp := (tokL_pos e).1
    exact lin_at (by rw [List.length_drop, List.length_cons]; omega)
end Cd

set_option Elab.async false
set_option linter.all false
set_option maxRecDepth 100000
set_option maxHeartbeats 1000000
/-! Cp: lines of code read, in plain Lean (how many instructions the last function has). -/
namespace Cd
open PySem Fx L2
abbrev op (a : Str) (b : List Str) : Str × List Str := (a, b)
def opsT : List (Str × List Str) := [op "const" ["value"], op "load" ["number"], op "save" ["number"], op "pop" [], op "negate" ["number"], op "not" ["number"], op "add" ["number"], op "sub" ["number"], op "mul" ["number"], op "div" ["number"], op "mod" ["number"], op "eq" ["number"], op "ne" ["number"], op "lt" ["number"], op "le" ["number"], op "gt" ["number"], op "ge" ["number"], op "is" ["number"], op "jump" ["number"], op "unless" ["number"], op "both" ["number"], op "either" ["number"], op "list" ["number"], op "map" ["number", "number"], op "item" ["number"], op "set_item" ["number"], op "field" ["text", "number"], op "set_field" ["text", "number"], op "call" ["number", "number"], op "invoke" ["text", "number", "number"], op "super" ["text", "number", "number"], op "closure" ["number", "number"], op "declare" [], op "blank" [], op "drop" ["number"], op "class" ["text", "number"], op "method" ["text"], op "iter" ["number"], op "next" ["number"], op "enter" ["number"], op "leave" [], op "escape" ["number", "number", "number"], op "raise" ["number"], op "ret" []]
def bltT : List Str := ["print", "read", "str", "int", "len", "range", "kind", "abs", "min", "max", "pow", "gcd", "sqrt", "base", "parse", "char", "assert", "copy", "equals"]
def GR : Nat := 10 ^ 300
def plainT (t : CT) : Bool := decide (t.kind = "number") && (match t.v with | .i n => decide (0 ≤ n) && decide (n ≤ 999999999) | _ => false)
def constT (t : CT) : Bool := (decide (t.kind = "number") && (match t.v with | .i n => decide (-(GR : Int) < n) && decide (n < (GR : Int)) | _ => false)) || decide (t.kind = "text") || (decide (t.kind = "word") && (match t.v with | .s z => decide (z ∈ (["null", "true", "false", "error"] : List Str)) || decide (z ∈ bltT) | _ => false))
def operT (t : CT) (k : Str) : Bool := if k = "value" then constT t else (decide (k = "number") && plainT t) || (decide (k = "text") && decide (t.kind = "text"))
def opers : List CT → List Str → Bool
  | t :: ts, k :: ks => operT t k && opers ts ks
  | _, _ => true
def rowT : List CT → Bool
  | [] => false
  | t :: ts => decide (t.kind = "word") && (match t.v with
    | .s z => (match opsT.lookup z with
      | some ks => decide (ts.length = ks.length) && opers ts ks
      | none => false)
    | _ => false)
def headT : List CT → Bool
  | [a, b, d] => decide (a.kind = "word") && (match a.v with | .s z => decide (z = "function") | _ => false) && plainT b && plainT d
  | _ => false
inductive PR where
  | ok (st : Option Nat)
  | err (o : Nat) (m : Str)
def noLine : Str := "this is no line of code"
def noFun : Str := "no function has begun"
def noIdx : Str := "this is not the index of the instruction"
/-- the index in front of a line, the line behind it -/
def split_ : List CT → Option CT × List CT
  | a :: b :: ts => if a.kind = "number" ∧ b.kind = "colon" then (some a, ts) else (none, a :: b :: ts)
  | ts => (none, ts)
def idxOk (a : Option CT) (n : Nat) : Bool := match a with
  | none => true
  | some t => match t.v with
    | .i k => decide (k = (n : Int))
    | _ => false
def lineT (st : Option Nat) (ts : List CT) : PR := match ts with
  | [] => .ok st
  | t :: _ => if headT ts = true then .ok (some 0) else
    if rowT (split_ ts).2 = false then .err t.off noLine else match st with
    | none => .err t.off noFun
    | some n => if idxOk (split_ ts).1 n = true then .ok (some (n + 1)) else .err t.off noIdx
def readT (st : Option Nat) : List (List CT) → PR
  | [] => .ok st
  | ts :: ls => match lineT st ts with
    | .ok st' => readT st' ls
    | .err o m => .err o m
/-- a whole text -/
def codeT (cs : List Nat) : PR := match lin 0 cs [] [] with
  | .ok ls => readT none (ls.filter fun l => !l.isEmpty)
  | .err o m => .err o m
end Cd

set_option Elab.async false
set_option linter.all false
set_option maxRecDepth 100000
set_option maxHeartbeats 1000000
/-! Ce: the evaluation of texts of code by pieces. -/
namespace Cd
open PySem Fx L2
/-- what a token's value is, by its kind -/
def WfT (t : CT) : Prop := match t.v with
  | .s _ => t.kind ≠ "number"
  | .i n => t.kind = "number" ∧ n.natAbs < 2 ^ 1000
  | .no => t.kind = "number"
def wfB (t : CT) : Bool := match t.v with
  | .s _ => !decide (t.kind = "number")
  | .i n => decide (t.kind = "number") && decide (n.natAbs < 2 ^ 1000)
  | .no => decide (t.kind = "number")
theorem wf_of {t : CT} (h : wfB t = true) : WfT t := by
  unfold wfB at h
  unfold WfT
  split at h <;> simp_all
def knB (kw : List Str) : List CT → Bool
  | [] => true
  | t :: _ => !decide (t.kind = "word") || (match t.v with | .s z => decide (z ∈ kw) | _ => false)
def okL (kw : List Str) (ts : List CT) : Bool := decide (ts.length ≤ 1000) && knB kw (split_ ts).2 && ts.all wfB
theorem okL_len {kw : List Str} {ts : List CT} (h : okL kw ts = true) : ts.length ≤ 1000 := by
  unfold okL at h; simp at h; exact h.1.1
theorem okL_kn {kw : List Str} {ts : List CT} (h : okL kw ts = true) : knB kw (split_ ts).2 = true := by
  unfold okL at h; simp at h; exact h.1.2
theorem okL_wf {kw : List Str} {ts : List CT} (h : okL kw ts = true) : ∀ t ∈ ts, WfT t := by
  unfold okL at h; simp at h; exact fun t m => wf_of (h.2 t m)
/-- the characters behind a backslash are among those that are looked up -/
def EscOK (l : List Nat) : Prop := ∀ (i : Nat) (d : Nat), l[i]? = some 92 → l[i + 1]? = some d → d ∈ [110, 34, 92, 116, 120, 10]
def escB : List Nat → Bool
  | [] => true
  | a :: r => (if a = 92 then (match r with | d :: _ => decide (d ∈ [110, 34, 92, 116, 120, 10]) | [] => true) else true) && escB r
theorem esc_of : ∀ {l : List Nat}, escB l = true → EscOK l
  | [], _ => fun i d h => by simp at h
  | a :: r, h => fun i d h1 h2 => by
    unfold escB at h
    rw [Bool.and_eq_true] at h
    cases i with
    | zero =>
      have e : a = 92 := by simpa using h1
      have h0 := h.1
      rw [if_pos e] at h0
      cases r with
      | nil => simp at h2
      | cons b r =>
        have : b = d := by simpa using h2
        subst this
        exact of_decide_eq_true h0
    | succ i => exact esc_of h.2 i d (by simpa using h1) (by simpa using h2)
/-- what a text comes to, and that it is one that is read here -/
def Res (kw : List Str) (l : List Nat) (o : Option (Nat × Str)) : Prop := l.length ≤ 100000 ∧ EscOK l ∧ match lin 0 l [] [] with
  | .err a m => o = some (a, m)
  | .ok ls => ls.length ≤ 1000 ∧ (∀ ts ∈ ls, okL kw ts = true) ∧ match readT none (ls.filter fun l => !l.isEmpty) with
    | .ok _ => o = none
    | .err a m => o = some (a, m)
end Cd

set_option Elab.async false
set_option linter.all false
set_option maxRecDepth 100000
set_option maxHeartbeats 1000000
/-! Cf: the texts of law k36. -/
namespace Cd
open PySem Fx L2
theorem linL_end (f off : Nat) (row : List CT) (acc : List (List CT)) : linL f off [] row acc = .ok (acc ++ [row]) := by cases f <;> rfl
def kw36 : List Str := ["const", "pop", "add", "call", "field", "ret", "escape", "load", "pops", "function", "Const", "set"]
/-- a text of right lines -/
structure Tx (kw : List Str) (l : List Nat) (st : Option Nat) : Prop where
  ns : 92 ∉ l
  ru : ∃ k acc, (∀ f r, linL (f + k) 0 (l ++ r) [] [] = linL f l.length r [] acc) ∧ acc.length ≤ l.length ∧ (∀ ts ∈ acc, okL kw ts = true) ∧ readT none (acc.filter fun l => !l.isEmpty) = .ok st
/-- a right line with its newline -/
def Pc (kw : List Str) (l : List Nat) (st st' : Option Nat) : Prop := 92 ∉ l ∧ 1 ≤ l.length ∧ ∀ off, ∃ k toks, (∀ f r acc, linL (f + k) off (l ++ r) [] acc = linL f (off + l.length) r [] (acc ++ [toks])) ∧ okL kw toks = true ∧ toks.isEmpty = false ∧ lineT st toks = .ok st'
/-- a wrong line -/
def Bd (kw : List Str) (l : List Nat) (st : Option Nat) (m : Str) : Prop := 92 ∉ l ∧ ∀ off, ∃ k toks, (∀ f r acc, linL (f + k) off (l ++ 10 :: r) [] acc = linL f (off + l.length + 1) r [] (acc ++ [toks])) ∧ (∀ f acc, linL (f + k) off l [] acc = .ok (acc ++ [toks])) ∧ okL kw toks = true ∧ toks.isEmpty = false ∧ lineT st toks = .err off m
/-- a line that cannot be cut -/
def Ct (l : List Nat) (a : Nat) (m : Str) : Prop := ∀ off rest, (rest = [] ∨ ∃ r, rest = 10 :: r) → ∃ k, ∀ f acc, linL (f + k) off (l ++ rest) [] acc = .err (off + a) m
def rowOf (l : List Nat) (off : Nat) : List CT := match linL 60 off l [] [] with
  | .ok (r :: _) => r
  | _ => []
theorem linL_q {f off : Nat} {r : List Nat} {row : List CT} {acc : List (List CT)} (h : quoL r = none) : linL (f + 1) off (34 :: r) row acc = .err off badQ := by
  have e : tokL (34 :: r) = .err badQ := by
    rw [tokL_cons, if_neg (by decide), if_pos rfl, h]
  show (match tokL (34 :: r) with | .err m => LR.err off m | .tok k v n => linL f (off + n) ((34 :: r).drop n) (row ++ [(⟨k, off, v⟩ : CT)]) acc) = _
  rw [e]
def rights36 : List Str := ["const 1", "pop", "add 4", "call 0 2", "field \"x\" 3", "const print", "ret", "escape 0 1 2"]
def ends36 : List Str := ["\n", " ; \"\n"]
def lines36 : List Str := ["pops", "const", "const 1 2", "load -1", "load \"a\"", "load 1000000000", "add", "pop pop", "field x 3", "call 1", "5 pop", "pop:", "3: : pop", "const nil", "function 0", "function 0 -1", "0: function 1 0", "escape 1 2", "12", ":", "\"x\"", "Const 1", "const reads", "function 0 0 0", "load 00001000000000", "const 9999999999999999999999999999999999999999999999999999999999999999999999999999999999999999999999999999999999999999999999999999999999999999999999999999999999999999999999999999999999999999999999999999999999999999999999999999999999999999999999999999999999999999999999999999999999999999999999999999999999999", "set item 1"]
def gaps36 : List Str := ["", " ", "\n", "  ", "\n "]
def tails36 : List Str := ["", "\n", "\npop\n", "\npops\n7: pop\n"]
abbrev cp (a : Str) (b : Nat) : Str × Nat := (a, b)
def quotes36 : List (Str × Nat) := [cp "const \"ab" 6, cp "const \"a\\tb\"" 6, cp "field \"x 3" 6, cp "const \"a\\" 6, cp "field \"\\x\" 1" 6]
def cuts36 : List (Str × Nat) := [cp "const 1 +" 8, cp "const 1 (" 8, cp "const 1 -" 8, cp "const 1 '" 8, cp "const 1 =" 8, cp "const 1 ~" 8, cp "const 1 ." 8, cp "const 1 - 1" 8, cp "const 1 *2" 8, cp "const 1 /" 8, cp "+" 0, cp "(" 0, cp "-" 0, cp "'" 0, cp "=" 0, cp "~" 0, cp "." 0, cp "- 1" 0, cp "*2" 0, cp "/" 0, cp "pop +" 4, cp "pop (" 4, cp "pop -" 4, cp "pop '" 4, cp "pop =" 4, cp "pop ~" 4, cp "pop ." 4, cp "pop - 1" 4, cp "pop *2" 4, cp "pop /" 4, cp "call 0+" 6, cp "call 0(" 6, cp "call 0-" 6, cp "call 0'" 6, cp "call 0=" 6, cp "call 0~" 6, cp "call 0." 6, cp "call 0- 1" 6, cp "call 0*2" 6, cp "call 0/" 6]
theorem pc_0_0 (n : Nat) : Pc kw36 (L "const 1" ++ L "\n") (some n) (some (n + 1)) := ⟨by decide, by decide, fun off => ⟨4, rowOf (L "const 1\n") off, fun f r acc => by rfl, by rfl, by rfl, by rfl⟩⟩
theorem pc_0_1 (n : Nat) : Pc kw36 (L "const 1" ++ L " ; \"\n") (some n) (some (n + 1)) := ⟨by decide, by decide, fun off => ⟨6, rowOf (L "const 1 ; \"\n") off, fun f r acc => by rfl, by rfl, by rfl, by rfl⟩⟩
theorem nofun_0 : Bd kw36 (L "const 1") none noFun := ⟨by decide, fun off => ⟨4, rowOf (L "const 1") off, fun f r acc => by rfl, fun f acc => by rfl, by rfl, by rfl, by rfl⟩⟩
theorem pc_1_0 (n : Nat) : Pc kw36 (L "pop" ++ L "\n") (some n) (some (n + 1)) := ⟨by decide, by decide, fun off => ⟨2, rowOf (L "pop\n") off, fun f r acc => by rfl, by rfl, by rfl, by rfl⟩⟩
theorem pc_1_1 (n : Nat) : Pc kw36 (L "pop" ++ L " ; \"\n") (some n) (some (n + 1)) := ⟨by decide, by decide, fun off => ⟨4, rowOf (L "pop ; \"\n") off, fun f r acc => by rfl, by rfl, by rfl, by rfl⟩⟩
theorem nofun_1 : Bd kw36 (L "pop") none noFun := ⟨by decide, fun off => ⟨2, rowOf (L "pop") off, fun f r acc => by rfl, fun f acc => by rfl, by rfl, by rfl, by rfl⟩⟩
theorem pc_2_0 (n : Nat) : Pc kw36 (L "add 4" ++ L "\n") (some n) (some (n + 1)) := ⟨by decide, by decide, fun off => ⟨4, rowOf (L "add 4\n") off, fun f r acc => by rfl, by rfl, by rfl, by rfl⟩⟩
theorem pc_2_1 (n : Nat) : Pc kw36 (L "add 4" ++ L " ; \"\n") (some n) (some (n + 1)) := ⟨by decide, by decide, fun off => ⟨6, rowOf (L "add 4 ; \"\n") off, fun f r acc => by rfl, by rfl, by rfl, by rfl⟩⟩
theorem nofun_2 : Bd kw36 (L "add 4") none noFun := ⟨by decide, fun off => ⟨4, rowOf (L "add 4") off, fun f r acc => by rfl, fun f acc => by rfl, by rfl, by rfl, by rfl⟩⟩
theorem pc_3_0 (n : Nat) : Pc kw36 (L "call 0 2" ++ L "\n") (some n) (some (n + 1)) := ⟨by decide, by decide, fun off => ⟨6, rowOf (L "call 0 2\n") off, fun f r acc => by rfl, by rfl, by rfl, by rfl⟩⟩
theorem pc_3_1 (n : Nat) : Pc kw36 (L "call 0 2" ++ L " ; \"\n") (some n) (some (n + 1)) := ⟨by decide, by decide, fun off => ⟨8, rowOf (L "call 0 2 ; \"\n") off, fun f r acc => by rfl, by rfl, by rfl, by rfl⟩⟩
theorem nofun_3 : Bd kw36 (L "call 0 2") none noFun := ⟨by decide, fun off => ⟨6, rowOf (L "call 0 2") off, fun f r acc => by rfl, fun f acc => by rfl, by rfl, by rfl, by rfl⟩⟩
theorem pc_4_0 (n : Nat) : Pc kw36 (L "field \"x\" 3" ++ L "\n") (some n) (some (n + 1)) := ⟨by decide, by decide, fun off => ⟨6, rowOf (L "field \"x\" 3\n") off, fun f r acc => by rfl, by rfl, by rfl, by rfl⟩⟩
theorem pc_4_1 (n : Nat) : Pc kw36 (L "field \"x\" 3" ++ L " ; \"\n") (some n) (some (n + 1)) := ⟨by decide, by decide, fun off => ⟨8, rowOf (L "field \"x\" 3 ; \"\n") off, fun f r acc => by rfl, by rfl, by rfl, by rfl⟩⟩
theorem nofun_4 : Bd kw36 (L "field \"x\" 3") none noFun := ⟨by decide, fun off => ⟨6, rowOf (L "field \"x\" 3") off, fun f r acc => by rfl, fun f acc => by rfl, by rfl, by rfl, by rfl⟩⟩
theorem pc_5_0 (n : Nat) : Pc kw36 (L "const print" ++ L "\n") (some n) (some (n + 1)) := ⟨by decide, by decide, fun off => ⟨4, rowOf (L "const print\n") off, fun f r acc => by rfl, by rfl, by rfl, by rfl⟩⟩
theorem pc_5_1 (n : Nat) : Pc kw36 (L "const print" ++ L " ; \"\n") (some n) (some (n + 1)) := ⟨by decide, by decide, fun off => ⟨6, rowOf (L "const print ; \"\n") off, fun f r acc => by rfl, by rfl, by rfl, by rfl⟩⟩
theorem nofun_5 : Bd kw36 (L "const print") none noFun := ⟨by decide, fun off => ⟨4, rowOf (L "const print") off, fun f r acc => by rfl, fun f acc => by rfl, by rfl, by rfl, by rfl⟩⟩
theorem pc_6_0 (n : Nat) : Pc kw36 (L "ret" ++ L "\n") (some n) (some (n + 1)) := ⟨by decide, by decide, fun off => ⟨2, rowOf (L "ret\n") off, fun f r acc => by rfl, by rfl, by rfl, by rfl⟩⟩
theorem pc_6_1 (n : Nat) : Pc kw36 (L "ret" ++ L " ; \"\n") (some n) (some (n + 1)) := ⟨by decide, by decide, fun off => ⟨4, rowOf (L "ret ; \"\n") off, fun f r acc => by rfl, by rfl, by rfl, by rfl⟩⟩
theorem nofun_6 : Bd kw36 (L "ret") none noFun := ⟨by decide, fun off => ⟨2, rowOf (L "ret") off, fun f r acc => by rfl, fun f acc => by rfl, by rfl, by rfl, by rfl⟩⟩
theorem pc_7_0 (n : Nat) : Pc kw36 (L "escape 0 1 2" ++ L "\n") (some n) (some (n + 1)) := ⟨by decide, by decide, fun off => ⟨8, rowOf (L "escape 0 1 2\n") off, fun f r acc => by rfl, by rfl, by rfl, by rfl⟩⟩
theorem pc_7_1 (n : Nat) : Pc kw36 (L "escape 0 1 2" ++ L " ; \"\n") (some n) (some (n + 1)) := ⟨by decide, by decide, fun off => ⟨10, rowOf (L "escape 0 1 2 ; \"\n") off, fun f r acc => by rfl, by rfl, by rfl, by rfl⟩⟩
theorem nofun_7 : Bd kw36 (L "escape 0 1 2") none noFun := ⟨by decide, fun off => ⟨8, rowOf (L "escape 0 1 2") off, fun f r acc => by rfl, fun f acc => by rfl, by rfl, by rfl, by rfl⟩⟩
theorem pc_head : Pc kw36 (L "function 0 0\n") none (some 0) := ⟨by decide, by decide, fun off => ⟨6, rowOf (L "function 0 0\n") off, fun f r acc => by rfl, by rfl, by rfl, by rfl⟩⟩
theorem bd_0 (st : Option Nat) : Bd kw36 (L "pops") st noLine := ⟨by decide, fun off => ⟨2, rowOf (L "pops") off, fun f r acc => by rfl, fun f acc => by rfl, by rfl, by rfl, by rfl⟩⟩
theorem bd_1 (st : Option Nat) : Bd kw36 (L "const") st noLine := ⟨by decide, fun off => ⟨2, rowOf (L "const") off, fun f r acc => by rfl, fun f acc => by rfl, by rfl, by rfl, by rfl⟩⟩
theorem bd_2 (st : Option Nat) : Bd kw36 (L "const 1 2") st noLine := ⟨by decide, fun off => ⟨6, rowOf (L "const 1 2") off, fun f r acc => by rfl, fun f acc => by rfl, by rfl, by rfl, by rfl⟩⟩
theorem bd_3 (st : Option Nat) : Bd kw36 (L "load -1") st noLine := ⟨by decide, fun off => ⟨4, rowOf (L "load -1") off, fun f r acc => by rfl, fun f acc => by rfl, by rfl, by rfl, by rfl⟩⟩
theorem bd_4 (st : Option Nat) : Bd kw36 (L "load \"a\"") st noLine := ⟨by decide, fun off => ⟨4, rowOf (L "load \"a\"") off, fun f r acc => by rfl, fun f acc => by rfl, by rfl, by rfl, by rfl⟩⟩
theorem bd_5 (st : Option Nat) : Bd kw36 (L "load 1000000000") st noLine := ⟨by decide, fun off => ⟨4, rowOf (L "load 1000000000") off, fun f r acc => by rfl, fun f acc => by rfl, by rfl, by rfl, by rfl⟩⟩
theorem bd_6 (st : Option Nat) : Bd kw36 (L "add") st noLine := ⟨by decide, fun off => ⟨2, rowOf (L "add") off, fun f r acc => by rfl, fun f acc => by rfl, by rfl, by rfl, by rfl⟩⟩
theorem bd_7 (st : Option Nat) : Bd kw36 (L "pop pop") st noLine := ⟨by decide, fun off => ⟨4, rowOf (L "pop pop") off, fun f r acc => by rfl, fun f acc => by rfl, by rfl, by rfl, by rfl⟩⟩
theorem bd_8 (st : Option Nat) : Bd kw36 (L "field x 3") st noLine := ⟨by decide, fun off => ⟨6, rowOf (L "field x 3") off, fun f r acc => by rfl, fun f acc => by rfl, by rfl, by rfl, by rfl⟩⟩
theorem bd_9 (st : Option Nat) : Bd kw36 (L "call 1") st noLine := ⟨by decide, fun off => ⟨4, rowOf (L "call 1") off, fun f r acc => by rfl, fun f acc => by rfl, by rfl, by rfl, by rfl⟩⟩
theorem bd_10 (st : Option Nat) : Bd kw36 (L "5 pop") st noLine := ⟨by decide, fun off => ⟨4, rowOf (L "5 pop") off, fun f r acc => by rfl, fun f acc => by rfl, by rfl, by rfl, by rfl⟩⟩
theorem bd_11 (st : Option Nat) : Bd kw36 (L "pop:") st noLine := ⟨by decide, fun off => ⟨3, rowOf (L "pop:") off, fun f r acc => by rfl, fun f acc => by rfl, by rfl, by rfl, by rfl⟩⟩
theorem bd_12 (st : Option Nat) : Bd kw36 (L "3: : pop") st noLine := ⟨by decide, fun off => ⟨7, rowOf (L "3: : pop") off, fun f r acc => by rfl, fun f acc => by rfl, by rfl, by rfl, by rfl⟩⟩
theorem bd_13 (st : Option Nat) : Bd kw36 (L "const nil") st noLine := ⟨by decide, fun off => ⟨4, rowOf (L "const nil") off, fun f r acc => by rfl, fun f acc => by rfl, by rfl, by rfl, by rfl⟩⟩
theorem bd_14 (st : Option Nat) : Bd kw36 (L "function 0") st noLine := ⟨by decide, fun off => ⟨4, rowOf (L "function 0") off, fun f r acc => by rfl, fun f acc => by rfl, by rfl, by rfl, by rfl⟩⟩
theorem bd_15 (st : Option Nat) : Bd kw36 (L "function 0 -1") st noLine := ⟨by decide, fun off => ⟨6, rowOf (L "function 0 -1") off, fun f r acc => by rfl, fun f acc => by rfl, by rfl, by rfl, by rfl⟩⟩
theorem bd_16 (st : Option Nat) : Bd kw36 (L "0: function 1 0") st noLine := ⟨by decide, fun off => ⟨9, rowOf (L "0: function 1 0") off, fun f r acc => by rfl, fun f acc => by rfl, by rfl, by rfl, by rfl⟩⟩
theorem bd_17 (st : Option Nat) : Bd kw36 (L "escape 1 2") st noLine := ⟨by decide, fun off => ⟨6, rowOf (L "escape 1 2") off, fun f r acc => by rfl, fun f acc => by rfl, by rfl, by rfl, by rfl⟩⟩
theorem bd_18 (st : Option Nat) : Bd kw36 (L "12") st noLine := ⟨by decide, fun off => ⟨2, rowOf (L "12") off, fun f r acc => by rfl, fun f acc => by rfl, by rfl, by rfl, by rfl⟩⟩
theorem bd_19 (st : Option Nat) : Bd kw36 (L ":") st noLine := ⟨by decide, fun off => ⟨2, rowOf (L ":") off, fun f r acc => by rfl, fun f acc => by rfl, by rfl, by rfl, by rfl⟩⟩
theorem bd_20 (st : Option Nat) : Bd kw36 (L "\"x\"") st noLine := ⟨by decide, fun off => ⟨2, rowOf (L "\"x\"") off, fun f r acc => by rfl, fun f acc => by rfl, by rfl, by rfl, by rfl⟩⟩
theorem bd_21 (st : Option Nat) : Bd kw36 (L "Const 1") st noLine := ⟨by decide, fun off => ⟨4, rowOf (L "Const 1") off, fun f r acc => by rfl, fun f acc => by rfl, by rfl, by rfl, by rfl⟩⟩
theorem bd_22 (st : Option Nat) : Bd kw36 (L "const reads") st noLine := ⟨by decide, fun off => ⟨4, rowOf (L "const reads") off, fun f r acc => by rfl, fun f acc => by rfl, by rfl, by rfl, by rfl⟩⟩
theorem bd_23 (st : Option Nat) : Bd kw36 (L "function 0 0 0") st noLine := ⟨by decide, fun off => ⟨8, rowOf (L "function 0 0 0") off, fun f r acc => by rfl, fun f acc => by rfl, by rfl, by rfl, by rfl⟩⟩
theorem bd_24 (st : Option Nat) : Bd kw36 (L "load 00001000000000") st noLine := ⟨by decide, fun off => ⟨4, rowOf (L "load 00001000000000") off, fun f r acc => by rfl, fun f acc => by rfl, by rfl, by rfl, by rfl⟩⟩
theorem bd_25 (st : Option Nat) : Bd kw36 (L "const 9999999999999999999999999999999999999999999999999999999999999999999999999999999999999999999999999999999999999999999999999999999999999999999999999999999999999999999999999999999999999999999999999999999999999999999999999999999999999999999999999999999999999999999999999999999999999999999999999999999999999") st noLine := ⟨by decide, fun off => ⟨4, rowOf (L "const 9999999999999999999999999999999999999999999999999999999999999999999999999999999999999999999999999999999999999999999999999999999999999999999999999999999999999999999999999999999999999999999999999999999999999999999999999999999999999999999999999999999999999999999999999999999999999999999999999999999999999") off, fun f r acc => by rfl, fun f acc => by rfl, by rfl, by rfl, by rfl⟩⟩
theorem bd_26 (st : Option Nat) : Bd kw36 (L "set item 1") st noLine := ⟨by decide, fun off => ⟨6, rowOf (L "set item 1") off, fun f r acc => by rfl, fun f acc => by rfl, by rfl, by rfl, by rfl⟩⟩
theorem idx_m1 (n : Nat) (h : ¬ (-1 : Int) = (n : Int)) : Bd kw36 (L "-1: pop") (some n) noIdx := ⟨by decide, fun off => ⟨5, rowOf (L "-1: pop") off, fun f r acc => by rfl, fun f acc => by rfl, by rfl, by rfl, by
  show (if decide ((-1 : Int) = (n : Int)) = true then PR.ok (some (n + 1)) else PR.err off noIdx) = _
  rw [decide_eq_false h, if_neg (by simp)]⟩⟩
theorem idx_0 (n : Nat) (h : ¬ (0 : Int) = (n : Int)) : Bd kw36 (L "0: pop") (some n) noIdx := ⟨by decide, fun off => ⟨5, rowOf (L "0: pop") off, fun f r acc => by rfl, fun f acc => by rfl, by rfl, by rfl, by
  show (if decide ((0 : Int) = (n : Int)) = true then PR.ok (some (n + 1)) else PR.err off noIdx) = _
  rw [decide_eq_false h, if_neg (by simp)]⟩⟩
theorem idx_1 (n : Nat) (h : ¬ (1 : Int) = (n : Int)) : Bd kw36 (L "1: pop") (some n) noIdx := ⟨by decide, fun off => ⟨5, rowOf (L "1: pop") off, fun f r acc => by rfl, fun f acc => by rfl, by rfl, by rfl, by
  show (if decide ((1 : Int) = (n : Int)) = true then PR.ok (some (n + 1)) else PR.err off noIdx) = _
  rw [decide_eq_false h, if_neg (by simp)]⟩⟩
theorem idx_2 (n : Nat) (h : ¬ (2 : Int) = (n : Int)) : Bd kw36 (L "2: pop") (some n) noIdx := ⟨by decide, fun off => ⟨5, rowOf (L "2: pop") off, fun f r acc => by rfl, fun f acc => by rfl, by rfl, by rfl, by
  show (if decide ((2 : Int) = (n : Int)) = true then PR.ok (some (n + 1)) else PR.err off noIdx) = _
  rw [decide_eq_false h, if_neg (by simp)]⟩⟩
theorem idx_3 (n : Nat) (h : ¬ (3 : Int) = (n : Int)) : Bd kw36 (L "3: pop") (some n) noIdx := ⟨by decide, fun off => ⟨5, rowOf (L "3: pop") off, fun f r acc => by rfl, fun f acc => by rfl, by rfl, by rfl, by
  show (if decide ((3 : Int) = (n : Int)) = true then PR.ok (some (n + 1)) else PR.err off noIdx) = _
  rw [decide_eq_false h, if_neg (by simp)]⟩⟩
theorem idx_4 (n : Nat) (h : ¬ (4 : Int) = (n : Int)) : Bd kw36 (L "4: pop") (some n) noIdx := ⟨by decide, fun off => ⟨5, rowOf (L "4: pop") off, fun f r acc => by rfl, fun f acc => by rfl, by rfl, by rfl, by
  show (if decide ((4 : Int) = (n : Int)) = true then PR.ok (some (n + 1)) else PR.err off noIdx) = _
  rw [decide_eq_false h, if_neg (by simp)]⟩⟩
theorem idx_5 (n : Nat) (h : ¬ (5 : Int) = (n : Int)) : Bd kw36 (L "5: pop") (some n) noIdx := ⟨by decide, fun off => ⟨5, rowOf (L "5: pop") off, fun f r acc => by rfl, fun f acc => by rfl, by rfl, by rfl, by
  show (if decide ((5 : Int) = (n : Int)) = true then PR.ok (some (n + 1)) else PR.err off noIdx) = _
  rw [decide_eq_false h, if_neg (by simp)]⟩⟩
theorem idx_6 (n : Nat) (h : ¬ (6 : Int) = (n : Int)) : Bd kw36 (L "6: pop") (some n) noIdx := ⟨by decide, fun off => ⟨5, rowOf (L "6: pop") off, fun f r acc => by rfl, fun f acc => by rfl, by rfl, by rfl, by
  show (if decide ((6 : Int) = (n : Int)) = true then PR.ok (some (n + 1)) else PR.err off noIdx) = _
  rw [decide_eq_false h, if_neg (by simp)]⟩⟩
theorem idx_7 (n : Nat) (h : ¬ (7 : Int) = (n : Int)) : Bd kw36 (L "7: pop") (some n) noIdx := ⟨by decide, fun off => ⟨5, rowOf (L "7: pop") off, fun f r acc => by rfl, fun f acc => by rfl, by rfl, by rfl, by
  show (if decide ((7 : Int) = (n : Int)) = true then PR.ok (some (n + 1)) else PR.err off noIdx) = _
  rw [decide_eq_false h, if_neg (by simp)]⟩⟩
theorem idx_8 (n : Nat) (h : ¬ (8 : Int) = (n : Int)) : Bd kw36 (L "8: pop") (some n) noIdx := ⟨by decide, fun off => ⟨5, rowOf (L "8: pop") off, fun f r acc => by rfl, fun f acc => by rfl, by rfl, by rfl, by
  show (if decide ((8 : Int) = (n : Int)) = true then PR.ok (some (n + 1)) else PR.err off noIdx) = _
  rw [decide_eq_false h, if_neg (by simp)]⟩⟩
theorem idx_9 (n : Nat) (h : ¬ (9 : Int) = (n : Int)) : Bd kw36 (L "9: pop") (some n) noIdx := ⟨by decide, fun off => ⟨5, rowOf (L "9: pop") off, fun f r acc => by rfl, fun f acc => by rfl, by rfl, by rfl, by
  show (if decide ((9 : Int) = (n : Int)) = true then PR.ok (some (n + 1)) else PR.err off noIdx) = _
  rw [decide_eq_false h, if_neg (by simp)]⟩⟩
theorem idx_10 (n : Nat) (h : ¬ (10 : Int) = (n : Int)) : Bd kw36 (L "10: pop") (some n) noIdx := ⟨by decide, fun off => ⟨5, rowOf (L "10: pop") off, fun f r acc => by rfl, fun f acc => by rfl, by rfl, by rfl, by
  show (if decide ((10 : Int) = (n : Int)) = true then PR.ok (some (n + 1)) else PR.err off noIdx) = _
  rw [decide_eq_false h, if_neg (by simp)]⟩⟩
theorem idx_11 (n : Nat) (h : ¬ (11 : Int) = (n : Int)) : Bd kw36 (L "11: pop") (some n) noIdx := ⟨by decide, fun off => ⟨5, rowOf (L "11: pop") off, fun f r acc => by rfl, fun f acc => by rfl, by rfl, by rfl, by
  show (if decide ((11 : Int) = (n : Int)) = true then PR.ok (some (n + 1)) else PR.err off noIdx) = _
  rw [decide_eq_false h, if_neg (by simp)]⟩⟩
theorem idx_12 (n : Nat) (h : ¬ (12 : Int) = (n : Int)) : Bd kw36 (L "12: pop") (some n) noIdx := ⟨by decide, fun off => ⟨5, rowOf (L "12: pop") off, fun f r acc => by rfl, fun f acc => by rfl, by rfl, by rfl, by
  show (if decide ((12 : Int) = (n : Int)) = true then PR.ok (some (n + 1)) else PR.err off noIdx) = _
  rw [decide_eq_false h, if_neg (by simp)]⟩⟩
theorem ctq_0 : Ct (L "const \"ab") 6 badQ := fun off rest h => by
  rcases h with rfl | ⟨r, rfl⟩
  · exact ⟨3, fun f acc => by rfl⟩
  · have q : quoL (97 :: 98 :: 10 :: r) = none := by
      rw [quoL_c _ (by decide) (by decide) (by decide), quoL_c _ (by decide) (by decide) (by decide), quoL_10]; rfl
    exact ⟨3, fun f acc => linL_q (off := off + 6) q⟩
theorem ctq_1 : Ct (L "const \"a\\tb\"") 6 badQ := fun off rest h => by
  rcases h with rfl | ⟨r, rfl⟩
  · exact ⟨3, fun f acc => by rfl⟩
  · exact ⟨3, fun f acc => by rfl⟩
theorem ctq_2 : Ct (L "field \"x 3") 6 badQ := fun off rest h => by
  rcases h with rfl | ⟨r, rfl⟩
  · exact ⟨3, fun f acc => by rfl⟩
  · have q : quoL (120 :: 32 :: 51 :: 10 :: r) = none := by
      rw [quoL_c _ (by decide) (by decide) (by decide), quoL_c _ (by decide) (by decide) (by decide), quoL_c _ (by decide) (by decide) (by decide), quoL_10]; rfl
    exact ⟨3, fun f acc => linL_q (off := off + 6) q⟩
theorem ctq_3 : Ct (L "const \"a\\") 6 badQ := fun off rest h => by
  rcases h with rfl | ⟨r, rfl⟩
  · exact ⟨3, fun f acc => by rfl⟩
  · exact ⟨3, fun f acc => by rfl⟩
theorem ctq_4 : Ct (L "field \"\\x\" 1") 6 badQ := fun off rest h => by
  rcases h with rfl | ⟨r, rfl⟩
  · exact ⟨3, fun f acc => by rfl⟩
  · exact ⟨3, fun f acc => by rfl⟩
theorem ct_0 : Ct (L "const 1 +") 8 badC := fun off rest h => by
  rcases h with rfl | ⟨r, rfl⟩
  · exact ⟨5, fun f acc => by rfl⟩
  · exact ⟨5, fun f acc => by rfl⟩
theorem ct_1 : Ct (L "const 1 (") 8 badC := fun off rest h => by
  rcases h with rfl | ⟨r, rfl⟩
  · exact ⟨5, fun f acc => by rfl⟩
  · exact ⟨5, fun f acc => by rfl⟩
theorem ct_2 : Ct (L "const 1 -") 8 badC := fun off rest h => by
  rcases h with rfl | ⟨r, rfl⟩
  · exact ⟨5, fun f acc => by rfl⟩
  · exact ⟨5, fun f acc => by rfl⟩
theorem ct_3 : Ct (L "const 1 '") 8 badC := fun off rest h => by
  rcases h with rfl | ⟨r, rfl⟩
  · exact ⟨5, fun f acc => by rfl⟩
  · exact ⟨5, fun f acc => by rfl⟩
theorem ct_4 : Ct (L "const 1 =") 8 badC := fun off rest h => by
  rcases h with rfl | ⟨r, rfl⟩
  · exact ⟨5, fun f acc => by rfl⟩
  · exact ⟨5, fun f acc => by rfl⟩
theorem ct_5 : Ct (L "const 1 ~") 8 badC := fun off rest h => by
  rcases h with rfl | ⟨r, rfl⟩
  · exact ⟨5, fun f acc => by rfl⟩
  · exact ⟨5, fun f acc => by rfl⟩
theorem ct_6 : Ct (L "const 1 .") 8 badC := fun off rest h => by
  rcases h with rfl | ⟨r, rfl⟩
  · exact ⟨5, fun f acc => by rfl⟩
  · exact ⟨5, fun f acc => by rfl⟩
theorem ct_7 : Ct (L "const 1 - 1") 8 badC := fun off rest h => by
  rcases h with rfl | ⟨r, rfl⟩
  · exact ⟨5, fun f acc => by rfl⟩
  · exact ⟨5, fun f acc => by rfl⟩
theorem ct_8 : Ct (L "const 1 *2") 8 badC := fun off rest h => by
  rcases h with rfl | ⟨r, rfl⟩
  · exact ⟨5, fun f acc => by rfl⟩
  · exact ⟨5, fun f acc => by rfl⟩
theorem ct_9 : Ct (L "const 1 /") 8 badC := fun off rest h => by
  rcases h with rfl | ⟨r, rfl⟩
  · exact ⟨5, fun f acc => by rfl⟩
  · exact ⟨5, fun f acc => by rfl⟩
theorem ct_10 : Ct (L "+") 0 badC := fun off rest h => by
  rcases h with rfl | ⟨r, rfl⟩
  · exact ⟨1, fun f acc => by rfl⟩
  · exact ⟨1, fun f acc => by rfl⟩
theorem ct_11 : Ct (L "(") 0 badC := fun off rest h => by
  rcases h with rfl | ⟨r, rfl⟩
  · exact ⟨1, fun f acc => by rfl⟩
  · exact ⟨1, fun f acc => by rfl⟩
theorem ct_12 : Ct (L "-") 0 badC := fun off rest h => by
  rcases h with rfl | ⟨r, rfl⟩
  · exact ⟨1, fun f acc => by rfl⟩
  · exact ⟨1, fun f acc => by rfl⟩
theorem ct_13 : Ct (L "'") 0 badC := fun off rest h => by
  rcases h with rfl | ⟨r, rfl⟩
  · exact ⟨1, fun f acc => by rfl⟩
  · exact ⟨1, fun f acc => by rfl⟩
theorem ct_14 : Ct (L "=") 0 badC := fun off rest h => by
  rcases h with rfl | ⟨r, rfl⟩
  · exact ⟨1, fun f acc => by rfl⟩
  · exact ⟨1, fun f acc => by rfl⟩
theorem ct_15 : Ct (L "~") 0 badC := fun off rest h => by
  rcases h with rfl | ⟨r, rfl⟩
  · exact ⟨1, fun f acc => by rfl⟩
  · exact ⟨1, fun f acc => by rfl⟩
theorem ct_16 : Ct (L ".") 0 badC := fun off rest h => by
  rcases h with rfl | ⟨r, rfl⟩
  · exact ⟨1, fun f acc => by rfl⟩
  · exact ⟨1, fun f acc => by rfl⟩
theorem ct_17 : Ct (L "- 1") 0 badC := fun off rest h => by
  rcases h with rfl | ⟨r, rfl⟩
  · exact ⟨1, fun f acc => by rfl⟩
  · exact ⟨1, fun f acc => by rfl⟩
theorem ct_18 : Ct (L "*2") 0 badC := fun off rest h => by
  rcases h with rfl | ⟨r, rfl⟩
  · exact ⟨1, fun f acc => by rfl⟩
  · exact ⟨1, fun f acc => by rfl⟩
theorem ct_19 : Ct (L "/") 0 badC := fun off rest h => by
  rcases h with rfl | ⟨r, rfl⟩
  · exact ⟨1, fun f acc => by rfl⟩
  · exact ⟨1, fun f acc => by rfl⟩
theorem ct_20 : Ct (L "pop +") 4 badC := fun off rest h => by
  rcases h with rfl | ⟨r, rfl⟩
  · exact ⟨3, fun f acc => by rfl⟩
  · exact ⟨3, fun f acc => by rfl⟩
theorem ct_21 : Ct (L "pop (") 4 badC := fun off rest h => by
  rcases h with rfl | ⟨r, rfl⟩
  · exact ⟨3, fun f acc => by rfl⟩
  · exact ⟨3, fun f acc => by rfl⟩
theorem ct_22 : Ct (L "pop -") 4 badC := fun off rest h => by
  rcases h with rfl | ⟨r, rfl⟩
  · exact ⟨3, fun f acc => by rfl⟩
  · exact ⟨3, fun f acc => by rfl⟩
theorem ct_23 : Ct (L "pop '") 4 badC := fun off rest h => by
  rcases h with rfl | ⟨r, rfl⟩
  · exact ⟨3, fun f acc => by rfl⟩
  · exact ⟨3, fun f acc => by rfl⟩
theorem ct_24 : Ct (L "pop =") 4 badC := fun off rest h => by
  rcases h with rfl | ⟨r, rfl⟩
  · exact ⟨3, fun f acc => by rfl⟩
  · exact ⟨3, fun f acc => by rfl⟩
theorem ct_25 : Ct (L "pop ~") 4 badC := fun off rest h => by
  rcases h with rfl | ⟨r, rfl⟩
  · exact ⟨3, fun f acc => by rfl⟩
  · exact ⟨3, fun f acc => by rfl⟩
theorem ct_26 : Ct (L "pop .") 4 badC := fun off rest h => by
  rcases h with rfl | ⟨r, rfl⟩
  · exact ⟨3, fun f acc => by rfl⟩
  · exact ⟨3, fun f acc => by rfl⟩
theorem ct_27 : Ct (L "pop - 1") 4 badC := fun off rest h => by
  rcases h with rfl | ⟨r, rfl⟩
  · exact ⟨3, fun f acc => by rfl⟩
  · exact ⟨3, fun f acc => by rfl⟩
theorem ct_28 : Ct (L "pop *2") 4 badC := fun off rest h => by
  rcases h with rfl | ⟨r, rfl⟩
  · exact ⟨3, fun f acc => by rfl⟩
  · exact ⟨3, fun f acc => by rfl⟩
theorem ct_29 : Ct (L "pop /") 4 badC := fun off rest h => by
  rcases h with rfl | ⟨r, rfl⟩
  · exact ⟨3, fun f acc => by rfl⟩
  · exact ⟨3, fun f acc => by rfl⟩
theorem ct_30 : Ct (L "call 0+") 6 badC := fun off rest h => by
  rcases h with rfl | ⟨r, rfl⟩
  · exact ⟨4, fun f acc => by rfl⟩
  · exact ⟨4, fun f acc => by rfl⟩
theorem ct_31 : Ct (L "call 0(") 6 badC := fun off rest h => by
  rcases h with rfl | ⟨r, rfl⟩
  · exact ⟨4, fun f acc => by rfl⟩
  · exact ⟨4, fun f acc => by rfl⟩
theorem ct_32 : Ct (L "call 0-") 6 badC := fun off rest h => by
  rcases h with rfl | ⟨r, rfl⟩
  · exact ⟨4, fun f acc => by rfl⟩
  · exact ⟨4, fun f acc => by rfl⟩
theorem ct_33 : Ct (L "call 0'") 6 badC := fun off rest h => by
  rcases h with rfl | ⟨r, rfl⟩
  · exact ⟨4, fun f acc => by rfl⟩
  · exact ⟨4, fun f acc => by rfl⟩
theorem ct_34 : Ct (L "call 0=") 6 badC := fun off rest h => by
  rcases h with rfl | ⟨r, rfl⟩
  · exact ⟨4, fun f acc => by rfl⟩
  · exact ⟨4, fun f acc => by rfl⟩
theorem ct_35 : Ct (L "call 0~") 6 badC := fun off rest h => by
  rcases h with rfl | ⟨r, rfl⟩
  · exact ⟨4, fun f acc => by rfl⟩
  · exact ⟨4, fun f acc => by rfl⟩
theorem ct_36 : Ct (L "call 0.") 6 badC := fun off rest h => by
  rcases h with rfl | ⟨r, rfl⟩
  · exact ⟨4, fun f acc => by rfl⟩
  · exact ⟨4, fun f acc => by rfl⟩
theorem ct_37 : Ct (L "call 0- 1") 6 badC := fun off rest h => by
  rcases h with rfl | ⟨r, rfl⟩
  · exact ⟨4, fun f acc => by rfl⟩
  · exact ⟨4, fun f acc => by rfl⟩
theorem ct_38 : Ct (L "call 0*2") 6 badC := fun off rest h => by
  rcases h with rfl | ⟨r, rfl⟩
  · exact ⟨4, fun f acc => by rfl⟩
  · exact ⟨4, fun f acc => by rfl⟩
theorem ct_39 : Ct (L "call 0/") 6 badC := fun off rest h => by
  rcases h with rfl | ⟨r, rfl⟩
  · exact ⟨4, fun f acc => by rfl⟩
  · exact ⟨4, fun f acc => by rfl⟩
theorem pc_all (n : Nat) : ∀ r ∈ rights36, ∀ e ∈ ends36, Pc kw36 (L r ++ L e) (some n) (some (n + 1)) := (List.forall_mem_cons.mpr ⟨(List.forall_mem_cons.mpr ⟨pc_0_0 n, (List.forall_mem_cons.mpr ⟨pc_0_1 n, (List.forall_mem_nil _)⟩)⟩), (List.forall_mem_cons.mpr ⟨(List.forall_mem_cons.mpr ⟨pc_1_0 n, (List.forall_mem_cons.mpr ⟨pc_1_1 n, (List.forall_mem_nil _)⟩)⟩), (List.forall_mem_cons.mpr ⟨(List.forall_mem_cons.mpr ⟨pc_2_0 n, (List.forall_mem_cons.mpr ⟨pc_2_1 n, (List.forall_mem_nil _)⟩)⟩), (List.forall_mem_cons.mpr ⟨(List.forall_mem_cons.mpr ⟨pc_3_0 n, (List.forall_mem_cons.mpr ⟨pc_3_1 n, (List.forall_mem_nil _)⟩)⟩), (List.forall_mem_cons.mpr ⟨(List.forall_mem_cons.mpr ⟨pc_4_0 n, (List.forall_mem_cons.mpr ⟨pc_4_1 n, (List.forall_mem_nil _)⟩)⟩), (List.forall_mem_cons.mpr ⟨(List.forall_mem_cons.mpr ⟨pc_5_0 n, (List.forall_mem_cons.mpr ⟨pc_5_1 n, (List.forall_mem_nil _)⟩)⟩), (List.forall_mem_cons.mpr ⟨(List.forall_mem_cons.mpr ⟨pc_6_0 n, (List.forall_mem_cons.mpr ⟨pc_6_1 n, (List.forall_mem_nil _)⟩)⟩), (List.forall_mem_cons.mpr ⟨(List.forall_mem_cons.mpr ⟨pc_7_0 n, (List.forall_mem_cons.mpr ⟨pc_7_1 n, (List.forall_mem_nil _)⟩)⟩), (List.forall_mem_nil _)⟩)⟩)⟩)⟩)⟩)⟩)⟩)⟩)
theorem nofun_all : ∀ r ∈ rights36, Bd kw36 (L r) none noFun := (List.forall_mem_cons.mpr ⟨nofun_0, (List.forall_mem_cons.mpr ⟨nofun_1, (List.forall_mem_cons.mpr ⟨nofun_2, (List.forall_mem_cons.mpr ⟨nofun_3, (List.forall_mem_cons.mpr ⟨nofun_4, (List.forall_mem_cons.mpr ⟨nofun_5, (List.forall_mem_cons.mpr ⟨nofun_6, (List.forall_mem_cons.mpr ⟨nofun_7, (List.forall_mem_nil _)⟩)⟩)⟩)⟩)⟩)⟩)⟩)⟩)
theorem bd_all (st : Option Nat) : ∀ r ∈ lines36, Bd kw36 (L r) st noLine := (List.forall_mem_cons.mpr ⟨bd_0 st, (List.forall_mem_cons.mpr ⟨bd_1 st, (List.forall_mem_cons.mpr ⟨bd_2 st, (List.forall_mem_cons.mpr ⟨bd_3 st, (List.forall_mem_cons.mpr ⟨bd_4 st, (List.forall_mem_cons.mpr ⟨bd_5 st, (List.forall_mem_cons.mpr ⟨bd_6 st, (List.forall_mem_cons.mpr ⟨bd_7 st, (List.forall_mem_cons.mpr ⟨bd_8 st, (List.forall_mem_cons.mpr ⟨bd_9 st, (List.forall_mem_cons.mpr ⟨bd_10 st, (List.forall_mem_cons.mpr ⟨bd_11 st, (List.forall_mem_cons.mpr ⟨bd_12 st, (List.forall_mem_cons.mpr ⟨bd_13 st, (List.forall_mem_cons.mpr ⟨bd_14 st, (List.forall_mem_cons.mpr ⟨bd_15 st, (List.forall_mem_cons.mpr ⟨bd_16 st, (List.forall_mem_cons.mpr ⟨bd_17 st, (List.forall_mem_cons.mpr ⟨bd_18 st, (List.forall_mem_cons.mpr ⟨bd_19 st, (List.forall_mem_cons.mpr ⟨bd_20 st, (List.forall_mem_cons.mpr ⟨bd_21 st, (List.forall_mem_cons.mpr ⟨bd_22 st, (List.forall_mem_cons.mpr ⟨bd_23 st, (List.forall_mem_cons.mpr ⟨bd_24 st, (List.forall_mem_cons.mpr ⟨bd_25 st, (List.forall_mem_cons.mpr ⟨bd_26 st, (List.forall_mem_nil _)⟩)⟩)⟩)⟩)⟩)⟩)⟩)⟩)⟩)⟩)⟩)⟩)⟩)⟩)⟩)⟩)⟩)⟩)⟩)⟩)⟩)⟩)⟩)⟩)⟩)⟩)⟩)
theorem ctq_all : ∀ r ∈ quotes36, Ct (L r.1) r.2 badQ := (List.forall_mem_cons.mpr ⟨ctq_0, (List.forall_mem_cons.mpr ⟨ctq_1, (List.forall_mem_cons.mpr ⟨ctq_2, (List.forall_mem_cons.mpr ⟨ctq_3, (List.forall_mem_cons.mpr ⟨ctq_4, (List.forall_mem_nil _)⟩)⟩)⟩)⟩)⟩)
theorem ct_all : ∀ r ∈ cuts36, Ct (L r.1) r.2 badC := (List.forall_mem_cons.mpr ⟨ct_0, (List.forall_mem_cons.mpr ⟨ct_1, (List.forall_mem_cons.mpr ⟨ct_2, (List.forall_mem_cons.mpr ⟨ct_3, (List.forall_mem_cons.mpr ⟨ct_4, (List.forall_mem_cons.mpr ⟨ct_5, (List.forall_mem_cons.mpr ⟨ct_6, (List.forall_mem_cons.mpr ⟨ct_7, (List.forall_mem_cons.mpr ⟨ct_8, (List.forall_mem_cons.mpr ⟨ct_9, (List.forall_mem_cons.mpr ⟨ct_10, (List.forall_mem_cons.mpr ⟨ct_11, (List.forall_mem_cons.mpr ⟨ct_12, (List.forall_mem_cons.mpr ⟨ct_13, (List.forall_mem_cons.mpr ⟨ct_14, (List.forall_mem_cons.mpr ⟨ct_15, (List.forall_mem_cons.mpr ⟨ct_16, (List.forall_mem_cons.mpr ⟨ct_17, (List.forall_mem_cons.mpr ⟨ct_18, (List.forall_mem_cons.mpr ⟨ct_19, (List.forall_mem_cons.mpr ⟨ct_20, (List.forall_mem_cons.mpr ⟨ct_21, (List.forall_mem_cons.mpr ⟨ct_22, (List.forall_mem_cons.mpr ⟨ct_23, (List.forall_mem_cons.mpr ⟨ct_24, (List.forall_mem_cons.mpr ⟨ct_25, (List.forall_mem_cons.mpr ⟨ct_26, (List.forall_mem_cons.mpr ⟨ct_27, (List.forall_mem_cons.mpr ⟨ct_28, (List.forall_mem_cons.mpr ⟨ct_29, (List.forall_mem_cons.mpr ⟨ct_30, (List.forall_mem_cons.mpr ⟨ct_31, (List.forall_mem_cons.mpr ⟨ct_32, (List.forall_mem_cons.mpr ⟨ct_33, (List.forall_mem_cons.mpr ⟨ct_34, (List.forall_mem_cons.mpr ⟨ct_35, (List.forall_mem_cons.mpr ⟨ct_36, (List.forall_mem_cons.mpr ⟨ct_37, (List.forall_mem_cons.mpr ⟨ct_38, (List.forall_mem_cons.mpr ⟨ct_39, (List.forall_mem_nil _)⟩)⟩)⟩)⟩)⟩)⟩)⟩)⟩)⟩)⟩)⟩)⟩)⟩)⟩)⟩)⟩)⟩)⟩)⟩)⟩)⟩)⟩)⟩)⟩)⟩)⟩)⟩)⟩)⟩)⟩)⟩)⟩)⟩)⟩)⟩)⟩)⟩)⟩)⟩)⟩)

end Cd

set_option Elab.async false
set_option linter.all false
set_option maxRecDepth 100000
set_option maxHeartbeats 1000000
/-! Cg: texts of law k36, put together. -/
namespace Cd
open PySem Fx L2
theorem readT_app : ∀ (ls : List (List CT)) {st st' : Option Nat} (ms : List (List CT)), readT st ls = .ok st' → readT st (ls ++ ms) = readT st' ms
  | [], _, _, _, h => by cases h; rfl
  | ts :: ls, st, st', ms, h => by
    have e : readT st (ts :: ls) = match lineT st ts with | .ok st' => readT st' ls | .err o m => .err o m := rfl
    have e2 : readT st (ts :: ls ++ ms) = match lineT st ts with | .ok st' => readT st' (ls ++ ms) | .err o m => .err o m := rfl
    rw [e] at h
    rw [e2]
    cases q : lineT st ts with
    | ok s2 => rw [q] at h; exact readT_app ls ms h
    | err o m => rw [q] at h; cases h
theorem fil_app (a b : List (List CT)) : (a ++ b).filter (fun l => !l.isEmpty) = a.filter (fun l => !l.isEmpty) ++ b.filter (fun l => !l.isEmpty) := List.filter_append ..
theorem tx_nil {kw : List Str} : Tx kw [] none := ⟨by simp, 0, [], fun f r => rfl, Nat.le_refl _, fun _ h => (by cases h), rfl⟩
/-- a step by a piece that adds lines -/
theorem tx_step {kw : List Str} {l g : List Nat} {st st' : Option Nat} (t : Tx kw l st) (hn : 92 ∉ g) (h : ∀ off, ∃ k more, (∀ f r acc, linL (f + k) off (g ++ r) [] acc = linL f (off + g.length) r [] (acc ++ more)) ∧ more.length ≤ g.length ∧ (∀ ts ∈ more, okL kw ts = true) ∧ readT st (more.filter fun l => !l.isEmpty) = .ok st') : Tx kw (l ++ g) st' := by
  obtain ⟨k, acc, h1, h2, h3, h4⟩ := t.ru
  obtain ⟨k2, more, g1, g2, g3, g4⟩ := h l.length
  refine ⟨fun m => (List.mem_append.mp m).elim t.ns hn, k2 + k, acc ++ more, fun f r => ?_, ?_, fun ts m => ?_, ?_⟩
  · rw [← Nat.add_assoc, List.append_assoc, h1, g1, List.length_append]
  · rw [List.length_append, List.length_append]; omega
  · exact (List.mem_append.mp m).elim (h3 ts) (g3 ts)
  · rw [fil_app, readT_app _ _ h4, g4]
theorem tx_pc {kw : List Str} {l g : List Nat} {st st' : Option Nat} (t : Tx kw l st) (p : Pc kw g st st') : Tx kw (l ++ g) st' := by
  refine tx_step t p.1 fun off => ?_
  obtain ⟨k, toks, e1, e2, e3, e4⟩ := p.2.2 off
  refine ⟨k, [toks], e1, p.2.1, fun ts m => by rw [List.mem_singleton.mp m]; exact e2, ?_⟩
  rw [List.filter_cons, e3]
  show (match lineT st toks with | .ok st' => readT st' _ | .err o m => .err o m) = _
  rw [e4]
  rfl
theorem ok_emp (kw : List Str) : okL kw [] = true := by rfl
theorem tx_gap {kw : List Str} {l : List Nat} {st : Option Nat} {g : Str} (t : Tx kw l st) (hg : g ∈ gaps36) : Tx kw (l ++ L g) st := by
  have e0 : readT st (([] : List (List CT)).filter fun l => !l.isEmpty) = .ok st := rfl
  have e1 : readT st (([[]] : List (List CT)).filter fun l => !l.isEmpty) = .ok st := rfl
  simp only [gaps36, List.mem_cons, List.not_mem_nil, or_false] at hg
  rcases hg with rfl | rfl | rfl | rfl | rfl
  · exact tx_step t (by decide) fun off => ⟨0, [], fun f r acc => by rw [List.append_nil]; rfl, by decide, fun _ h => (by cases h), e0⟩
  · exact tx_step t (by decide) fun off => ⟨1, [], fun f r acc => by rw [List.append_nil]; rfl, by decide, fun _ h => (by cases h), e0⟩
  · exact tx_step t (by decide) fun off => ⟨1, [[]], fun f r acc => by rfl, by decide, fun ts h => by rw [List.mem_singleton.mp h]; rfl, e1⟩
  · exact tx_step t (by decide) fun off => ⟨2, [], fun f r acc => by rw [List.append_nil]; rfl, by decide, fun _ h => (by cases h), e0⟩
  · exact tx_step t (by decide) fun off => ⟨2, [[]], fun f r acc => by rfl, by decide, fun ts h => by rw [List.mem_singleton.mp h]; rfl, e1⟩
/-- texts without a backslash -/
theorem esc_no {l : List Nat} (h : 92 ∉ l) : EscOK l := fun i d h1 _ => absurd (List.mem_of_getElem? h1) h
theorem esc_app {l r : List Nat} (h : 92 ∉ l) (hr : EscOK r) : EscOK (l ++ r) := fun i d h1 h2 => by
  rcases Nat.lt_or_ge i l.length with q | q
  · rw [List.getElem?_append_left q] at h1
    exact absurd (List.mem_of_getElem? h1) h
  · rw [List.getElem?_append_right q] at h1
    rw [List.getElem?_append_right (by omega)] at h2
    exact hr (i - l.length) d h1 (by rw [show i - l.length + 1 = i + 1 - l.length by omega]; exact h2)
theorem res_none {kw : List Str} {l : List Nat} {st : Option Nat} (t : Tx kw l st) (hl : l.length ≤ 900) : Res kw l none := by
  obtain ⟨k, acc, h1, h2, h3, h4⟩ := t.ru
  have e := h1 l.length []
  rw [List.append_nil, lin_at (Nat.le_add_right _ _), linL_end] at e
  refine ⟨by omega, esc_no t.ns, ?_⟩
  rw [e]
  refine ⟨by rw [List.length_append, List.length_singleton]; omega, fun ts m => ?_, ?_⟩
  · rcases List.mem_append.mp m with q | q
    · exact h3 ts q
    · rw [List.mem_singleton.mp q]; rfl
  · rw [fil_app, readT_app _ _ h4]
    rfl
/-- what stands behind a newline -/
def Tl (kw : List Str) (r : List Nat) : Prop := ∀ off, ∃ k more, (∀ f acc, linL (f + k) off r [] acc = .ok (acc ++ more)) ∧ more.length ≤ 3 ∧ ∀ ts ∈ more, okL kw ts = true
theorem tl0 : Tl kw36 [] := fun off => ⟨0, [[]], fun f acc => linL_end _ _ _ _, by decide, fun ts h => by rw [List.mem_singleton.mp h]; rfl⟩
theorem tl1 : Tl kw36 (L "pop\n") := fun off => ⟨2, [rowOf (L "pop") off, []], fun f acc => by
  have e : linL (f + 2) off (L "pop\n") [] acc = linL f (off + 4) [] [] (acc ++ [rowOf (L "pop") off]) := by rfl
  rw [e, linL_end, List.append_assoc]; rfl, by simp, fun ts h => by
  rcases List.mem_cons.mp h with q | q
  · rw [q]; rfl
  · rw [List.mem_singleton.mp q]; rfl⟩
theorem tl2 : Tl kw36 (L "pops\n7: pop\n") := fun off => ⟨7, [rowOf (L "pops") off, rowOf (L "7: pop") (off + 5), []], fun f acc => by
  have e : linL (f + 7) off (L "pops\n7: pop\n") [] acc = linL f (off + 12) [] [] (acc ++ [rowOf (L "pops") off] ++ [rowOf (L "7: pop") (off + 5)]) := by rfl
  rw [e, linL_end, List.append_assoc, List.append_assoc]; rfl, by simp, fun ts h => by
  rcases List.mem_cons.mp h with q | q
  · rw [q]; rfl
  · rcases List.mem_cons.mp q with q | q
    · rw [q]; rfl
    · rw [List.mem_singleton.mp q]; rfl⟩
theorem tail_of {z : Str} (h : z ∈ tails36) : 92 ∉ L z ∧ (L z).length ≤ 20 ∧ (L z = [] ∨ ∃ r, L z = 10 :: r ∧ Tl kw36 r) := by
  simp only [tails36, List.mem_cons, List.not_mem_nil, or_false] at h
  rcases h with rfl | rfl | rfl | rfl
  · exact ⟨by decide, by decide, .inl rfl⟩
  · exact ⟨by decide, by decide, .inr ⟨_, rfl, tl0⟩⟩
  · exact ⟨by decide, by decide, .inr ⟨L "pop\n", rfl, tl1⟩⟩
  · exact ⟨by decide, by decide, .inr ⟨L "pops\n7: pop\n", rfl, tl2⟩⟩
theorem readT_err {st : Option Nat} {ts : List CT} {ls : List (List CT)} {o : Nat} {m : Str} (h : lineT st ts = .err o m) : readT st (ts :: ls) = .err o m := by
  show (match lineT st ts with | .ok st' => readT st' _ | .err o m => .err o m) = _
  rw [h]
theorem res_bad {l g : List Nat} {st : Option Nat} {m z : Str} (t : Tx kw36 l st) (hl : l.length ≤ 500) (b : Bd kw36 g st m) (hg : g.length ≤ 400) (hz : z ∈ tails36) : Res kw36 (l ++ g ++ L z) (some (l.length, m)) := by
  obtain ⟨z1, z2, z3⟩ := tail_of hz
  obtain ⟨k, acc, h1, h2, h3, h4⟩ := t.ru
  obtain ⟨b0, b1⟩ := b
  obtain ⟨k2, toks, e1, e2, e3, e4, e5⟩ := b1 l.length
  refine ⟨by rw [List.length_append, List.length_append]; omega, esc_no (fun q => (List.mem_append.mp q).elim (fun q => (List.mem_append.mp q).elim t.ns b0) z1), ?_⟩
  have fin : ∀ more : List (List CT), more.length ≤ 3 → (∀ ts ∈ more, okL kw36 ts = true) → lin 0 (l ++ g ++ L z) [] [] = .ok (acc ++ [toks] ++ more) → match lin 0 (l ++ g ++ L z) [] [] with
      | .err a m' => some (l.length, m) = some (a, m')
      | .ok ls => ls.length ≤ 1000 ∧ (∀ ts ∈ ls, okL kw36 ts = true) ∧ match readT none (ls.filter fun l => !l.isEmpty) with
        | .ok _ => some (l.length, m) = none
        | .err a m' => some (l.length, m) = some (a, m') := fun more lm om e => by
    rw [e]
    refine ⟨by simp only [List.length_append, List.length_singleton]; omega, fun ts q => ?_, ?_⟩
    · simp only [List.mem_append, List.mem_singleton] at q
      rcases q with (q | q) | q
      · exact h3 ts q
      · rw [q]; exact e3
      · exact om ts q
    · rw [fil_app, fil_app, List.append_assoc, readT_app _ _ h4, List.filter_cons, e4]
      show (match readT st (toks :: _) with | .ok _ => some (l.length, m) = none | .err a m' => some (l.length, m) = some (a, m'))
      rw [readT_err e5]
  rcases z3 with z3 | ⟨r, z3, tr⟩
  · refine fin [] (by decide) (fun _ h => by cases h) ?_
    rw [z3, List.append_nil, List.append_nil]
    have e := h1 ((l ++ g).length + k2) g
    rw [lin_at (by omega), e2] at e
    exact e
  · obtain ⟨k3, more, r1, r2, r3⟩ := tr (l.length + g.length + 1)
    refine fin more r2 r3 ?_
    have e := h1 ((l ++ g ++ L z).length + k3 + k2) (g ++ L z)
    rw [← List.append_assoc, lin_at (by omega), z3, e1, r1, ← z3] at e
    exact e
theorem res_par {l g : List Nat} {st : Option Nat} {m : Str} (t : Tx kw36 l st) (hl : l.length ≤ 500) (b : Bd kw36 g st m) (hg : g.length ≤ 400) : Res kw36 (l ++ g ++ L "\n(") (some (l.length + g.length + 1, badC)) := by
  obtain ⟨k, acc, h1, h2, h3, h4⟩ := t.ru
  obtain ⟨b0, b1⟩ := b
  obtain ⟨k2, toks, e1, e2, e3, e4, e5⟩ := b1 l.length
  refine ⟨by rw [List.length_append, List.length_append]; have : (L "\n(").length = 2 := rfl; omega, esc_no (fun q => (List.mem_append.mp q).elim (fun q => (List.mem_append.mp q).elim t.ns b0) (fun q => absurd q (by decide))), ?_⟩
  have e := h1 ((l ++ g ++ L "\n(").length + 1 + k2) (g ++ L "\n(")
  have z3 : L "\n(" = 10 :: [40] := rfl
  rw [← List.append_assoc, lin_at (by omega)] at e
  have e9 : linL ((l ++ g ++ L "\n(").length + 1 + k2) l.length (g ++ L "\n(") [] acc = .err (l.length + g.length + 1) badC := by
    rw [z3, e1]
    rfl
  rw [e9] at e
  rw [e]
theorem res_cut {l g : List Nat} {st : Option Nat} {a : Nat} {m z : Str} (t : Tx kw36 l st) (hl : l.length ≤ 500) (b : Ct g a m) (hg : g.length ≤ 400) (hz : z ∈ tails36) (he : escB (g ++ L z) = true) : Res kw36 (l ++ g ++ L z) (some (l.length + a, m)) := by
  obtain ⟨z1, z2, z3⟩ := tail_of hz
  obtain ⟨k, acc, h1, h2, h3, h4⟩ := t.ru
  obtain ⟨k2, e2⟩ := b l.length (L z) (z3.imp id fun ⟨r, q, _⟩ => ⟨r, q⟩)
  refine ⟨by rw [List.length_append, List.length_append]; omega, by rw [List.append_assoc]; exact esc_app t.ns (esc_of he), ?_⟩
  have e := h1 ((l ++ g ++ L z).length + k2) (g ++ L z)
  rw [← List.append_assoc, lin_at (by omega), e2] at e
  rw [e]
theorem esc_q : ∀ q ∈ quotes36, ∀ z ∈ tails36, escB (L q.1 ++ L z) = true := by decide +kernel
theorem esc_c : ∀ q ∈ cuts36, ∀ z ∈ tails36, escB (L q.1 ++ L z) = true := by decide +kernel
theorem len_q : ∀ q ∈ quotes36, (L q.1).length ≤ 400 := by decide +kernel
theorem len_c : ∀ q ∈ cuts36, (L q.1).length ≤ 400 := by decide +kernel
theorem len_l : ∀ q ∈ lines36, (L q).length ≤ 400 := by decide +kernel
theorem len_r : ∀ q ∈ rights36, (L q).length ≤ 20 := by decide +kernel
theorem len_e : ∀ q ∈ ends36, (L q).length ≤ 5 := by decide +kernel
theorem len_g : ∀ q ∈ gaps36, (L q).length ≤ 2 := by decide +kernel
theorem rep_size9 {α : Type} (a : Array α) : ∀ (n : Nat) (b : Array α), ((List.replicate n a).foldl (· ++ ·) b).size = b.size + n * a.size
  | 0, b => by simp
  | n + 1, b => by
    rw [List.replicate_succ, List.foldl_cons, rep_size9 a n, Array.size_append, Nat.succ_mul]
    omega
theorem mul_one_len9 {x : Str} {n : Nat} (hx : x.length = 1) (h0 : 2 ≤ n) (h1 : n ≤ 999) : MulOk x (n : Nat) ∧ (Txt.mul x (n : Nat)).length = n := by
  have n1 : ¬ ((n : Int) < 1) := by omega
  have n2 : ((n : Int) == 1 || x.length == 0) = false := by
    rw [hx]
    have : ((n : Int) == 1) = false := by simpa using (by omega : ¬ ((n : Int) = 1))
    rw [this]; rfl
  refine ⟨⟨by simp; omega, fun _ _ => ?_, fun _ _ => ?_⟩, ?_⟩
  · rw [hx]
    have : (1 : Int) ≤ (2 ^ 63 - 1) / (n : Int) := Int.le_ediv_of_mul_le (by omega) (by omega)
    omega
  · rw [hx, Nat.one_mul, Int.toNat_natCast]
    unfold Builtin.Str.tooLong
    have e := sizeLine_eq
    simp
    omega
  · unfold Txt.mul
    rw [if_neg n1, n2, if_neg (by simp), Int.toNat_natCast]
    show ((List.replicate n x.cps).foldl (· ++ ·) #[]).size = n
    have e : x.cps.size = 1 := hx
    rw [rep_size9, e]
    simp
theorem nines {n : Int} (h : (301 : Int) = n) : MulOk (Str.ofString "9") n ∧ (Str.ofString "const ").length + (Txt.mul (Str.ofString "9") n).length = 307 ∧ (Str.ofString "const " ++ Txt.mul (Str.ofString "9") n) = Str.ofString ("const 9999999999999999999999999999999999999999999999999999999999999999999999999999999999999999999999999999999999999999999999999999999999999999999999999999999999999999999999999999999999999999999999999999999999999999999999999999999999999999999999999999999999999999999999999999999999999999999999999999999999999" : String) := by
  subst h
  have e9 : (Str.ofString "9").length = 1 := by decide
  have q : MulOk (Str.ofString "9") 301 ∧ (Txt.mul (Str.ofString "9") 301).length = 301 := mul_one_len9 (x := Str.ofString "9") (n := 301) e9 (by omega) (by omega)
  exact ⟨q.1, by rw [q.2]; rfl, by decide +kernel⟩
theorem mem_lines {v : V} (h : v ∈ [V.str "pops", V.str "const", V.str "const 1 2", V.str "load -1", V.str "load \"a\"", V.str "load 1000000000", V.str "add", V.str "pop pop", V.str "field x 3", V.str "call 1", V.str "5 pop", V.str "pop:", V.str "3: : pop", V.str "const nil", V.str "function 0", V.str "function 0 -1", V.str "0: function 1 0", V.str "escape 1 2", V.str "12", V.str ":", V.str "\"x\"", V.str "Const 1", V.str "const reads", V.str "function 0 0 0", V.str "load 00001000000000", V.str "const 9999999999999999999999999999999999999999999999999999999999999999999999999999999999999999999999999999999999999999999999999999999999999999999999999999999999999999999999999999999999999999999999999999999999999999999999999999999999999999999999999999999999999999999999999999999999999999999999999999999999999", V.str "set item 1"]) : ∃ z ∈ lines36, v = .str z := by
  obtain ⟨z, hz, e⟩ := List.mem_map.mp (show v ∈ lines36.map V.str from h)
  exact ⟨z, hz, e.symm⟩
def signs36 : List Str := ["+", "(", "-", "'", "=", "~", ".", "- 1", "*2", "/"]
def firsts36 : List Str := ["const 1 ", "", "pop ", "call 0"]
theorem cuts_of : ∀ f ∈ firsts36, ∀ s ∈ signs36, (f ++ s, f.length) ∈ cuts36 ∧ f.length ≤ 10 ∧ s.length ≤ 10 := by decide +kernel
theorem find_q : ∀ q ∈ quotes36, Txt.find q.1 (Str.ofString "\"") = ((q.2 : Nat) : Int) ∧ q.1.length ≤ 20 := by decide +kernel
theorem idx_ok (a : Int) (h0 : -1 ≤ a) (h1 : a ≤ 12) : a.natAbs.log2 < 1920 ∧ (Str.ofString (toString a)).length + (Str.ofString ": pop").length ≤ 9 ∧ (L (Str.ofString (toString a) ++ Str.ofString ": pop")).length ≤ 9 ∧ ∀ n : Nat, ¬ a = (n : Int) → Bd kw36 (L (Str.ofString (toString a) ++ Str.ofString ": pop")) (some n) noIdx := by
  obtain rfl | rfl | rfl | rfl | rfl | rfl | rfl | rfl | rfl | rfl | rfl | rfl | rfl | rfl : a = -1 ∨ a = 0 ∨ a = 1 ∨ a = 2 ∨ a = 3 ∨ a = 4 ∨ a = 5 ∨ a = 6 ∨ a = 7 ∨ a = 8 ∨ a = 9 ∨ a = 10 ∨ a = 11 ∨ a = 12 := by omega
  · exact ⟨by decide, by decide +kernel, by decide +kernel, fun n h => (by decide +kernel : Str.ofString (toString (-1 : Int)) ++ Str.ofString ": pop" = Str.ofString "-1: pop") ▸ idx_m1 n h⟩
  · exact ⟨by decide, by decide +kernel, by decide +kernel, fun n h => (by decide +kernel : Str.ofString (toString (0 : Int)) ++ Str.ofString ": pop" = Str.ofString "0: pop") ▸ idx_0 n h⟩
  · exact ⟨by decide, by decide +kernel, by decide +kernel, fun n h => (by decide +kernel : Str.ofString (toString (1 : Int)) ++ Str.ofString ": pop" = Str.ofString "1: pop") ▸ idx_1 n h⟩
  · exact ⟨by decide, by decide +kernel, by decide +kernel, fun n h => (by decide +kernel : Str.ofString (toString (2 : Int)) ++ Str.ofString ": pop" = Str.ofString "2: pop") ▸ idx_2 n h⟩
  · exact ⟨by decide, by decide +kernel, by decide +kernel, fun n h => (by decide +kernel : Str.ofString (toString (3 : Int)) ++ Str.ofString ": pop" = Str.ofString "3: pop") ▸ idx_3 n h⟩
  · exact ⟨by decide, by decide +kernel, by decide +kernel, fun n h => (by decide +kernel : Str.ofString (toString (4 : Int)) ++ Str.ofString ": pop" = Str.ofString "4: pop") ▸ idx_4 n h⟩
  · exact ⟨by decide, by decide +kernel, by decide +kernel, fun n h => (by decide +kernel : Str.ofString (toString (5 : Int)) ++ Str.ofString ": pop" = Str.ofString "5: pop") ▸ idx_5 n h⟩
  · exact ⟨by decide, by decide +kernel, by decide +kernel, fun n h => (by decide +kernel : Str.ofString (toString (6 : Int)) ++ Str.ofString ": pop" = Str.ofString "6: pop") ▸ idx_6 n h⟩
  · exact ⟨by decide, by decide +kernel, by decide +kernel, fun n h => (by decide +kernel : Str.ofString (toString (7 : Int)) ++ Str.ofString ": pop" = Str.ofString "7: pop") ▸ idx_7 n h⟩
  · exact ⟨by decide, by decide +kernel, by decide +kernel, fun n h => (by decide +kernel : Str.ofString (toString (8 : Int)) ++ Str.ofString ": pop" = Str.ofString "8: pop") ▸ idx_8 n h⟩
  · exact ⟨by decide, by decide +kernel, by decide +kernel, fun n h => (by decide +kernel : Str.ofString (toString (9 : Int)) ++ Str.ofString ": pop" = Str.ofString "9: pop") ▸ idx_9 n h⟩
  · exact ⟨by decide, by decide +kernel, by decide +kernel, fun n h => (by decide +kernel : Str.ofString (toString (10 : Int)) ++ Str.ofString ": pop" = Str.ofString "10: pop") ▸ idx_10 n h⟩
  · exact ⟨by decide, by decide +kernel, by decide +kernel, fun n h => (by decide +kernel : Str.ofString (toString (11 : Int)) ++ Str.ofString ": pop" = Str.ofString "11: pop") ▸ idx_11 n h⟩
  · exact ⟨by decide, by decide +kernel, by decide +kernel, fun n h => (by decide +kernel : Str.ofString (toString (12 : Int)) ++ Str.ofString ": pop" = Str.ofString "12: pop") ▸ idx_12 n h⟩
end Cd

set_option Elab.async false
set_option linter.all false
set_option maxRecDepth 100000
set_option maxHeartbeats 1000000
namespace My
open PySem L2 Fx
local macro_rules | `(tactic| walk_at "fx") => `(tactic| try simp only [L2.start, List.map_cons, List.map_nil, List.length_cons, List.length_nil, Nat.reduceAdd, Nat.reduceSub, List.reduceReplicate, List.cons_append, List.nil_append, List.append_nil,
  tSeq, fVar, tVar, tC, tOp, tUn, tCons, tNil, fTup, fLst, tAsg, gName, tRet, tRetN, tDrop, tNext, tIf, tAnd, tOr, tNot, tTest, tB, tAug, tChain, tNotV, tAndV, tOrV, tSl, tPart, tNoPart, tCB, tCall, fBM, fBM0, tBreak, tCont, gTup, gCons, gNil,
  fAdd, fSub, fMul, fDiv, fMod, fNeg, fLt, fLe, fGt, fGe, fIx, fSl, fLen, fInt, fStr, fAbs, fMax, fMin, fOrd, fIsN, fNotN, fIsi, fListOf, isLst, isStr, isDct, fAppend, fS1, fJoin, fLstripC, fIAdd, fISub, fSet, tyOf, fEq, scal, fIn, iRng1, iRng2, iList, iTup, iStr, gSub, fGt_,
  List.getElem?_cons_zero, List.getElem?_cons_succ, List.set_cons_zero, List.set_cons_succ, upd_same, S_cps, S_len, L_S, one_list, flatV,
  V.int.injEq, V.str.injEq, V.bl.injEq, V.ref.injEq, Option.some.injEq, List.cons.injEq, exists_eq_left', exists_eq_left, exists_and_left, ex2, and_true, true_and, decide_eq_true_eq, Bool.not_eq_true', decide_eq_false_iff_not, Bool.false_eq_true, Bool.true_eq_false, Int.zero_add, Int.toNat_natCast, if_true, if_false, ite_true, ite_false, reduceIte, Int.reduceLT, Int.reduceLE, Int.reduceNeg, Int.reduceAdd, Nat.reduceLT, Nat.reduceLeDiff, Bool.not_true, Bool.not_false, kitBv, kitBs, not_true_eq_false, not_false_eq_true, Bool.or_false, Bool.false_or, Bool.or_true, Bool.true_or])
local macro_rules | `(tactic| walk_at "fx0") => `(tactic| try dsimp only [cxOf, Cx.nox, Cx.wish])
local macro_rules | `(tactic| walk_at "mul") => `(tactic| first | exact mul_left (by decide) (by decide) | exact mul_right (by decide) (by decide) | exact mul_left (by omega) (by omega) | exact mul_right (by omega) (by omega))
local macro_rules | `(tactic| walk_at "rm") => `(tactic| first | decide | exact Nat.le_refl _ | omega)
set_option hygiene false in
local macro_rules | `(tactic| walk_at "ox") => `(tactic| try simp only [WE_wOf, two, fTru, fLenD, fDisp, fPairs, iKeysK, fGetK, fInK, sPutK, sDelK, keyV, fListD, fDictD, tChain3, iZipM, fGdT_, fInDT, fIxDT, fRevL, sDelL, iEnum_, fTupOf, fSum, fGetD, fMkV, fXo, fIsX, fPop, fPopAt, fClear, fReplC, fPow, fReverse, fExtend, fInsert, fGetN, fInN, sPutN, sDelN, fNewN, fLenN, iKeysN, fProp, fRaise, fXf, fIsE, fMethS, tCallS, fFmt, fJs, fJoined, fDivZ, fGd_, fInD, fIxD, WE, wOf, fDead, sDead, upd2, wipe, tYes, fIsB, beq_self_eq_true, List.not_mem_nil, or_false, false_or, fDnew, T.ne, fFld, fSetF, fMeth, isOb, fIsiO, fIsiP, fIsiA, tyV2, okT, kit2, kits2, allIn, putF, List.lookup_cons, List.lookup_nil, keyEq, List.mem_cons, true_or, or_true, L2.start, List.map_cons, List.map_nil, List.length_cons, List.length_nil, Nat.reduceAdd, Nat.reduceSub, List.reduceReplicate, List.cons_append, List.nil_append, List.append_nil,
  tSeq, fVar, tVar, tC, tOp, tUn, tCons, tNil, fTup, fLst, tAsg, gName, tRet, tRetN, tDrop, tNext, tIf, tAnd, tOr, tNot, tTest, tB, tAug, tChain, tNotV, tAndV, tOrV, tSl, tPart, tNoPart, tCB, tCall, fBM, fBM0, tBreak, tCont, gTup, gCons, gNil,
  fAdd, fSub, fMul, fDiv, fMod, fNeg, fLt, fLe, fGt, fGe, fIx, fSl, fLen, fInt, fStr, fAbs, fMax, fMin, fOrd, fIsN, fNotN, fIsi, fListOf, isLst, isStr, isDct, fAppend, fS1, fJoin, fLstripC, fIAdd, fISub, fSet, tyOf, fEq, scal, fIn, iRng1, iRng2, iList, iTup, iStr, gSub, fGt_,
  List.getElem?_cons_zero, List.getElem?_cons_succ, List.set_cons_zero, List.set_cons_succ, upd_same, S_cps, S_len, L_S, one_list, flatV,
  V.int.injEq, V.str.injEq, V.bl.injEq, V.ref.injEq, Option.some.injEq, List.cons.injEq, exists_eq_left', exists_eq_left, exists_and_left, ex2, and_true, true_and, decide_eq_true_eq, Bool.not_eq_true', decide_eq_false_iff_not, Bool.false_eq_true, Bool.true_eq_false, Int.zero_add, Int.toNat_natCast, if_true, if_false, ite_true, ite_false, reduceIte, Int.reduceLT, Int.reduceLE, Int.reduceNeg, Int.reduceAdd, Nat.reduceLT, Nat.reduceLeDiff, Bool.not_true, Bool.not_false, kitBv, kitBs, not_true_eq_false, not_false_eq_true, Bool.or_false, Bool.false_or, Bool.or_true, Bool.true_or])
set_option hygiene false in
local macro_rules | `(tactic| walk_at "oxs") => `(tactic| simp only [tIfS, WE_wOf, two, fTru, fLenD, fDisp, fPairs, iKeysK, fGetK, fInK, sPutK, sDelK, keyV, fListD, fDictD, tChain3, iZipM, fGdT_, fInDT, fIxDT, fRevL, sDelL, iEnum_, fTupOf, fSum, fGetD, fMkV, fXo, fIsX, fPop, fPopAt, fClear, fReplC, fPow, fReverse, fExtend, fInsert, fGetN, fInN, sPutN, sDelN, fNewN, fLenN, iKeysN, fProp, fRaise, fXf, fIsE, fMethS, tCallS, fFmt, fJs, fJoined, fDivZ, fGd_, fInD, fIxD, WE, wOf, fDead, sDead,  reduceCtorEq, upd2, wipe, tYes, fIsB, beq_self_eq_true, List.not_mem_nil, or_false, false_or, fDnew, T.ne, fFld, fSetF, fMeth, isOb, fIsiO, fIsiP, fIsiA, tyV2, okT, kit2, kits2, allIn, putF, List.lookup_cons, List.lookup_nil, keyEq, List.mem_cons, true_or, or_true, L2.start, List.map_cons, List.map_nil, List.length_cons, List.length_nil, Nat.reduceAdd, Nat.reduceSub, List.reduceReplicate, List.cons_append, List.nil_append, List.append_nil,
  tSeq, fVar, tVar, tC, tOp, tUn, tCons, tNil, fTup, fLst, tAsg, gName, tRet, tRetN, tDrop, tNext, tIf, tAnd, tOr, tNot, tTest, tB, tAug, tChain, tNotV, tAndV, tOrV, tSl, tPart, tNoPart, tCB, tCall, fBM, fBM0, tBreak, tCont, gTup, gCons, gNil,
  fAdd, fSub, fMul, fDiv, fMod, fNeg, fLt, fLe, fGt, fGe, fIx, fSl, fLen, fInt, fStr, fAbs, fMax, fMin, fOrd, fIsN, fNotN, fIsi, fListOf, isLst, isStr, isDct, fAppend, fS1, fJoin, fLstripC, fIAdd, fISub, fSet, tyOf, fEq, scal, fIn, iRng1, iRng2, iList, iTup, iStr, gSub, fGt_,
  List.getElem?_cons_zero, List.getElem?_cons_succ, List.set_cons_zero, List.set_cons_succ, upd_same, S_cps, S_len, L_S, one_list, flatV,
  V.int.injEq, V.str.injEq, V.bl.injEq, V.ref.injEq, Option.some.injEq, List.cons.injEq, exists_eq_left', exists_eq_left, exists_and_left, ex2, and_true, true_and, decide_eq_true_eq, Bool.not_eq_true', decide_eq_false_iff_not, Bool.false_eq_true, Bool.true_eq_false, Int.zero_add, Int.toNat_natCast, if_true, if_false, ite_true, ite_false, reduceIte, Int.reduceLT, Int.reduceLE, Int.reduceNeg, Int.reduceAdd, Nat.reduceLT, Nat.reduceLeDiff, Bool.not_true, Bool.not_false, kitBv, kitBs, not_true_eq_false, not_false_eq_true, Bool.or_false, Bool.false_or, Bool.or_true, Bool.true_or])

def topS (i : Nat) : Stmt := PySem.Challenge.pw_livequill_k36_code_that_is_refused.main.body.getD i (.Pass ⟨0, 0, 0, 0⟩)
abbrev s_same_value : Stmt := topS 1
theorem sc_same_value : FnScope ["x", "y"] ["x", "y"] (defScope s_same_value) := ⟨rfl, rfl, rfl, by decide +kernel, rfl, by decide +kernel, by decide +kernel⟩
abbrev s_same_row : Stmt := topS 2
theorem sc_same_row : FnScope ["row", "other", "x", "y"] ["row", "other"] (defScope s_same_row) := ⟨rfl, rfl, rfl, by decide +kernel, rfl, by decide +kernel, by decide +kernel⟩
abbrev s_Chunk___init__ : Stmt := inClass (topS 3) 0
theorem sc_Chunk___init__ : FnScope ["self", "number", "wanted", "rows", "scopes"] ["self", "number", "wanted", "rows", "scopes"] (defScope s_Chunk___init__) := ⟨rfl, rfl, rfl, by decide +kernel, rfl, by decide +kernel, by decide +kernel⟩
abbrev s_Chunk___eq__ : Stmt := inClass (topS 3) 1
theorem sc_Chunk___eq__ : FnScope ["self", "other", "row", "there"] ["self", "other"] (defScope s_Chunk___eq__) := ⟨rfl, rfl, rfl, by decide +kernel, rfl, by decide +kernel, by decide +kernel⟩
abbrev s_InvalidCode___init__ : Stmt := inClass (topS 7) 0
theorem sc_InvalidCode___init__ : FnScope ["self", "offset", "message"] ["self", "offset", "message"] (defScope s_InvalidCode___init__) := ⟨rfl, rfl, rfl, by decide +kernel, rfl, by decide +kernel, by decide +kernel⟩
abbrev s_InvalidText___init__ : Stmt := inClass (topS 8) 0
theorem sc_InvalidText___init__ : FnScope ["self", "offset", "message"] ["self", "offset", "message"] (defScope s_InvalidText___init__) := ⟨rfl, rfl, rfl, by decide +kernel, rfl, by decide +kernel, by decide +kernel⟩
abbrev s_Ref___init__ : Stmt := inClass (topS 11) 0
theorem sc_Ref___init__ : FnScope ["self", "number"] ["self", "number"] (defScope s_Ref___init__) := ⟨rfl, rfl, rfl, by decide +kernel, rfl, by decide +kernel, by decide +kernel⟩
abbrev s_Ref___eq__ : Stmt := inClass (topS 11) 1
theorem sc_Ref___eq__ : FnScope ["self", "other"] ["self", "other"] (defScope s_Ref___eq__) := ⟨rfl, rfl, rfl, by decide +kernel, rfl, by decide +kernel, by decide +kernel⟩
abbrev s_Builtin___init__ : Stmt := inClass (topS 12) 0
theorem sc_Builtin___init__ : FnScope ["self", "name"] ["self", "name"] (defScope s_Builtin___init__) := ⟨rfl, rfl, rfl, by decide +kernel, rfl, by decide +kernel, by decide +kernel⟩
abbrev s_Builtin___eq__ : Stmt := inClass (topS 12) 1
theorem sc_Builtin___eq__ : FnScope ["self", "other"] ["self", "other"] (defScope s_Builtin___eq__) := ⟨rfl, rfl, rfl, by decide +kernel, rfl, by decide +kernel, by decide +kernel⟩
abbrev s_run_of : Stmt := topS 20
theorem sc_run_of : FnScope ["text", "at", "allowed"] ["text", "at", "allowed"] (defScope s_run_of) := ⟨rfl, rfl, rfl, by decide +kernel, rfl, by decide +kernel, by decide +kernel⟩
abbrev s_read_quoted : Stmt := topS 21
theorem sc_read_quoted : FnScope ["text", "first", "pieces", "at"] ["text", "first"] (defScope s_read_quoted) := ⟨rfl, rfl, rfl, by decide +kernel, rfl, by decide +kernel, by decide +kernel⟩
abbrev s_number_of : Stmt := topS 22
theorem sc_number_of : FnScope ["digits"] ["digits"] (defScope s_number_of) := ⟨rfl, rfl, rfl, by decide +kernel, rfl, by decide +kernel, by decide +kernel⟩
abbrev s_token_at : Stmt := topS 23
theorem sc_token_at : FnScope ["text", "at", "char", "end", "piece", "minus", "number"] ["text", "at"] (defScope s_token_at) := ⟨rfl, rfl, rfl, by decide +kernel, rfl, by decide +kernel, by decide +kernel⟩
abbrev s_lines_of : Stmt := topS 24
theorem sc_lines_of : FnScope ["text", "lines", "row", "at", "char", "token", "line"] ["text"] (defScope s_lines_of) := ⟨rfl, rfl, rfl, by decide +kernel, rfl, by decide +kernel, by decide +kernel⟩
abbrev s_is_plain : Stmt := topS 25
theorem sc_is_plain : FnScope ["token"] ["token"] (defScope s_is_plain) := ⟨rfl, rfl, rfl, by decide +kernel, rfl, by decide +kernel, by decide +kernel⟩
abbrev s_constant : Stmt := topS 26
theorem sc_constant : FnScope ["token", "words"] ["token"] (defScope s_constant) := ⟨rfl, rfl, rfl, by decide +kernel, rfl, by decide +kernel, by decide +kernel⟩
abbrev s_operand_of : Stmt := topS 27
theorem sc_operand_of : FnScope ["token", "kind"] ["token", "kind"] (defScope s_operand_of) := ⟨rfl, rfl, rfl, by decide +kernel, rfl, by decide +kernel, by decide +kernel⟩
abbrev s_row_of : Stmt := topS 28
theorem sc_row_of : FnScope ["tokens", "kinds", "row", "token", "kind", "found"] ["tokens"] (defScope s_row_of) := ⟨rfl, rfl, rfl, by decide +kernel, rfl, by decide +kernel, by decide +kernel⟩
abbrev s_head_of : Stmt := topS 29
theorem sc_head_of : FnScope ["tokens"] ["tokens"] (defScope s_head_of) := ⟨rfl, rfl, rfl, by decide +kernel, rfl, by decide +kernel, by decide +kernel⟩
abbrev s_read_line : Stmt := topS 30
theorem sc_read_line : FnScope ["chunks", "tokens", "offset", "chunk", "index", "row"] ["chunks", "tokens"] (defScope s_read_line) := ⟨rfl, rfl, rfl, by decide +kernel, rfl, by decide +kernel, by decide +kernel⟩
abbrev s_read_code : Stmt := topS 31
theorem sc_read_code : FnScope ["text", "chunks", "tokens"] ["text"] (defScope s_read_code) := ⟨rfl, rfl, rfl, by decide +kernel, rfl, by decide +kernel, by decide +kernel⟩
abbrev s_law_cell : Stmt := topS 33
theorem sc_law_cell : FnScope ["script", "k"] ["script", "k"] (defScope s_law_cell) := ⟨rfl, rfl, rfl, by decide +kernel, rfl, by decide +kernel, by decide +kernel⟩
abbrev s_law_is_integer : Stmt := topS 34
theorem sc_law_is_integer : FnScope ["told"] ["told"] (defScope s_law_is_integer) := ⟨rfl, rfl, rfl, by decide +kernel, rfl, by decide +kernel, by decide +kernel⟩
abbrev s_law_begin : Stmt := topS 35
theorem sc_law_begin : FnScope ["script", "k"] ["script", "k"] (defScope s_law_begin) := ⟨rfl, rfl, rfl, by decide +kernel, rfl, by decide +kernel, by decide +kernel⟩
abbrev s_law_draw : Stmt := topS 36
theorem sc_law_draw : FnScope ["state", "many", "k", "cell", "prime", "mixed", "digit"] ["state", "many"] (defScope s_law_draw) := ⟨rfl, rfl, rfl, by decide +kernel, rfl, by decide +kernel, by decide +kernel⟩
abbrev s_law_pick : Stmt := topS 37
theorem sc_law_pick : FnScope ["state", "row"] ["state", "row"] (defScope s_law_pick) := ⟨rfl, rfl, rfl, by decide +kernel, rfl, by decide +kernel, by decide +kernel⟩
abbrev s_law_right : Stmt := topS 38
theorem sc_law_right : FnScope ["state"] ["state"] (defScope s_law_right) := ⟨rfl, rfl, rfl, by decide +kernel, rfl, by decide +kernel, by decide +kernel⟩
abbrev s_law_cut : Stmt := topS 39
theorem sc_law_cut : FnScope ["state", "text", "sign", "first"] ["state"] (defScope s_law_cut) := ⟨rfl, rfl, rfl, by decide +kernel, rfl, by decide +kernel, by decide +kernel⟩
abbrev s_law_line : Stmt := topS 40
theorem sc_law_line : FnScope ["state"] ["state"] (defScope s_law_line) := ⟨rfl, rfl, rfl, by decide +kernel, rfl, by decide +kernel, by decide +kernel⟩
abbrev s_law_index : Stmt := topS 41
theorem sc_law_index : FnScope ["state", "many", "at"] ["state", "many"] (defScope s_law_index) := ⟨rfl, rfl, rfl, by decide +kernel, rfl, by decide +kernel, by decide +kernel⟩
abbrev s_law_told : Stmt := topS 42
theorem sc_law_told : FnScope ["text", "e"] ["text"] (defScope s_law_told) := ⟨rfl, rfl, rfl, by decide +kernel, rfl, by decide +kernel, by decide +kernel⟩
abbrev s_law : Stmt := topS 43
theorem sc_law : FnScope ["script", "k", "state", "text", "many", "begun", "j", "gap", "place", "kind", "behind", "line", "at", "message", "told"] ["script"] (defScope s_law) := ⟨rfl, rfl, rfl, by decide +kernel, rfl, by decide +kernel, by decide +kernel⟩
def big_GREATEST : Int := 1000000000000000000000000000000000000000000000000000000000000000000000000000000000000000000000000000000000000000000000000000000000000000000000000000000000000000000000000000000000000000000000000000000000000000000000000000000000000000000000000000000000000000000000000000000000000000000000000000000000000
structure Cs where
  Chunk : Addr
  Ref : Addr
  Builtin : Addr
  LivequillError : Addr
  InvalidCode : Addr
  InvalidText : Addr
theorem keyEq : (("__eq__" : Str) == "name") = false ∧ ¬ (("__eq__" : Str) = "name") ∧ (("__eq__" : Str) == "number") = false ∧ ¬ (("__eq__" : Str) = "number") ∧ (("__eq__" : Str) == "rows") = false ∧ ¬ (("__eq__" : Str) = "rows") ∧ (("__eq__" : Str) == "scopes") = false ∧ ¬ (("__eq__" : Str) = "scopes") ∧ (("__eq__" : Str) == "wanted") = false ∧ ¬ (("__eq__" : Str) = "wanted") ∧ (("__init__" : Str) == "name") = false ∧ ¬ (("__init__" : Str) = "name") ∧ (("__init__" : Str) == "number") = false ∧ ¬ (("__init__" : Str) = "number") ∧ (("__init__" : Str) == "rows") = false ∧ ¬ (("__init__" : Str) = "rows") ∧ (("__init__" : Str) == "scopes") = false ∧ ¬ (("__init__" : Str) = "scopes") ∧ (("__init__" : Str) == "wanted") = false ∧ ¬ (("__init__" : Str) = "wanted") ∧ (("message" : Str) == "offset") = false ∧ ¬ (("message" : Str) = "offset") ∧ (("number" : Str) == "rows") = false ∧ ¬ (("number" : Str) = "rows") ∧ (("number" : Str) == "scopes") = false ∧ ¬ (("number" : Str) = "scopes") ∧ (("number" : Str) == "wanted") = false ∧ ¬ (("number" : Str) = "wanted") ∧ (("offset" : Str) == "message") = false ∧ ¬ (("offset" : Str) = "message") ∧ (("rows" : Str) == "number") = false ∧ ¬ (("rows" : Str) = "number") ∧ (("rows" : Str) == "scopes") = false ∧ ¬ (("rows" : Str) = "scopes") ∧ (("rows" : Str) == "wanted") = false ∧ ¬ (("rows" : Str) = "wanted") ∧ (("scopes" : Str) == "number") = false ∧ ¬ (("scopes" : Str) = "number") ∧ (("scopes" : Str) == "rows") = false ∧ ¬ (("scopes" : Str) = "rows") ∧ (("scopes" : Str) == "wanted") = false ∧ ¬ (("scopes" : Str) = "wanted") ∧ (("wanted" : Str) == "number") = false ∧ ¬ (("wanted" : Str) = "number") ∧ (("wanted" : Str) == "rows") = false ∧ ¬ (("wanted" : Str) = "rows") ∧ (("wanted" : Str) == "scopes") = false ∧ ¬ (("wanted" : Str) = "scopes") := by (repeat' apply And.intro) <;> decide +kernel
--!raised InvalidCode
--!raises read_quoted token_at lines_of read_line read_code
--!gdt OPERANDS: const pop add call field ret escape load pops function Const set
--!gd ESCAPES: n @34 @92 t x @10
--!none range len int isinstance bool list tuple str abs min max dict zip enumerate
section
open PySem PySem.Spec PyProof.Rows L2 Fx
set_option maxHeartbeats 0
abbrev Rw : PySem.W.OpenRow := PySem.W.OpenLaw.row PySem.Challenge.rw_livequill_k36_code_that_is_refused
def nm0 : List Str := [("same_value" : Str), ("same_row" : Str), ("Chunk" : Str), ("OPERANDS" : Str), ("LivequillError" : Str), ("InvalidCode" : Str), ("InvalidText" : Str), ("BUILTINS" : Str), ("Ref" : Str), ("Builtin" : Str), ("GREATEST" : Str), ("LETTERS" : Str), ("DIGITS" : Str), ("ESCAPES" : Str), ("GREATEST_NUMBER" : Str), ("MOST_FIGURES" : Str), ("run_of" : Str), ("read_quoted" : Str), ("number_of" : Str), ("token_at" : Str)]
def nm1 : List Str := [("lines_of" : Str), ("is_plain" : Str), ("constant" : Str), ("operand_of" : Str), ("row_of" : Str), ("head_of" : Str), ("read_line" : Str), ("read_code" : Str), ("_law_cell" : Str), ("_law_is_integer" : Str), ("_law_begin" : Str), ("_law_draw" : Str), ("_law_pick" : Str), ("_law_right" : Str), ("_law_cut" : Str), ("_law_line" : Str), ("_law_index" : Str), ("_law_told" : Str)]
abbrev nms : List Str := nm0 ++ nm1
def fa0 : List Hd.Fh := [.glo "Chunk", .glo "Ref", .glo "Builtin", .glo "LivequillError", .glo "InvalidCode", .glo "InvalidText", .cls "Chunk", .cls "Ref", .cls "Builtin", .exc "LivequillError", .exc "InvalidCode", .exc "InvalidText", .noat "InvalidCode" "offset", .noat "InvalidCode" "message", .noat "InvalidText" "offset", .noat "InvalidText" "message", .sub "InvalidCode" "InvalidCode" true, .kit "InvalidCode" "LivequillError" true, .kit "InvalidCode" "InvalidText" false, .obj]
def fa1 : List Hd.Fh := [.noat "Builtin" "name", .noat "Chunk" "number", .noat "Ref" "number", .noat "Chunk" "rows", .noat "Chunk" "scopes", .noat "Chunk" "wanted", .kio "Chunk" "Ref", .kio "Chunk" "Builtin", .kio "Chunk" "Chunk", .kio "Ref" "Ref", .kio "Ref" "Builtin", .kio "Ref" "Chunk", .kio "Builtin" "Ref", .kio "Builtin" "Builtin", .kio "Builtin" "Chunk", .kib "NoneType" "Ref", .kib "NoneType" "Builtin", .kib "NoneType" "Chunk", .kib "bool" "Ref", .kib "bool" "Builtin"]
def fa2 : List Hd.Fh := [.kib "bool" "Chunk", .kib "int" "Ref", .kib "int" "Builtin", .kib "int" "Chunk", .kib "str" "Ref", .kib "str" "Builtin", .kib "str" "Chunk", .kib "list" "Ref", .kib "list" "Builtin", .kib "list" "Chunk", .kib "tuple" "Ref", .kib "tuple" "Builtin", .kib "tuple" "Chunk", .kib "dict" "Ref", .kib "dict" "Builtin", .kib "dict" "Chunk", .kob "Chunk" "bool", .kob "Chunk" "int", .kob "Chunk" "str", .kob "Chunk" "list"]
def fa3 : List Hd.Fh := [.kob "Chunk" "tuple", .kob "Chunk" "dict", .kob "Ref" "bool", .kob "Ref" "int", .kob "Ref" "str", .kob "Ref" "list", .kob "Ref" "tuple", .kob "Ref" "dict", .kob "Builtin" "bool", .kob "Builtin" "int", .kob "Builtin" "str", .kob "Builtin" "list", .kob "Builtin" "tuple", .kob "Builtin" "dict", .ne "Chunk" "Ref", .ne "Chunk" "Builtin", .ne "Ref" "Builtin", .glo "ESCAPES", .dict "ESCAPES" [("n", some (.str "\n")), ("\"", some (.str "\"")), ("\\", some (.str "\\")), ("t", none), ("x", none), ("\n", none)], .glo "OPERANDS"]
def fa4 : List Hd.Fh := [.dicT "OPERANDS" [("const", some [.str "value"]), ("pop", some []), ("add", some [.str "number"]), ("call", some [.str "number", .str "number"]), ("field", some [.str "text", .str "number"]), ("ret", some []), ("escape", some [.str "number", .str "number", .str "number"]), ("load", some [.str "number"]), ("pops", none), ("function", none), ("Const", none), ("set", none)], .init "InvalidCode", .meth "Ref" "__init__", .meth "Builtin" "__init__", .meth "Chunk" "__init__", .glo "run_of", .keep "run_of", .glo "read_quoted", .keep "read_quoted", .glo "number_of", .keep "number_of", .glo "token_at", .keep "token_at", .glo "lines_of", .keep "lines_of", .glo "is_plain", .keep "is_plain", .glo "constant", .keep "constant", .glo "operand_of"]
def fa5 : List Hd.Fh := [.keep "operand_of", .glo "row_of", .keep "row_of", .glo "head_of", .keep "head_of", .glo "read_line", .keep "read_line", .glo "read_code", .keep "read_code", .glo "_law_cell", .keep "_law_cell", .glo "_law_begin", .keep "_law_begin", .glo "_law_draw", .keep "_law_draw", .glo "_law_pick", .keep "_law_pick", .glo "_law_right", .keep "_law_right", .glo "_law_cut"]
def fa6 : List Hd.Fh := [.keep "_law_cut", .glo "_law_line", .keep "_law_line", .glo "_law_index", .keep "_law_index", .glo "_law_told", .keep "_law_told", .glo "_law_is_integer", .keep "_law_is_integer", .glo "law", .keep "law", .free "abs", .free "bool", .free "dict", .free "enumerate", .free "int", .free "isinstance", .free "len", .free "list", .free "max"]
def fa7 : List Hd.Fh := [.free "min", .free "range", .free "str", .free "tuple", .free "zip", .glo "BUILTINS", .tup "BUILTINS" [.str "print", .str "read", .str "str", .str "int", .str "len", .str "range", .str "kind", .str "abs", .str "min", .str "max", .str "pow", .str "gcd", .str "sqrt", .str "base", .str "parse", .str "char", .str "assert", .str "copy", .str "equals"], .str "DIGITS" "0123456789", .int "GREATEST" big_GREATEST, .int "GREATEST_NUMBER" 999999999, .str "LETTERS" "ABCDEFGHIJKLMNOPQRSTUVWXYZabcdefghijklmnopqrstuvwxyz_", .int "MOST_FIGURES" 300]
abbrev fas : List Hd.Fh := fa0 ++ (fa1 ++ (fa2 ++ (fa3 ++ (fa4 ++ (fa5 ++ (fa6 ++ (fa7)))))))
def fns : List Hd.Df := [⟨.meth "InvalidCode" "__init__", "__init__", "InvalidCode.__init__", s_InvalidCode___init__, false⟩,
  ⟨.meth "Ref" "__init__", "__init__", "Ref.__init__", s_Ref___init__, false⟩,
  ⟨.meth "Builtin" "__init__", "__init__", "Builtin.__init__", s_Builtin___init__, false⟩,
  ⟨.meth "Chunk" "__init__", "__init__", "Chunk.__init__", s_Chunk___init__, true⟩,
  ⟨.glo "run_of", "run_of", "run_of", s_run_of, false⟩,
  ⟨.glo "read_quoted", "read_quoted", "read_quoted", s_read_quoted, false⟩,
  ⟨.glo "number_of", "number_of", "number_of", s_number_of, false⟩,
  ⟨.glo "token_at", "token_at", "token_at", s_token_at, false⟩,
  ⟨.glo "lines_of", "lines_of", "lines_of", s_lines_of, false⟩,
  ⟨.glo "is_plain", "is_plain", "is_plain", s_is_plain, false⟩,
  ⟨.glo "constant", "constant", "constant", s_constant, false⟩,
  ⟨.glo "operand_of", "operand_of", "operand_of", s_operand_of, false⟩,
  ⟨.glo "row_of", "row_of", "row_of", s_row_of, false⟩,
  ⟨.glo "head_of", "head_of", "head_of", s_head_of, false⟩,
  ⟨.glo "read_line", "read_line", "read_line", s_read_line, false⟩,
  ⟨.glo "read_code", "read_code", "read_code", s_read_code, false⟩,
  ⟨.glo "_law_cell", "_law_cell", "_law_cell", s_law_cell, false⟩,
  ⟨.glo "_law_begin", "_law_begin", "_law_begin", s_law_begin, false⟩,
  ⟨.glo "_law_draw", "_law_draw", "_law_draw", s_law_draw, false⟩,
  ⟨.glo "_law_pick", "_law_pick", "_law_pick", s_law_pick, false⟩,
  ⟨.glo "_law_right", "_law_right", "_law_right", s_law_right, false⟩,
  ⟨.glo "_law_cut", "_law_cut", "_law_cut", s_law_cut, false⟩,
  ⟨.glo "_law_line", "_law_line", "_law_line", s_law_line, false⟩,
  ⟨.glo "_law_index", "_law_index", "_law_index", s_law_index, false⟩,
  ⟨.glo "_law_told", "_law_told", "_law_told", s_law_told, false⟩,
  ⟨.glo "_law_is_integer", "_law_is_integer", "_law_is_integer", s_law_is_integer, false⟩,
  ⟨.glo "law", "law", "law", s_law, false⟩]
def dcs : List (Str × List Str) := [("ESCAPES", [("n" : Str), ("\"" : Str), ("\\" : Str)]), ("OPERANDS", [("const" : Str), ("load" : Str), ("save" : Str), ("pop" : Str), ("negate" : Str), ("not" : Str), ("add" : Str), ("sub" : Str), ("mul" : Str), ("div" : Str), ("mod" : Str), ("eq" : Str), ("ne" : Str), ("lt" : Str), ("le" : Str), ("gt" : Str), ("ge" : Str), ("is" : Str), ("jump" : Str), ("unless" : Str), ("both" : Str), ("either" : Str), ("list" : Str), ("map" : Str), ("item" : Str), ("set_item" : Str), ("field" : Str), ("set_field" : Str), ("call" : Str), ("invoke" : Str), ("super" : Str), ("closure" : Str), ("declare" : Str), ("blank" : Str), ("drop" : Str), ("class" : Str), ("method" : Str), ("iter" : Str), ("next" : Str), ("enter" : Str), ("leave" : Str), ("escape" : Str), ("raise" : Str), ("ret" : Str)])]
def rt0 : List Str := [("LivequillError" : Str), ("InvalidCode" : Str), ("InvalidText" : Str), ("Chunk" : Str), ("Ref" : Str), ("Builtin" : Str), ("ESCAPES" : Str), ("OPERANDS" : Str), ("BUILTINS" : Str), ("run_of" : Str), ("read_quoted" : Str), ("number_of" : Str), ("token_at" : Str), ("lines_of" : Str), ("is_plain" : Str), ("constant" : Str), ("operand_of" : Str), ("row_of" : Str), ("head_of" : Str), ("read_line" : Str)]
def rt1 : List Str := [("read_code" : Str), ("_law_cell" : Str), ("_law_begin" : Str), ("_law_draw" : Str), ("_law_pick" : Str), ("_law_right" : Str), ("_law_cut" : Str), ("_law_line" : Str), ("_law_index" : Str), ("_law_told" : Str), ("_law_is_integer" : Str), ("law" : Str)]
abbrev rts : List Str := rt0 ++ rt1
abbrev hk : PySem.W.Hook := Hd.hook 5 rts fas fns dcs
def ob (s : PySem.W.SharedT) : Hd.Al := Hd.obsG 5 rts fas fns dcs (HandSHeadRun.getT s)
theorem ob_eq (s : PySem.W.SharedT) : ob s = hk.obs s.abs := Hd.obsG_eq (HandSHeadRun.getT_eq s)
def Run (w : World) : Prop := HandSHeadRun.RunEq Rw (PySem.W.view Rw.prog [43]) hk ob 300000 nms w
theorem run_f (w : World) : Run (w.withFollow "special-get-raises" false) := fun os => by kernel_rfl
theorem run_t (w : World) : Run (w.withFollow "special-get-raises" true) := fun os => by kernel_rfl
theorem run (w : World) : Run w := PySem.W.byRow2 "special-get-raises" (P := Run) run_f run_t w
end
structure TxD (w : World) (K : PySem.W.Frag) (mg : Str → Option Value) : Prop where
  d_ESCAPES : GDict K w mg "ESCAPES" [("n", some (.str "\n")), ("\"", some (.str "\"")), ("\\", some (.str "\\")), ("t", none), ("x", none), ("\n", none)]
  d_OPERANDS : GDictT K w mg "OPERANDS" [("const", some [.str "value"]), ("pop", some []), ("add", some [.str "number"]), ("call", some [.str "number", .str "number"]), ("field", some [.str "text", .str "number"]), ("ret", some []), ("escape", some [.str "number", .str "number", .str "number"]), ("load", some [.str "number"]), ("pops", none), ("function", none), ("Const", none), ("set", none)]
structure Txt (K : PySem.W.Frag) (mg : Str → Option Value) (c : Cs) : Prop where
  no_abs : mg "abs" = none
  no_bool : mg "bool" = none
  no_dict : mg "dict" = none
  no_enumerate : mg "enumerate" = none
  no_int : mg "int" = none
  no_isinstance : mg "isinstance" = none
  no_len : mg "len" = none
  no_list : mg "list" = none
  no_max : mg "max" = none
  no_min : mg "min" = none
  no_range : mg "range" = none
  no_str : mg "str" = none
  no_tuple : mg "tuple" = none
  no_zip : mg "zip" = none
  g_BUILTINS : GTup K mg "BUILTINS" [.str "print", .str "read", .str "str", .str "int", .str "len", .str "range", .str "kind", .str "abs", .str "min", .str "max", .str "pow", .str "gcd", .str "sqrt", .str "base", .str "parse", .str "char", .str "assert", .str "copy", .str "equals"]
  g_DIGITS : ∃ t, mg "DIGITS" = some (.str "0123456789" t)
  g_GREATEST : ∃ t, mg "GREATEST" = some (.int big_GREATEST t)
  g_GREATEST_NUMBER : ∃ t, mg "GREATEST_NUMBER" = some (.int 999999999 t)
  g_LETTERS : ∃ t, mg "LETTERS" = some (.str "ABCDEFGHIJKLMNOPQRSTUVWXYZabcdefghijklmnopqrstuvwxyz_" t)
  g_MOST_FIGURES : ∃ t, mg "MOST_FIGURES" = some (.int 300 t)
  mg_Chunk : mg "Chunk" = some (.ref c.Chunk)
  cl_Chunk : Cls K c.Chunk
  mk_Chunk : MkAt K mg "Chunk" c.Chunk
  mg_Ref : mg "Ref" = some (.ref c.Ref)
  cl_Ref : Cls K c.Ref
  mk_Ref : MkAt K mg "Ref" c.Ref
  mg_Builtin : mg "Builtin" = some (.ref c.Builtin)
  cl_Builtin : Cls K c.Builtin
  mk_Builtin : MkAt K mg "Builtin" c.Builtin
  pl_name : Plain K [c.Builtin] "name"
  pl_number : Plain K [c.Chunk, c.Ref] "number"
  pl_rows : Plain K [c.Chunk] "rows"
  pl_scopes : Plain K [c.Chunk] "scopes"
  pl_wanted : Plain K [c.Chunk] "wanted"
  xpl_message : XPlain K [c.InvalidCode, c.InvalidText] "message"
  xpl_offset : XPlain K [c.InvalidCode, c.InvalidText] "offset"
  xf : ∀ C ∈ [c.LivequillError, c.InvalidCode, c.InvalidText], ExcFact K C
  mg_LivequillError : mg "LivequillError" = some (.ref c.LivequillError)
  mg_InvalidCode : mg "InvalidCode" = some (.ref c.InvalidCode)
  mg_InvalidText : mg "InvalidText" = some (.ref c.InvalidText)
  xn_offset_InvalidCode : PySem.W.findIn K (.ref c.InvalidCode) "offset" = some none
  xn_message_InvalidCode : PySem.W.findIn K (.ref c.InvalidCode) "message" = some none
  xn_offset_InvalidText : PySem.W.findIn K (.ref c.InvalidText) "offset" = some none
  xn_message_InvalidText : PySem.W.findIn K (.ref c.InvalidText) "message" = some none
  em_InvalidCode_InvalidCode : PySem.W.exmOne K (.ref c.InvalidCode) (.ref c.InvalidCode) = some true
  ko_InvalidCode_LivequillError : PySem.W.kitOne K (.ref c.InvalidCode) (.ref c.LivequillError) = some true
  ko_InvalidCode_InvalidText : PySem.W.kitOne K (.ref c.InvalidCode) (.ref c.InvalidText) = some false
  ob : ObjFact K
  kit : Kit K [c.Chunk, c.Ref, c.Builtin] [c.Ref, c.Builtin, c.Chunk]
  ne : (c.Chunk = c.Ref) = False ∧ (c.Chunk = c.Builtin) = False ∧ (c.Ref = c.Chunk) = False ∧ (c.Ref = c.Builtin) = False ∧ (c.Builtin = c.Chunk) = False ∧ (c.Builtin = c.Ref) = False
section
variable {P : Program} {w : World} {K : PySem.W.Frag} {mg : Str → Option Value} {base : Heap} {c : Cs}
/-- the law's own state: a number, a place, the script; H0: the heap at the law's start -/
structure Dr (K : PySem.W.Frag) (H0 : Hp) (s sc : Addr) (ns : List Int) (H : Hp) : Prop where
  st : ∃ a k : Int, H s = some (.lst [.int a, .int k, .ref sc]) ∧ 0 ≤ a ∧ 0 ≤ k
  sq : SqL K H0 sc (ns.map V.int)
  sm : Same H0 H
  nw : H0 s = none
  le : ns.length ≤ 63
theorem same_keep {H0 H H' : Hp} {ps : List Addr} (s : Same H0 H) (k : Keep ps H H') (n : ∀ q ∈ ps, H0 q = none) : Same H0 H' := fun a o e => k a o (fun m => by rw [n a m] at e; cases e) (s a o e)
theorem Dr.keep {H0 : Hp} {s sc : Addr} {ns : List Int} {ps : List Addr} {H H' : Hp} (d : Dr K H0 s sc ns H) (k : Keep ps H H') (n1 : s ∉ ps) (n2 : ∀ q ∈ ps, H0 q = none) : Dr K H0 s sc ns H' := by
  obtain ⟨a, j, e, h1, h2⟩ := d.st
  exact ⟨⟨a, j, k _ _ n1 e, h1, h2⟩, d.sq, same_keep d.sm k n2, d.nw, d.le⟩
theorem Dr.same {H0 : Hp} {s sc : Addr} {ns : List Int} {H H' : Hp} (d : Dr K H0 s sc ns H) (k : Same H H') : Dr K H0 s sc ns H' := d.keep (Keep.of (ps := []) k) (by simp) (fun _ h => by cases h)
def spCell (K : PySem.W.Frag) : Sp := fun vs H Q _ => match vs with
  | [.ref a, .int k] => ∃ ns : List Int, SqL K H a (ns.map V.int) ∧ ns.length ≤ 63 ∧ 0 ≤ k ∧ ∀ v : Int, Q (.int v) H
  | _ => False
theorem ok_cell (A : At K mg "_law_cell" "_law_cell" s_law_cell ["script", "k"]) (T : Txt K mg c) : Has P w K mg base CX0 "_law_cell" 1 ["script", "k"] (spCell K) := by
  have Sc := sc_law_cell
  refine has_of A Sc (fun vs H Q E h => ?_) (fun cdv f A outer s H vs Q E hr h => ?_)
  · unfold spCell at h; split at h; rfl; cases h
  · unfold spCell at h
    split at h
    · rename_i a k
      obtain ⟨ns, hS, hn, h0, kk⟩ := h
      refine ⟨_, (pss_cons (ps_if (pt_cmpR op_fLt (fe_var 1) (pe_callB call_fLen (by rfl) T.no_len (by decide +kernel) (pa_cons (fe_var 0) pa_nil)) (nomark _)) (pss_one (ps_ret (pe_ix ix_fx (fe_var 0) (fe_var 1) (fun _ _ => rfl)))) pss_nil)
      (pss_one (ps_ret pe_int))), ?_⟩
      walk_at "fx0"
      walk_at "fx"
      refine ifs_ ?_
      walk_at "fx"
      refine ⟨_, .inl hS, ?_⟩
      rw [List.length_map]
      split
      · rename_i hlt
        obtain ⟨z, ez⟩ := at_ints (ns := ns) (i := k) h0 hlt
        exact ⟨_, .inl hS, _, ez, kk z⟩
      · exact kk 0
    · cases h
def spBegin (K : PySem.W.Frag) : Sp := fun vs H Q _ => match vs with
  | [.ref a, .int k] => 0 ≤ k ∧ ∀ s H1, H s = none → Same H H1 → H1 s = some (.lst [.int 0, .int k, .ref a]) → Q (.ref s) H1
  | _ => False
theorem ok_begin (A : At K mg "_law_begin" "_law_begin" s_law_begin ["script", "k"]) (T : Txt K mg c) : Has P w K mg base CX0 "_law_begin" 1 ["script", "k"] (spBegin K) := by
  have Sc := sc_law_begin
  refine has_of A Sc (fun vs H Q E h => ?_) (fun cdv f A outer s H vs Q E hr h => ?_)
  · unfold spBegin at h; split at h; rfl; cases h
  · unfold spBegin at h
    split at h
    · rename_i a k
      obtain ⟨h0, kk⟩ := h
      refine ⟨_, (pss_one (ps_ret (fe_lst (pa_cons pe_int (pa_cons (fe_var 1) (pa_cons (fe_var 0) pa_nil)))))), ?_⟩
      walk_at "fx0"
      walk_at "fx"
      exact kk
    · cases h
def spDraw (K : PySem.W.Frag) : Sp := fun vs H Q _ => match vs with
  | [.ref s, .int m] => ∃ H0 sc ns, Dr K H0 s sc ns H ∧ 0 < m ∧ m < 1000000000000000000000000000000 ∧ ∀ H1 (d : Int), Keep [s] H H1 → Dr K H0 s sc ns H1 → 0 ≤ d → d < m → Q (.int d) H1
  | _ => False
theorem big_mul {i : Int} (h0 : 0 ≤ i) (h : i < 2 ^ 100) : IntMulOk i i := by
  have b : Builtin.Int.intBits i ≤ 128 := by
    unfold Builtin.Int.intBits
    by_cases hz : i = 0
    · subst hz; decide
    · rw [if_neg (by simpa using hz)]
      have : i.natAbs.log2 < 100 := (Nat.log2_lt (by omega)).mpr (by omega)
      omega
  exact IntMulOk.of_le b b (by decide)
theorem ok_draw (A : At K mg "_law_draw" "_law_draw" s_law_draw ["state", "many"]) (T : Txt K mg c) (H_law_cell : Has P w K mg base CX0 "_law_cell" 1 ["script", "k"] (spCell K)) : Has P w K mg base CX0 "_law_draw" 2 ["state", "many"] (spDraw K) := by
  have Sc := sc_law_draw
  refine has_of A Sc (fun vs H Q E h => ?_) (fun cdv f A outer s H vs Q E hr h => ?_)
  · unfold spDraw at h; split at h; rfl; cases h
  · unfold spDraw at h
    split at h
    · rename_i st m
      obtain ⟨H0, sc, ns, D, h0, h1, kk⟩ := h
      obtain ⟨x, k, es, hx, hk⟩ := D.st
      refine ⟨_, (pss_cons (ps_if (pt_cmpR op_fLt (pe_ix ix_fx (fe_var 0) pe_int (fun _ _ => rfl)) (fe_var 1) (nomark _)) (pss_cons (ps_set (i := 2) Sc.nd rfl (.inl rfl) (pe_ix ix_fx (fe_var 0) pe_int (fun _ _ => rfl)))
      (pss_cons (ps_set (i := 3) Sc.nd rfl (.inl rfl) (fe_call H_law_cell (hr.mono (by walk_at "rm")) (by rfl) pass0 (pa_cons (pe_ix ix_fx (fe_var 0) pe_int (fun _ _ => rfl)) (pa_cons (fe_var 2) pa_nil))))
      (pss_cons (ps_set (i := 4) Sc.nd rfl (.inl rfl) pe_int)
      (pss_cons (ps_asg (pe_op op_fAdd (fe_var 2) pe_int) (pg_sub (fe_var 0) pe_int set_fx))
      (pss_cons (ps_asg (pe_callB call_fAbs (by rfl) T.no_abs (by decide +kernel) (pa_cons (fe_var 3) pa_nil)) (pg_sub (fe_var 0) pe_int set_fx))
      (pss_one (ps_if (pt_chain op_fLt op_fLt (pe_un un_fNeg pe_int) (fe_var 3) pe_int) (pss_cons (ps_set (i := 5) Sc.nd rfl (.inl rfl) (pe_op op_fMod (pe_callTy call_fInt (by rfl) T.no_int (by decide +kernel) (pa_cons (pe_op op_fAdd (pe_op op_fMul (fe_var 3) pe_int) (pe_op op_fMul (pe_op op_fAdd (fe_var 2) pe_int) pe_int)) pa_nil)) (fe_var 4)))
      (pss_one (ps_asg (pe_op op_fAdd (pe_op op_fMod (pe_callTy call_fInt (by rfl) T.no_int (by decide +kernel) (pa_cons (pe_op op_fAdd (pe_op op_fAdd (pe_op op_fMul (fe_var 5) (fe_var 5)) (pe_op op_fMul pe_int (fe_var 5))) (fe_var 2)) pa_nil)) (fe_var 4)) (fe_var 4)) (pg_sub (fe_var 0) pe_int set_fx)))) pss_nil))))))) pss_nil)
      (pss_cons (ps_set (i := 6) Sc.nd rfl (.inl rfl) (pe_op op_fMod (pe_callTy call_fInt (by rfl) T.no_int (by decide +kernel) (pa_cons (pe_ix ix_fx (fe_var 0) pe_int (fun _ _ => rfl)) pa_nil)) (fe_var 1)))
      (pss_cons (ps_asg (pe_op op_fDiv (pe_ix ix_fx (fe_var 0) pe_int (fun _ _ => rfl)) (fe_var 1)) (pg_sub (fe_var 0) pe_int set_fx))
      (pss_one (ps_ret (fe_var 6)))))), ?_⟩
      walk_at "fx0"
      walk_at "fx"
      refine cut_ fun N hN => ifs_ ?_
      walk_at "fx"
      refine ⟨_, rl_l es, _, atI_nat (j := 0) rfl, ?_⟩
      walk_at "fx"
      have fin : ∀ (y : Int) (k' : Int) (v2 v3 v4 v5 : Option V) (H1 : Hp), Keep [st] H H1 → H1 st = some (.lst [.int y, .int k', .ref sc]) → 0 ≤ y → 0 ≤ k' → N [some (.ref st), some (.int m), v2, v3, v4, v5, none] H1 := by
        intro y k' v3 v4 v5 v6 H1 kp e1 g0 g1
        refine hN _ _ ?_
        walk_at "fx"
        refine ⟨_, rl_l e1, _, atI_nat (j := 0) rfl, h0, _, rl_l e1, _, atI_nat (j := 0) rfl, wide_div (b := 100) h0 (by omega) (by decide) (by decide), ?_⟩
        rw [e1]
        refine ⟨0, rfl, ?_⟩
        have kp2 : Keep [st] H (upd H1 st (.lst ([V.int y, .int k', .ref sc].set 0 (.int (y / m))))) := kp.upd (by simp)
        exact kk _ _ kp2 ⟨⟨y / m, k', upd_same, Int.ediv_nonneg g0 (by omega), g1⟩, D.sq, same_keep D.sm kp2 (by intro q hq; rw [List.mem_singleton.mp hq]; exact D.nw), D.nw, D.le⟩ (emod_lo y h0) (emod_hi y h0)
      split
      · refine ⟨_, rl_l es, _, atI_nat (j := 1) rfl, _, rl_l es, _, atI_nat (j := 2) rfl, ?_⟩
        unfold spCell
        refine ⟨ns, D.sm.seq D.sq, D.le, hk, fun v => ?_⟩
        walk_at "fx"
        simp only [es]
        walk_at "fx"
        refine ⟨1, rfl, 0, rfl, ?_⟩
        refine ifs_ ?_
        walk_at "fx"
        have kp : Keep [st] H (upd (upd H st (.lst [.int x, .int (k + 1), .ref sc])) st (.lst [.int (if v < 0 then -v else v), .int (k + 1), .ref sc])) := (Keep.refl.upd (by simp)).upd (by simp)
        have ha : 0 ≤ (if v < 0 then -v else v) := by split <;> omega
        split
        · split
          · have g0 := emod_lo (v * 2654435761 + (k + 1) * 6700417) (m := 618970019642690137449562111) (by decide)
            have g1 := emod_hi (v * 2654435761 + (k + 1) * 6700417) (m := 618970019642690137449562111) (by decide)
            generalize (v * 2654435761 + (k + 1) * 6700417) % 618970019642690137449562111 = y at g0 g1
            have g2 := emod_lo (y * y + 7 * y + k) (m := 618970019642690137449562111) (by decide)
            refine ⟨by walk_at "mul", by walk_at "mul", big_mul g0 (by omega), by walk_at "mul", 0, rfl, ?_⟩
            exact fin _ (k + 1) _ _ _ _ _ (kp.upd (by simp)) upd_same (by omega) (by omega)
          · exact fin _ (k + 1) _ _ _ _ _ kp upd_same ha (by omega)
        · exact fin _ (k + 1) _ _ _ _ _ kp upd_same ha (by omega)
      · exact fin x k _ _ _ _ H Keep.refl es hx hk
    · cases h
end

section
variable {P : Program} {w : World} {K : PySem.W.Frag} {mg : Str → Option Value} {base : Heap} {c : Cs}
def spMk_Ref (K : PySem.W.Frag) (c : Cs) : Sp := fun vs H Q _ => match vs with
  | [v_number] => ∀ y dx H1, H y = none → Same H H1 → H1 y = some (.ins c.Ref dx [("number", v_number)]) → Q (.ref y) H1
  | _ => False
theorem mk_Ref (A : AtM K c.Ref "__init__" "Ref.__init__" s_Ref___init__ ["self", "number"]) (T : Txt K mg c) : HasC P w K mg base CX0 c.Ref "Ref" 1 ["self", "number"] (spMk_Ref K c) := by
  have Sc := sc_Ref___init__
  refine hasC_of T.mk_Ref A Sc (fun vs H Q E h => ?_) (fun cdv f A outer s H vs Q E y dx H0 hr h hy hs h0 => ?_)
  · unfold spMk_Ref at h; split at h; rfl; cases h
  · unfold spMk_Ref at h
    split at h
    · rename_i v_number
      refine ⟨_, (pss_one (fs_fld (fe_var 0) (fe_var 1) T.pl_number rfl)), ?_⟩
      walk_at "fx0"
      walk_at "ox"
      simp only [h0]
      walk_at "ox"
      first
        | exact h y dx _ hy (mk_same hs hy) upd_same
        | exact ⟨by decide, h y dx _ hy (mk_same hs hy) upd_same⟩
    · cases h
def spMk_Builtin (K : PySem.W.Frag) (c : Cs) : Sp := fun vs H Q _ => match vs with
  | [v_name] => ∀ y dx H1, H y = none → Same H H1 → H1 y = some (.ins c.Builtin dx [("name", v_name)]) → Q (.ref y) H1
  | _ => False
theorem mk_Builtin (A : AtM K c.Builtin "__init__" "Builtin.__init__" s_Builtin___init__ ["self", "name"]) (T : Txt K mg c) : HasC P w K mg base CX0 c.Builtin "Builtin" 1 ["self", "name"] (spMk_Builtin K c) := by
  have Sc := sc_Builtin___init__
  refine hasC_of T.mk_Builtin A Sc (fun vs H Q E h => ?_) (fun cdv f A outer s H vs Q E y dx H0 hr h hy hs h0 => ?_)
  · unfold spMk_Builtin at h; split at h; rfl; cases h
  · unfold spMk_Builtin at h
    split at h
    · rename_i v_name
      refine ⟨_, (pss_one (fs_fld (fe_var 0) (fe_var 1) T.pl_name rfl)), ?_⟩
      walk_at "fx0"
      walk_at "ox"
      simp only [h0]
      walk_at "ox"
      first
        | exact h y dx _ hy (mk_same hs hy) upd_same
        | exact ⟨by decide, h y dx _ hy (mk_same hs hy) upd_same⟩
    · cases h
theorem mkE_InvalidCode (A : AtE K c.InvalidCode "InvalidCode.__init__" s_InvalidCode___init__ ["self", "offset", "message"]) (T : Txt K mg c) : HasE P w K mg base c.InvalidCode "InvalidCode" 2 (two "offset" "message") :=
  hasE2 A sc_InvalidCode___init__ rfl (T.xf _ (by simp)) T.xn_offset_InvalidCode T.xn_message_InvalidCode T.mg_InvalidCode (by decide) (by decide) (by decide) (by decide)
theorem mkE_InvalidText (A : AtE K c.InvalidText "InvalidText.__init__" s_InvalidText___init__ ["self", "offset", "message"]) (T : Txt K mg c) : HasE P w K mg base c.InvalidText "InvalidText" 2 (two "offset" "message") :=
  hasE2 A sc_InvalidText___init__ rfl (T.xf _ (by simp)) T.xn_offset_InvalidText T.xn_message_InvalidText T.mg_InvalidText (by decide) (by decide) (by decide) (by decide)
end
section
variable {P : Program} {w : World} {K : PySem.W.Frag} {mg : Str → Option Value} {base : Heap} {c : Cs}
def spPick2 (K : PySem.W.Frag) : Sp := fun vs H Q _ => match vs with
  | [.ref s, r] => ∃ H0 sc ns xs, Dr K H0 s sc ns H ∧ (match r with | .ref a => ∀ H1, Keep [s] H H1 → Rl K H1 a xs | .str z => xs = z.cps.toList.map (fun ch => V.str ⟨#[ch]⟩) | _ => False) ∧ 0 < xs.length ∧ xs.length ≤ 1000 ∧ ∀ H1 v, Keep [s] H H1 → Dr K H0 s sc ns H1 → v ∈ xs → Q v H1
  | _ => False
theorem ok_pick2 (A : At K mg "_law_pick" "_law_pick" s_law_pick ["state", "row"]) (T : Txt K mg c) (H_law_draw : Has P w K mg base CX0 "_law_draw" 2 ["state", "many"] (spDraw K)) : Has P w K mg base CX0 "_law_pick" 3 ["state", "row"] (spPick2 K) := by
  have Sc := sc_law_pick
  refine has_of A Sc (fun vs H Q E h => ?_) (fun cdv f A outer s H vs Q E hr h => ?_)
  · unfold spPick2 at h; split at h; rfl; cases h
  · unfold spPick2 at h
    split at h
    · rename_i st r
      obtain ⟨H0, sc, ns, xs, D, hr1, h0, h1, kk⟩ := h
      refine ⟨_, (pss_one (ps_ret (pe_ix ix_fx (fe_var 1) (fe_call H_law_draw (hr.mono (by walk_at "rm")) (by rfl) pass0 (pa_cons (fe_var 0) (pa_cons (pe_callB call_fLen (by rfl) T.no_len (by decide +kernel) (pa_cons (fe_var 1) pa_nil)) pa_nil))) (fun _ _ => rfl)))), ?_⟩
      walk_at "fx0"
      split at hr1
      · rename_i r
        walk_at "fx"
        refine ⟨_, hr1 H Keep.refl, ?_⟩
        unfold spDraw
        refine ⟨H0, sc, ns, D, by omega, by omega, fun H1 d kp D1 d0 d1 => ?_⟩
        obtain ⟨v, hv, ev⟩ := at_vs (xs := xs) d0 d1
        exact ⟨_, hr1 H1 kp, v, ev, kk H1 v kp D1 hv⟩
      · rename_i z
        have hz : z.length = xs.length := by rw [hr1, List.length_map]; exact Array.length_toList.symm
        have hl : z.length ≤ sizeLine := by
          have := len_line' (n := z.length) (by omega)
          omega
        walk_at "fx"
        refine ⟨hl, ?_⟩
        unfold spDraw
        refine ⟨H0, sc, ns, D, by omega, by omega, fun H1 d kp D1 d0 d1 => ?_⟩
        obtain ⟨n, rfl⟩ := Int.eq_ofNat_of_zero_le d0
        have hn : n < z.cps.toList.length := by
          have d1' : (n : Int) < (z.length : Nat) := d1
          have e : z.cps.toList.length = z.length := Array.length_toList
          rw [e]
          omega
        have ec : z.cps.toList[n]? = some z.cps.toList[n] := List.getElem?_eq_getElem hn
        refine ⟨hl, _, atI_nat ec, kk H1 _ kp D1 ?_⟩
        rw [hr1]
        exact List.mem_map_of_mem (List.getElem_mem hn)
      · exact hr1.elim
    · cases h
end

section
variable {P : Program} {w : World} {K : PySem.W.Frag} {mg : Str → Option Value} {base : Heap} {c : Cs}
/-! ### reading code: characters and tokens -/
open Cd
theorem pt_fTruK {X : Cx} {K : PySem.W.Frag} (hK : X.K = K) {a : Expr} {ta : TE} (ha : PE X a ta) (he : ∀ whole, isTrue a X.env whole = (do let v ← whole; standAt a.pos; holding [v] (truthy v))) : PT X a (fTru K ta) := by subst hK; exact pt_fTru ha he
theorem take_get {α : Type} {xs : List α} {i : Nat} {x : α} (h : xs[i]? = some x) : xs.take (i + 1) = xs.take i ++ [x] := by rw [List.take_succ, h]; rfl
theorem getI {l : List Nat} {i : Nat} (h : i < l.length) : ∃ c, l[i]? = some c ∧ atI l (i : Int) = some c := ⟨l[i], List.getElem?_eq_getElem h, atI_nat (List.getElem?_eq_getElem h)⟩
theorem one_ne (c d : Nat) : (S [c] = S [d]) = (c = d) := propext ⟨fun h => (List.cons.inj (S_inj h)).1, fun h => by rw [h]⟩
theorem drop_at {l : List Nat} {i d : Nat} (h : l[i]? = some d) : l.drop i = d :: l.drop (i + 1) := by
  obtain ⟨hi, e⟩ := List.getElem?_eq_some_iff.mp h
  rw [List.drop_eq_getElem_cons hi, e]
def spRunOf : Sp := fun vs H Q _ => match vs with
  | [.str z, .int s, .str cs] => (0 ≤ s ∧ s ≤ z.length ∧ z.length ≤ 100000) ∧ Q (.int ((s.toNat + runC (fun d => decide (d ∈ L cs)) ((L z).drop s.toNat) : Nat) : Int)) H
  | _ => False
theorem ok_runof (A : At K mg "run_of" "run_of" s_run_of ["text", "at", "allowed"]) (T : Txt K mg c) : Has P w K mg base CX0 "run_of" 1 ["text", "at", "allowed"] spRunOf := by
  have Sc := sc_run_of
  refine has_of A Sc (fun vs H Q E h => ?_) (fun cdv f A outer s H vs Q E hr h => ?_)
  · unfold spRunOf at h; split at h; rfl; cases h
  · unfold spRunOf at h
    split at h
    · rename_i z st cs
      obtain ⟨⟨h0, h1, h2⟩, k⟩ := h
      obtain ⟨l, rfl⟩ : ∃ l, z = S l := ⟨_, (S_L z).symm⟩
      obtain ⟨n, rfl⟩ := Int.eq_ofNat_of_zero_le h0
      rw [L_S, Int.toNat_natCast] at k
      rw [S_len] at h1 h2
      refine ⟨_, (pss_cons (ps_while PassesOwn.never (PW.pt (pw_and (pt_cmpR op_fLt (fe_var 1) (pe_callB call_fLen (by rfl) T.no_len (by decide +kernel) (pa_cons (fe_var 0) pa_nil)) (nomark _)) (pw_and1 (pt_cmpR op_fIn (pe_ix ix_fx (fe_var 0) (fe_var 1) (fun _ _ => rfl)) (fe_var 2) (by with_unfolding_all rfl))))) (pss_one (ps_aug (i := 1) Sc.nd rfl (.inl rfl) pe_int ip_fAdd)))
      (pss_one (ps_ret (fe_var 1)))), ?_⟩
      walk_at "fx0"
      walk_at "fx"
      refine ⟨fun m σ H' => H' = H ∧ ∃ i : Nat, σ = [some (.str (S l)), some (.int (i : Int)), some (.str cs)] ∧ i ≤ l.length ∧ m = l.length - i ∧ i + runC (fun d => decide (d ∈ L cs)) (l.drop i) = n + runC (fun d => decide (d ∈ L cs)) (l.drop n),
        ⟨_, rfl, n, rfl, by omega, rfl, rfl⟩, ?_⟩
      rintro m σ H' ⟨rfl, i, rfl, hi, rfl, e⟩
      walk_at "fx"
      refine ⟨len_line (by omega), ?_⟩
      by_cases hlt : i < l.length
      · obtain ⟨d, hc, ec⟩ := getI hlt
        rw [if_pos (by omega)]
        refine ⟨len_line (by omega), d, ec, ?_⟩
        rw [drop_at hc] at e
        unfold runC at e
        rw [List.takeWhile_cons] at e
        by_cases hp : d ∈ L cs
        · rw [if_pos (show d ∈ cs.cps.toList from hp)]
          rw [if_pos (by simpa using hp), List.length_cons] at e
          refine ⟨_, fun _ _ h => h, ?_⟩
          exact ⟨l.length - (i + 1), by omega, rfl, i + 1, rfl, by omega, rfl, by unfold runC; omega⟩
        · rw [if_neg (show ¬ d ∈ cs.cps.toList from hp)]
          rw [if_neg (by simpa using hp), List.length_nil, Nat.add_zero] at e
          unfold runC at k
          rw [← e] at k; exact k
      · rw [if_neg (by omega)]
        rw [List.drop_eq_nil_of_le (by omega)] at e
        unfold runC at e k
        rw [List.takeWhile_nil, List.length_nil, Nat.add_zero] at e
        rw [← e] at k; exact k
    · cases h
def spNumOf : Sp := fun vs H Q _ => match vs with
  | [.str z] => z.length ≤ 100000 ∧ (∀ d ∈ L z, isDig d = true) ∧ Q (match numV (L z) with | none => .non | some k => .int (k : Int)) H
  | _ => False
theorem ok_numof (A : At K mg "number_of" "number_of" s_number_of ["digits"]) (T : Txt K mg c) : Has P w K mg base CX0 "number_of" 1 ["digits"] spNumOf := by
  have Sc := sc_number_of
  refine has_of A Sc (fun vs H Q E h => ?_) (fun cdv f A outer s H vs Q E hr h => ?_)
  · unfold spNumOf at h; split at h; rfl; cases h
  · unfold spNumOf at h
    split at h
    · rename_i z
      obtain ⟨h2, h4, k⟩ := h
      obtain ⟨l, rfl⟩ : ∃ l, z = S l := ⟨_, (S_L z).symm⟩
      rw [L_S] at k h4
      rw [S_len] at h2
      refine ⟨_, (pss_cons (ps_set (i := 0) Sc.nd rfl (.inl rfl) (fe_bm PySem.F.plainAttrs_str PySem.F.slot_str_lstrip PySem.F.type_str_lstrip isStr_ty mt_fLstripC (fe_var 0) (pa_cons pe_str pa_nil)))
      (pss_cons (ps_if (pt_cmpR op_fGt (pe_callB call_fLen (by rfl) T.no_len (by decide +kernel) (pa_cons (fe_var 0) pa_nil)) (fe_gint (by rfl) T.g_MOST_FIGURES) (nomark _)) (pss_one (ps_ret pe_non)) pss_nil)
      (pss_cons (ps_if (pt_cmpR (op_fEq hr.units) (fe_var 0) pe_str (nomark _)) (pss_one (ps_ret pe_int)) pss_nil)
      (pss_one (ps_ret (pe_callTy call_fInt (by rfl) T.no_int (by decide +kernel) (pa_cons (fe_var 0) pa_nil))))))), ?_⟩
      walk_at "fx0"
      repeat (walk_at "oxs")
      have e0 : Str.ofString "0" = S [48] := by decide +kernel
      rw [e0, lstrip_zero]
      have hdl : (l.dropWhile (· == 48)).length ≤ l.length := (List.dropWhile_sublist _).length_le
      have hdd : ∀ c ∈ l.dropWhile (· == 48), isDig c = true := fun c hc => h4 c ((List.dropWhile_sublist _).subset hc)
      unfold numV at k
      generalize l.dropWhile (· == 48) = ds at k hdl hdd
      refine ⟨len_line (by omega), len_line (by rw [S_len]; omega), ?_⟩
      by_cases hl : 300 < ds.length
      · rw [if_pos hl] at k
        rw [S_len, if_pos (by omega)]
        exact k
      · rw [if_neg hl] at k
        rw [S_len, if_neg (by omega)]
        cases ds with
        | nil => rw [if_pos (by rfl)]; exact k
        | cons d ds =>
          rw [if_neg (fun z => by have := congrArg L z; cases this)]
          have e5 : PySem.intText? (S (d :: ds)) = some ((value (d :: ds) : Nat) : Int) := by
            refine PySem.intText_digits (x := S (d :: ds)) ?_ (by simp [S]) (by rw [S_len]; omega)
            intro c hc
            rw [S_cps] at hc
            have := hdd c hc
            unfold isDig at this
            simpa using this
          exact ⟨_, e5, by omega, k⟩
    · cases h
def OutC (c : Cs) (H : Hp) (o : Nat) (m : Str) (E : XK) : Prop := Out c.InvalidCode H [("message", .str m), ("offset", .int (o : Nat))] E
def spQuo (c : Cs) : Sp := fun vs H Q E => match vs with
  | [.str z, .int f] => ∃ n : Nat, f = (n : Nat) ∧ n < z.length ∧ z.length ≤ 100000 ∧ EscOK (L z) ∧ match quoL ((L z).drop (n + 1)) with
    | none => OutC c H n badQ E
    | some x => ∀ p H1, H p = none → Same H H1 → H1 p = some (.tup [.str (S x.1), .int ((n + 1 + x.2 : Nat) : Int)]) → Q (.ref p) H1
  | _ => False
set_option maxHeartbeats 4000000 in
theorem ok_quo (A : At K mg "read_quoted" "read_quoted" s_read_quoted ["text", "first"]) (T : Txt K mg c) (TD : TxD w K mg) (E_InvalidCode : HasE P w K mg base c.InvalidCode "InvalidCode" 2 (two "offset" "message")) : Has P w K mg base (L2.CX P w) "read_quoted" 3 ["text", "first"] (spQuo c) := by
  have Sc := sc_read_quoted
  refine hasX_of A Sc (fun vs H Q E h => ?_) (fun cdv f A outer s H vs Q E hr h => ?_)
  · unfold spQuo at h; split at h; rfl; cases h
  · unfold spQuo at h
    split at h
    · rename_i z f0
      obtain ⟨n, rfl, hn, h2, hesc, k⟩ := h
      obtain ⟨l, rfl⟩ : ∃ l, z = S l := ⟨_, (S_L z).symm⟩
      rw [L_S] at k hesc
      rw [S_len] at hn h2
      refine ⟨_, (pss_cons (ps_set (i := 2) Sc.nd rfl (.inl rfl) (fe_lst pa_nil))
      (pss_cons (ps_set (i := 3) Sc.nd rfl (.inl rfl) (pe_op op_fAdd (fe_var 1) pe_int))
      (pss_cons (ps_while (passes_of rfl) (PW.pt (pw_and (pt_cmpR op_fLt (fe_var 3) (pe_callB call_fLen (by rfl) T.no_len (by decide +kernel) (pa_cons (fe_var 0) pa_nil)) (nomark _)) (pw_and (pt_cmpR (op_fNe hr.units) (pe_ix ix_fx (fe_var 0) (fe_var 3) (fun _ _ => rfl)) pe_str (nomark _)) (pw_and1 (pt_cmpR (op_fNe hr.units) (pe_ix ix_fx (fe_var 0) (fe_var 3) (fun _ _ => rfl)) pe_str (nomark _)))))) (pss_cons (ps_if (pt_cmpR (op_fEq hr.units) (pe_ix ix_fx (fe_var 0) (fe_var 3) (fun _ _ => rfl)) pe_str (nomark _)) (pss_cons (ps_aug (i := 3) Sc.nd rfl (.inl rfl) pe_int ip_fAdd)
      (pss_cons (ps_if (PW.pt (pw_or (pt_cmpR op_fGe (fe_var 3) (pe_callB call_fLen (by rfl) T.no_len (by decide +kernel) (pa_cons (fe_var 0) pa_nil)) (nomark _)) (pw_or1 (pt_cmpR op_fNotInD (pe_ix ix_fx (fe_var 0) (fe_var 3) (fun _ _ => rfl)) (fe_gdict (by rfl) TD.d_ESCAPES) (by with_unfolding_all rfl))))) (pss_one (fs_raise rfl tk_of E_InvalidCode (by decide) (hr.mono (by walk_at "rm")) (by rfl) (pa_cons (fe_var 1) (pa_cons pe_str pa_nil)))) pss_nil)
      (pss_one (ps_expr (fe_bm PySem.F.plainAttrs_list PySem.F.slot_list_append PySem.F.type_list_append isLst_ty mt_fAppend (fe_var 2) (pa_cons (pe_ix ix_fxD (fe_gdict (by rfl) TD.d_ESCAPES) (pe_ix ix_fx (fe_var 0) (fe_var 3) (fun _ _ => rfl)) (fun _ _ => rfl)) pa_nil)))))) (pss_one (ps_expr (fe_bm PySem.F.plainAttrs_list PySem.F.slot_list_append PySem.F.type_list_append isLst_ty mt_fAppend (fe_var 2) (pa_cons (pe_ix ix_fx (fe_var 0) (fe_var 3) (fun _ _ => rfl)) pa_nil)))))
      (pss_one (ps_aug (i := 3) Sc.nd rfl (.inl rfl) pe_int ip_fAdd))))
      (pss_cons (ps_if (PW.pt (pw_or (pt_cmpR op_fGe (fe_var 3) (pe_callB call_fLen (by rfl) T.no_len (by decide +kernel) (pa_cons (fe_var 0) pa_nil)) (nomark _)) (pw_or1 (pt_cmpR (op_fEq hr.units) (pe_ix ix_fx (fe_var 0) (fe_var 3) (fun _ _ => rfl)) pe_str (nomark _))))) (pss_one (fs_raise rfl tk_of E_InvalidCode (by decide) (hr.mono (by walk_at "rm")) (by rfl) (pa_cons (fe_var 1) (pa_cons pe_str pa_nil)))) pss_nil)
      (pss_one (ps_ret (fe_tup (pa_cons (fe_bm PySem.F.plainAttrs_str PySem.F.slot_str_join PySem.F.type_str_join isStr_ty mt_fJoin pe_str (pa_cons (fe_var 2) pa_nil)) (pa_cons (pe_op op_fAdd (fe_var 3) pe_int) pa_nil))))))))), ?_⟩
      walk_at "fx0"
      walk_at "ox"
      intro pp H2 npp s2 epp
      refine cut_ fun N hN => ?_
      have nl10 : Str.ofString "\n" = S [10] := by decide +kernel
      have nq34 : Str.ofString "\"" = S [34] := by decide +kernel
      have nb92 : Str.ofString "\\" = S [92] := by decide +kernel
      refine ⟨fun m σ H' => ∃ (i : Nat) (acc : List Nat), σ = [some (.str (S l)), some (.int (n : Int)), some (.ref pp), some (.int (i : Int))] ∧ i ≤ l.length ∧ m = l.length - i ∧ Keep [pp] H2 H' ∧ H' pp = some (.lst (acc.map fun d => V.str (S [d]))) ∧ acc.length ≤ i ∧ ((quoL (l.drop i) = none ∧ quoL (l.drop (n + 1)) = none) ∨ ∃ x, quoL (l.drop i) = some x ∧ quoL (l.drop (n + 1)) = some (acc ++ x.1, x.2 + (i - (n + 1))) ∧ n + 1 ≤ i),
        ⟨_, n + 1, [], rfl, by omega, rfl, Keep.refl, epp, Nat.zero_le _, ?_⟩, ?_⟩
      · cases e : quoL (l.drop (n + 1)) with
        | none => exact .inl ⟨rfl, rfl⟩
        | some x => exact .inr ⟨x, rfl, by simp, Nat.le_refl _⟩
      · rintro m σ H' ⟨i, acc, rfl, hi, rfl, kp, eacc, lacc, hq⟩
        have stopN : (i = l.length ∨ l[i]? = some 10 ∨ l[i]? = some 34) → N [some (.str (S l)), some (.int (n : Int)), some (.ref pp), some (.int (i : Int))] H' := fun hs => by
          refine hN _ _ ?_
          clear hN N
          repeat (walk_at "oxs")
          refine ⟨len_line (by omega), ?_⟩
          have s02 : Same H H' := (((Keep.of s2).trans kp).drop npp).same
          rcases hs with hs | hs | hs
          · rw [if_pos (by omega)]
            rw [hs, List.drop_length] at hq
            rcases hq with ⟨_, q⟩ | ⟨x, q, _⟩
            · rw [q] at k
              exact Out.same k s02
            · cases q
          · have hi2 := (List.getElem?_eq_some_iff.mp hs).1
            rw [if_neg (by omega)]
            refine ⟨len_line (by omega), 10, atI_nat hs, ?_⟩
            rw [if_pos (by rfl)]
            rw [drop_at hs, quoL_10] at hq
            rcases hq with ⟨_, q⟩ | ⟨x, q, _⟩
            · rw [q] at k
              exact Out.same k s02
            · cases q
          · have hi2 := (List.getElem?_eq_some_iff.mp hs).1
            rw [if_neg (by omega)]
            refine ⟨len_line (by omega), 34, atI_nat hs, ?_⟩
            rw [if_neg (by rw [nl10]; exact fun z => by have := congrArg L z; cases this)]
            rw [drop_at hs, quoL_34] at hq
            rcases hq with ⟨q, _⟩ | ⟨x, q, q2, q3⟩
            · cases q
            · cases q
              rw [q2] at k
              have e0 : Str.ofString "" = S [] := by decide +kernel
              have es : ((acc.map fun d => S [d]).map fun x => x.length).sum = acc.length := by
                have : ∀ a : List Nat, ((a.map fun d => S [d]).map fun x => x.length).sum = a.length := fun a => by
                  induction a with
                  | nil => rfl
                  | cons d a ih =>
                    rw [List.map_cons, List.map_cons, List.sum_cons, ih, S_len]
                    simp; omega
                exact this acc
              refine ⟨acc.map fun d => S [d], rl_l (by rw [eacc, List.map_map]; rfl), ?_, fun p3 H3 np3 s3 ep3 => ?_⟩
              · rw [es, e0, S_len, List.length_nil, Nat.mul_zero]; omega
              · rw [e0, join_ones] at ep3
                refine k p3 H3 (s02.free np3) (s02.trans s3) ?_
                rw [ep3, List.append_nil, show ((n + 1 + (1 + (i - (n + 1))) : Nat) : Int) = (i : Int) + 1 by omega]
        walk_at "ox"
        refine ⟨len_line (by omega), ?_⟩
        by_cases hlt : i < l.length
        · obtain ⟨d, hd, ed⟩ := getI hlt
          rw [if_pos (by omega)]
          refine ⟨len_line (by omega), d, ed, ?_⟩
          by_cases h34 : d = 34
          · rw [if_neg (fun z => z (by rw [h34]; rfl))]
            exact stopN (.inr (.inr (by rw [hd, h34])))
          · rw [if_pos (fun z => h34 (by rw [nq34, S_one, one_ne] at z; exact z))]
            refine ⟨len_line (by omega), d, ed, ?_⟩
            by_cases h10 : d = 10
            · rw [if_neg (fun z => z (by rw [h10]; rfl))]
              exact stopN (.inr (.inl (by rw [hd, h10])))
            · rw [if_pos (fun z => h10 (by rw [nl10, S_one, one_ne] at z; exact z))]
              refine ⟨_, fun _ _ h => h, ?_⟩
              refine cut_ fun N3 hN3 => ?_
              have adv : ∀ (j : Nat) (e : Nat) H3, i ≤ j → j < l.length → Keep [pp] H2 H3 → H3 pp = some (.lst ((acc ++ [e]).map fun d => V.str (S [d]))) → ((quoL (l.drop (j + 1)) = none ∧ quoL (l.drop (n + 1)) = none) ∨ ∃ x, quoL (l.drop (j + 1)) = some x ∧ quoL (l.drop (n + 1)) = some ((acc ++ [e]) ++ x.1, x.2 + (j + 1 - (n + 1))) ∧ n + 1 ≤ j + 1) → N3 [some (.str (S l)), some (.int (n : Int)), some (.ref pp), some (.int (j : Int))] H3 := fun j e H3 hj hj2 k3 e3 q3 => by
                refine hN3 _ _ ?_
                clear hN3 N3
                repeat (walk_at "oxs")
                exact ⟨l.length - (j + 1), by omega, j + 1, rfl, by omega, rfl, k3, acc ++ [e], e3, by rw [List.length_append, List.length_singleton]; omega, q3⟩
              repeat (walk_at "oxs")
              refine ⟨len_line (by omega), d, ed, ?_⟩
              by_cases h92 : d = 92
              · subst h92
                rw [if_pos (by rfl)]
                refine ⟨len_line (by omega), ?_⟩
                have s02 : Same H H' := (((Keep.of s2).trans kp).drop npp).same
                by_cases h1 : i + 1 < l.length
                · obtain ⟨e, he, ee⟩ := getI h1
                  have ee : atI l ((i : Int) + 1) = some e := by
                    have z : ((i + 1 : Nat) : Int) = (i : Int) + 1 := by omega
                    rw [z] at ee; exact ee
                  have hdr : l.drop i = 92 :: e :: l.drop (i + 2) := by rw [drop_at hd, drop_at he]
                  have hst : quoL (l.drop i) = match esc e with
                    | none => none
                    | some v => (quoL (l.drop (i + 2))).map fun x => (v :: x.1, x.2 + (i + 2 - i)) := by
                    rw [hdr, quoL_92, show i + 2 - i = 2 by omega] <;> (cases esc e <;> rfl)
                  have good : ∀ v : Nat, esc e = some v → N3 [some (.str (S l)), some (.int (n : Int)), some (.ref pp), some (.int ((i : Int) + 1))] (upd H' pp (.lst ((acc.map fun d => V.str (S [d])) ++ [.str (S [v])]))) := fun v hv => by
                    rw [hv] at hst
                    exact adv (i + 1) v _ (by omega) h1 (kp.upd (by simp)) (by rw [upd_same, List.map_append]; rfl) (quoL_step (by omega) hst hq)
                  have none_ : esc e = none → quoL (l.drop (n + 1)) = none := fun hv => by
                    rw [hv] at hst
                    rcases hq with ⟨_, q⟩ | ⟨x, q, _⟩
                    · exact q
                    · rw [hst] at q; cases q
                  rw [if_neg (by omega)]
                  refine ⟨len_line (by omega), e, ee, fun d1 D1 => ⟨_, D1, ?_⟩⟩
                  have hm := hesc i e hd he
                  simp only [List.mem_cons, List.not_mem_nil, or_false] at hm
                  rcases hm with rfl | rfl | rfl | rfl | rfl | rfl
                  · refine ⟨_, rfl, ?_⟩
                    rw [if_neg (by simp), eacc]
                    refine ⟨trivial, fun d2 D2 => ⟨len_line (by omega), 110, ee, _, D2, _, rfl, len_line' (by rw [List.length_map]; omega), good 10 rfl⟩⟩
                  · refine ⟨_, rfl, ?_⟩
                    rw [if_neg (by simp), eacc]
                    refine ⟨trivial, fun d2 D2 => ⟨len_line (by omega), 34, ee, _, D2, _, rfl, len_line' (by rw [List.length_map]; omega), good 34 rfl⟩⟩
                  · refine ⟨_, rfl, ?_⟩
                    rw [if_neg (by simp), eacc]
                    refine ⟨trivial, fun d2 D2 => ⟨len_line (by omega), 92, ee, _, D2, _, rfl, len_line' (by rw [List.length_map]; omega), good 92 rfl⟩⟩
                  · refine ⟨none, rfl, ?_⟩
                    rw [if_pos (by rfl)]
                    rw [none_ rfl] at k
                    exact Out.same k s02
                  · refine ⟨none, rfl, ?_⟩
                    rw [if_pos (by rfl)]
                    rw [none_ rfl] at k
                    exact Out.same k s02
                  · refine ⟨none, rfl, ?_⟩
                    rw [if_pos (by rfl)]
                    rw [none_ rfl] at k
                    exact Out.same k s02
                · rw [if_pos (by omega)]
                  have hdr : l.drop i = [92] := by rw [drop_at hd, List.drop_eq_nil_of_le (by omega)]
                  rw [hdr, quoL_92n] at hq
                  rcases hq with ⟨_, q⟩ | ⟨x, q, _⟩
                  · rw [q] at k
                    exact Out.same k s02
                  · cases q
              · rw [if_neg (fun z => h92 (by rw [nb92, S_one, one_ne] at z; exact z))]
                repeat (first | walk_at "oxs" | simp only [eacc])
                refine ⟨len_line (by omega), d, ed, len_line' (by rw [List.length_map]; omega), ?_⟩
                exact adv i d _ (Nat.le_refl _) hlt (kp.upd (by simp)) (by rw [upd_same, List.map_append]; rfl) (quoL_step (by omega) (by rw [drop_at hd, quoL_c _ h34 h10 h92, show i + 1 - i = 1 by omega]) hq)
        · rw [if_neg (by omega)]
          exact stopN (.inl (by omega))
    · cases h

def tvV : TV → V
  | .s z => .str z
  | .i n => .int n
  | .no => .non
def IsTok (H : Hp) (v : V) (t : CT) : Prop := ∃ a, v = .ref a ∧ H a = some (.tup [.str t.kind, .int (t.off : Nat), tvV t.v])
theorem IsTok.same {H H1 : Hp} {v : V} {t : CT} (h : IsTok H v t) (s : Same H H1) : IsTok H1 v t := h.imp fun _ z => ⟨z.1, s _ _ z.2⟩
def spTokAt (c : Cs) : Sp := fun vs H Q E => match vs with
  | [.str z, .int f] => ∃ n : Nat, f = (n : Nat) ∧ n < z.length ∧ z.length ≤ 100000 ∧ EscOK (L z) ∧ match tokL ((L z).drop n) with
    | .err m => OutC c H n m E
    | .tok k v m => ∀ p q H1, H p = none → H q = none → Same H H1 → H1 q = some (.tup [.str k, .int (n : Nat), tvV v]) → H1 p = some (.tup [.ref q, .int ((n + m : Nat) : Int)]) → Q (.ref p) H1
  | _ => False
theorem let_mem (d : Nat) : (d ∈ L "ABCDEFGHIJKLMNOPQRSTUVWXYZabcdefghijklmnopqrstuvwxyz_") ↔ isLet d = true := by
  have e : L "ABCDEFGHIJKLMNOPQRSTUVWXYZabcdefghijklmnopqrstuvwxyz_" = [65, 66, 67, 68, 69, 70, 71, 72, 73, 74, 75, 76, 77, 78, 79, 80, 81, 82, 83, 84, 85, 86, 87, 88, 89, 90, 97, 98, 99, 100, 101, 102, 103, 104, 105, 106, 107, 108, 109, 110, 111, 112, 113, 114, 115, 116, 117, 118, 119, 120, 121, 122, 95] := by decide +kernel
  rw [e]
  unfold isLet
  simp only [List.mem_cons, List.not_mem_nil, or_false, Bool.or_eq_true, Bool.and_eq_true, decide_eq_true_eq]
  omega
theorem dig_mem (d : Nat) : (d ∈ L "0123456789") ↔ isDig d = true := by
  have e : L "0123456789" = [48, 49, 50, 51, 52, 53, 54, 55, 56, 57] := by decide +kernel
  rw [e]
  unfold isDig
  simp only [List.mem_cons, List.not_mem_nil, or_false, Bool.and_eq_true, decide_eq_true_eq]
  omega
theorem let_mem' (d : Nat) : (d ∈ (Str.ofString "ABCDEFGHIJKLMNOPQRSTUVWXYZabcdefghijklmnopqrstuvwxyz_").cps.toList) ↔ isLet d = true := let_mem d
theorem dig_mem' (d : Nat) : (d ∈ (Str.ofString "0123456789").cps.toList) ↔ isDig d = true := dig_mem d
theorem run_let (l : List Nat) : runC (fun d => decide (d ∈ L "ABCDEFGHIJKLMNOPQRSTUVWXYZabcdefghijklmnopqrstuvwxyz_")) l = runC isLet l := by
  have : (fun d => decide (d ∈ L "ABCDEFGHIJKLMNOPQRSTUVWXYZabcdefghijklmnopqrstuvwxyz_")) = isLet := by
    funext d
    rw [Bool.eq_iff_iff, decide_eq_true_eq]
    exact let_mem d
  rw [this]
theorem run_dig (l : List Nat) : runC (fun d => decide (d ∈ L "0123456789")) l = runC isDig l := by
  have : (fun d => decide (d ∈ L "0123456789")) = isDig := by
    funext d
    rw [Bool.eq_iff_iff, decide_eq_true_eq]
    exact dig_mem d
  rw [this]
theorem cut_Sd (l : List Nat) {i m : Nat} (h2 : i + m ≤ l.length) : cutS (S l) (some (i : Int)) (some ((i + m : Nat) : Int)) = S ((l.drop i).take m) := by
  rw [cut_mid l (by omega) (by omega) (by omega)]
  rw [Int.toNat_natCast, Int.toNat_natCast, show i + m - i = m by omega]
theorem if_or {A B : Prop} [Decidable A] [Decidable B] {X Y : Prop} (h : if A ∨ B then X else Y) : if A then X else if B then X else Y := by
  by_cases a : A
  · rw [if_pos a]; rw [if_pos (.inl a)] at h; exact h
  · rw [if_neg a]
    by_cases b : B
    · rw [if_pos b]; rw [if_pos (.inr b)] at h; exact h
    · rw [if_neg b]; rw [if_neg (fun z => z.elim a b)] at h; exact h
theorem take_run (p : Nat → Bool) (cs : List Nat) : ∀ d ∈ cs.take (runC p cs), p d = true := by
  have e : cs.take (runC p cs) = cs.takeWhile p := (List.prefix_iff_eq_take.mp (List.takeWhile_prefix p)).symm
  rw [e]
  intro d h
  exact List.all_eq_true.mp (List.all_takeWhile) d h
set_option maxHeartbeats 4000000 in
theorem ok_tokat (A : At K mg "token_at" "token_at" s_token_at ["text", "at"]) (T : Txt K mg c) (H_run_of : Has P w K mg base CX0 "run_of" 1 ["text", "at", "allowed"] spRunOf) (H_read_quoted : Has P w K mg base (L2.CX P w) "read_quoted" 3 ["text", "first"] (spQuo c)) (H_number_of : Has P w K mg base CX0 "number_of" 1 ["digits"] spNumOf) (E_InvalidCode : HasE P w K mg base c.InvalidCode "InvalidCode" 2 (two "offset" "message")) : Has P w K mg base (L2.CX P w) "token_at" 4 ["text", "at"] (spTokAt c) := by
  have Sc := sc_token_at
  refine hasX_of A Sc (fun vs H Q E h => ?_) (fun cdv f A outer s H vs Q E hr h => ?_)
  · unfold spTokAt at h; split at h; rfl; cases h
  · unfold spTokAt at h
    split at h
    · rename_i z f0
      obtain ⟨n, rfl, hn, h2, hesc, k⟩ := h
      obtain ⟨l, rfl⟩ : ∃ l, z = S l := ⟨_, (S_L z).symm⟩
      rw [L_S] at k hesc
      rw [S_len] at hn h2
      obtain ⟨d, hd, ed⟩ := getI hn
      rw [drop_at hd, tokL_cons] at k
      rw [← drop_at hd] at k
      refine ⟨_, (pss_cons (ps_set (i := 2) Sc.nd rfl (.inl rfl) (pe_ix ix_fx (fe_var 0) (fe_var 1) (fun _ _ => rfl)))
      (pss_cons (ps_if (pt_cmpR op_fIn (fe_var 2) (fe_gstr (by rfl) T.g_LETTERS) (by with_unfolding_all rfl)) (pss_cons (ps_set (i := 3) Sc.nd rfl (.inl rfl) (fe_call H_run_of (hr.mono (by walk_at "rm")) (by rfl) pass0 (pa_cons (fe_var 0) (pa_cons (fe_var 1) (pa_cons (fe_gstr (by rfl) T.g_LETTERS) pa_nil)))))
      (pss_one (ps_ret (fe_tup (pa_cons (fe_tup (pa_cons pe_str (pa_cons (fe_var 1) (pa_cons (pe_slice sl_fx (fe_var 0) (po_some (fe_var 1)) (po_some (fe_var 3))) pa_nil)))) (pa_cons (fe_var 3) pa_nil)))))) pss_nil)
      (pss_cons (ps_if (pt_cmpR (op_fEq hr.units) (fe_var 2) pe_str (nomark _)) (pss_cons (ps_asg (fe_callX H_read_quoted (hr.mono (by walk_at "rm")) (by rfl) tk_of (pa_cons (fe_var 0) (pa_cons (fe_var 1) pa_nil))) (pg_tup (n := 2) rfl (pgs_cons (pg_name (i := 4) Sc.nd rfl (.inl rfl)) (pgs_cons (pg_name (i := 3) Sc.nd rfl (.inl rfl)) pgs_nil))))
      (pss_one (ps_ret (fe_tup (pa_cons (fe_tup (pa_cons pe_str (pa_cons (fe_var 1) (pa_cons (fe_var 4) pa_nil)))) (pa_cons (fe_var 3) pa_nil)))))) pss_nil)
      (pss_cons (ps_set (i := 5) Sc.nd rfl (.inl rfl) (pe_callTy call_fInt (by rfl) T.no_int (by decide +kernel) (pa_cons (pe_and (pe_cmpR (op_fEq hr.units) (fe_var 2) pe_str (nomark _)) (pe_and (pe_cmpR op_fLt (pe_op op_fAdd (fe_var 1) pe_int) (pe_callB call_fLen (by rfl) T.no_len (by decide +kernel) (pa_cons (fe_var 0) pa_nil)) (nomark _)) (pe_one (pe_cmpR op_fIn (pe_ix ix_fx (fe_var 0) (pe_op op_fAdd (fe_var 1) pe_int) (fun _ _ => rfl)) (fe_gstr (by rfl) T.g_DIGITS) (by with_unfolding_all rfl))))) pa_nil)))
      (pss_cons (ps_if (PW.pt (pw_or (pt_cmpR op_fIn (fe_var 2) (fe_gstr (by rfl) T.g_DIGITS) (by with_unfolding_all rfl)) (pw_or1 (pt_cmpR (op_fEq hr.units) (fe_var 5) pe_int (nomark _))))) (pss_cons (ps_set (i := 3) Sc.nd rfl (.inl rfl) (fe_call H_run_of (hr.mono (by walk_at "rm")) (by rfl) pass0 (pa_cons (fe_var 0) (pa_cons (pe_op op_fAdd (fe_var 1) (fe_var 5)) (pa_cons (fe_gstr (by rfl) T.g_DIGITS) pa_nil)))))
      (pss_cons (ps_set (i := 6) Sc.nd rfl (.inl rfl) (fe_call H_number_of (hr.mono (by walk_at "rm")) (by rfl) pass0 (pa_cons (pe_slice sl_fx (fe_var 0) (po_some (pe_op op_fAdd (fe_var 1) (fe_var 5))) (po_some (fe_var 3))) pa_nil)))
      (pss_cons (ps_if (PW.pt (pw_and (pt_cmpR op_fNotN (fe_var 6) pe_non (nomark _)) (pw_and1 (pt_cmpR (op_fEq hr.units) (fe_var 5) pe_int (nomark _))))) (pss_one (ps_set (i := 6) Sc.nd rfl (.inl rfl) (pe_un un_fNeg (fe_var 6)))) pss_nil)
      (pss_one (ps_ret (fe_tup (pa_cons (fe_tup (pa_cons pe_str (pa_cons (fe_var 1) (pa_cons (fe_var 6) pa_nil)))) (pa_cons (fe_var 3) pa_nil)))))))) pss_nil)
      (pss_cons (ps_if (pt_cmpR (op_fEq hr.units) (fe_var 2) pe_str (nomark _)) (pss_one (ps_ret (fe_tup (pa_cons (fe_tup (pa_cons pe_str (pa_cons (fe_var 1) (pa_cons pe_str pa_nil)))) (pa_cons (pe_op op_fAdd (fe_var 1) pe_int) pa_nil))))) pss_nil)
      (pss_one (fs_raise rfl tk_of E_InvalidCode (by decide) (hr.mono (by walk_at "rm")) (by rfl) (pa_cons (fe_var 1) (pa_cons pe_str pa_nil)))))))))), ?_⟩
      walk_at "fx0"
      simp only [tSeq]
      refine cut_ fun N hN => ?_
      repeat (walk_at "oxs")
      refine ⟨len_line (by omega), d, ed, hN _ _ ?_⟩
      clear hN N
      simp only [tSeq]
      refine cut_ fun N hN => ?_
      repeat (walk_at "oxs")
      have lL : L (S l) = l := rfl
      by_cases hl : isLet d = true
      · rw [if_pos hl] at k
        rw [if_pos ((let_mem' d).mpr hl)]
        have hrl := runC_le isLet (l.drop n)
        rw [List.length_drop] at hrl
        refine ⟨⟨by omega, by rw [S_len]; omega, by rw [S_len]; omega⟩, ?_⟩
        rw [lL, Int.toNat_natCast, run_let]
        refine ⟨_, rfl, len_line (by omega), fun q H1 nq s1 eq p H2 np s2 ep => ?_⟩
        rw [cut_Sd l (by omega)] at eq
        exact k p q H2 (s1.free np) nq (s1.trans s2) (s2 _ _ eq) ep
      rw [if_neg hl] at k
      rw [if_neg (fun z => hl ((let_mem' d).mp z))]
      refine hN _ _ ?_
      clear hN N
      simp only [tSeq]
      refine cut_ fun N hN => ?_
      repeat (walk_at "oxs")
      have nq34 : Str.ofString "\"" = S [34] := by decide +kernel
      by_cases h34 : d = 34
      · rw [if_pos h34] at k
        rw [if_pos (by rw [h34]; rfl)]
        refine ⟨n, rfl, by rw [S_len]; omega, by rw [S_len]; omega, hesc, ?_⟩
        rw [lL]
        cases e : quoL (l.drop (n + 1)) with
        | none =>
          rw [e] at k
          exact k
        | some x =>
          rw [e] at k
          dsimp only at k ⊢
          intro p H1 np s1 ep
          refine ⟨_, rfl, _, SqT.of ep, rfl, _, _, rfl, _, _, rfl, rfl, fun q H2 nq s2 eq p3 H3 np3 s3 ep3 => ?_⟩
          refine k p3 q H3 ((s1.trans s2).free np3) (s1.free nq) ((s1.trans s2).trans s3) (s3 _ _ eq) ?_
          rw [ep3, show n + (x.2 + 1) = n + 1 + x.2 by omega]
      rw [if_neg h34] at k
      rw [if_neg (fun z => h34 (by rw [nq34, S_one, one_ne] at z; exact z))]
      refine hN _ _ ?_
      clear hN N
      simp only [tSeq]
      refine cut_ fun N hN => ?_
      repeat (walk_at "oxs")
      have n45 : Str.ofString "-" = S [45] := by decide +kernel
      have fin : ∀ m : Nat, m = minusL (l.drop n) → N [some (.str (S l)), some (.int (n : Int)), some (.str ⟨#[d]⟩), none, none, some (.int (m : Nat)), none] H := fun m hm => by
        refine hN _ _ ?_
        clear hN N
        rw [← hm] at k
        simp only [tSeq]
        refine cut_ fun N hN => ?_
        repeat (walk_at "oxs")
        refine if_or ?_
        have hm1 : m ≤ 1 := by
          rw [hm]
          unfold minusL
          split
          · split <;> decide
          · decide
        have hml := minus_le (l.drop n)
        rw [← hm, List.length_drop] at hml
        by_cases q : isDig d = true ∨ m = 1
        · rw [if_pos q] at k
          rw [if_pos (q.imp (fun z => (dig_mem' d).mpr z) fun z => by omega)]
          have enm : (n : Int) + (m : Nat) = ((n + m : Nat) : Int) := by omega
          rw [enm]
          refine ⟨⟨by omega, by rw [S_len]; omega, by rw [S_len]; omega⟩, ?_⟩
          rw [lL, Int.toNat_natCast, run_dig]
          rw [List.drop_drop] at k
          have hr := runC_le isDig (l.drop (n + m))
          rw [List.length_drop] at hr
          have ht := take_run isDig (l.drop (n + m))
          generalize runC isDig (l.drop (n + m)) = r at k hr ht
          refine ⟨_, rfl, len_line (by omega), ?_⟩
          rw [cut_Sd l (by omega)]
          refine ⟨by rw [S_len, List.length_take, List.length_drop]; omega, ht, ?_⟩
          rw [show L (S ((l.drop (n + m)).take r)) = (l.drop (n + m)).take r from rfl]
          unfold numT at k
          cases ev : numV ((l.drop (n + m)).take r) with
          | none =>
            rw [ev] at k
            repeat (walk_at "oxs")
            intro q1 H1 nq1 s1 eq1 p2 H2 np2 s2 ep2
            refine k p2 q1 H2 (s1.free np2) nq1 (s1.trans s2) (s2 _ _ eq1) ?_
            rw [ep2, Nat.add_assoc]
          | some kk =>
            rw [ev] at k
            dsimp only at k
            repeat (walk_at "oxs")
            by_cases z : m = 1
            · rw [if_pos (by omega)]
              rw [if_pos z] at k
              intro q1 H1 nq1 s1 eq1 p2 H2 np2 s2 ep2
              refine k p2 q1 H2 (s1.free np2) nq1 (s1.trans s2) (s2 _ _ eq1) ?_
              rw [ep2, Nat.add_assoc]
            · rw [if_neg (by omega)]
              rw [if_neg z] at k
              intro q1 H1 nq1 s1 eq1 p2 H2 np2 s2 ep2
              refine k p2 q1 H2 (s1.free np2) nq1 (s1.trans s2) (s2 _ _ eq1) ?_
              rw [ep2, Nat.add_assoc]
        · rw [if_neg q] at k
          rw [if_neg (fun z => q (z.imp (fun z => (dig_mem' d).mp z) fun z => by omega))]
          refine hN _ _ ?_
          clear hN N
          repeat (walk_at "oxs")
          have n58 : Str.ofString ":" = S [58] := by decide +kernel
          by_cases h58 : d = 58
          · rw [if_pos h58] at k
            rw [if_pos (by rw [h58]; rfl)]
            intro q1 H1 nq1 s1 eq1 p2 H2 np2 s2 ep2
            exact k p2 q1 H2 (s1.free np2) nq1 (s1.trans s2) (s2 _ _ eq1) ep2
          · rw [if_neg h58] at k
            rw [if_neg (fun z => h58 (by rw [n58, S_one, one_ne] at z; exact z))]
            exact k
      by_cases h45 : d = 45
      · rw [if_pos (by rw [h45]; rfl)]
        refine ⟨len_line (by omega), ?_⟩
        by_cases h1 : n + 1 < l.length
        · obtain ⟨e, he, ee⟩ := getI h1
          have ee : atI l ((n : Int) + 1) = some e := by
            have z : ((n + 1 : Nat) : Int) = (n : Int) + 1 := by omega
            rw [z] at ee; exact ee
          rw [if_pos (by omega)]
          refine ⟨len_line (by omega), e, ee, ?_⟩
          have hml : minusL (l.drop n) = if isDig e = true then 1 else 0 := by
            rw [drop_at hd, drop_at he]
            show (if d = 45 ∧ isDig e = true then 1 else 0) = _
            by_cases z : isDig e = true
            · rw [if_pos ⟨h45, z⟩, if_pos z]
            · rw [if_neg (fun q => z q.2), if_neg z]
          by_cases z : isDig e = true
          · rw [if_pos ((dig_mem' e).mpr z)]
            exact fin 1 (by rw [hml, if_pos z])
          · rw [if_neg (fun q => z ((dig_mem' e).mp q))]
            exact fin 0 (by rw [hml, if_neg z])
        · rw [if_neg (by omega)]
          refine fin 0 ?_
          rw [drop_at hd, List.drop_eq_nil_of_le (by omega)]
          rfl
      · rw [if_neg (fun z => h45 (by rw [n45, S_one, one_ne] at z; exact z))]
        refine fin 0 ?_
        rw [drop_at hd]
        unfold minusL
        split
        · rename_i c1 d1 r1 e1
          rw [if_neg (fun q => h45 (by rw [(List.cons.inj e1).1]; exact q.1))]
        · rfl
    · cases h

/-- a line: a list made since H0, none of the two at la, ra -/
def LineF (H0 : Hp) (xs : List Addr) (H : Hp) (v : V) (ts : List CT) : Prop := ∃ a vs, v = .ref a ∧ H0 a = none ∧ a ∉ xs ∧ H a = some (.lst vs) ∧ Paired (IsTok H) vs ts
theorem toks_keep {H H1 : Hp} {xs : List Addr} {vs : List V} {ts : List CT} (h : Paired (IsTok H) vs ts) (k : Keep xs H H1) (n : ∀ q ∈ xs, ∀ ys, H q ≠ some (.tup ys)) : Paired (IsTok H1) vs ts :=
  Paired.mapP h fun v t z => z.imp fun a q => ⟨q.1, k _ _ (fun m => n a m _ q.2) q.2⟩
theorem LineF.keep {H0 H H1 : Hp} {xs ys zs : List Addr} {v : V} {ts : List CT} (h : LineF H0 xs H v ts) (k : Keep ys H H1) (hs : ∀ q ∈ ys, q ∈ xs) (n : ∀ q ∈ ys, ∀ us, H q ≠ some (.tup us)) (hz : ∀ a, H0 a = none → a ∉ xs → (∃ o, H a = some o) → a ∉ zs) : LineF H0 zs H1 v ts := by
  obtain ⟨a, vs, rfl, h0, hx, ha, ht⟩ := h
  exact ⟨a, vs, rfl, h0, hz a h0 hx ⟨_, ha⟩, k _ _ (fun m => hx (hs a m)) ha, toks_keep ht k n⟩
def spLines (c : Cs) : Sp := fun vs H Q E => match vs with
  | [.str z] => z.length ≤ 100000 ∧ EscOK (L z) ∧ match lin 0 (L z) [] [] with
    | .err o m => OutC c H o m E
    | .ok ls => ∀ p us H1, H p = none → Same H H1 → H1 p = some (.lst us) → Paired (LineF H [p] H1) us (ls.filter fun l => !l.isEmpty) → Q (.ref p) H1
  | _ => False
structure LnI (H0 : Hp) (l : List Nat) (la ra : Addr) (i : Nat) (row : List CT) (acc : List (List CT)) (H : Hp) : Prop where
  sm : Same H0 H
  nl : H0 la = none
  nr : H0 ra = none
  ne : la ≠ ra
  hl : ∃ avs, H la = some (.lst avs) ∧ Paired (LineF H0 [la, ra] H) avs acc
  hr : ∃ rvs, H ra = some (.lst rvs) ∧ Paired (IsTok H) rvs row
  le : i ≤ l.length
  q : lin i (l.drop i) row acc = lin 0 l [] []
  la : acc.length ≤ i
  lr : row.length ≤ i
theorem LnI.two {H0 H : Hp} {l : List Nat} {la ra : Addr} {i : Nat} {row : List CT} {acc : List (List CT)} (I : LnI H0 l la ra i row acc H) : ∀ q ∈ [la, ra], ∀ us, H q ≠ some (.tup us) := fun q m us e => by
  obtain ⟨_, e1, _⟩ := I.hl
  obtain ⟨_, e2, _⟩ := I.hr
  simp only [List.mem_cons, List.not_mem_nil, or_false] at m
  rcases m with rfl | rfl
  · rw [e] at e1; cases e1
  · rw [e] at e2; cases e2
def LnW (H0 : Hp) (l : List Nat) (la : Addr) (m : Nat) (σ : L2.St) (H : Hp) : Prop := ∃ (i : Nat) (ra : Addr) (row : List CT) (acc : List (List CT)) (v4 v5 v6 : Option V), σ = [some (.str (S l)), some (.ref la), some (.ref ra), some (.int (i : Int)), v4, v5, v6] ∧ m = l.length - i ∧ LnI H0 l la ra i row acc H
set_option maxHeartbeats 4000000 in
theorem ok_lines (A : At K mg "lines_of" "lines_of" s_lines_of ["text"]) (T : Txt K mg c) (H_token_at : Has P w K mg base (L2.CX P w) "token_at" 4 ["text", "at"] (spTokAt c)) : Has P w K mg base (L2.CX P w) "lines_of" 5 ["text"] (spLines c) := by
  have Sc := sc_lines_of
  refine hasX_of A Sc (fun vs H Q E h => ?_) (fun cdv f A outer s H vs Q E hr h => ?_)
  · unfold spLines at h; split at h; rfl; cases h
  · unfold spLines at h
    split at h
    · rename_i z
      obtain ⟨h2, hesc, k⟩ := h
      obtain ⟨l, rfl⟩ : ∃ l, z = S l := ⟨_, (S_L z).symm⟩
      rw [L_S] at k hesc
      rw [S_len] at h2
      refine ⟨_, (pss_cons (ps_set (i := 1) Sc.nd rfl (.inl rfl) (fe_lst pa_nil))
      (pss_cons (ps_set (i := 2) Sc.nd rfl (.inl rfl) (fe_lst pa_nil))
      (pss_cons (ps_set (i := 3) Sc.nd rfl (.inl rfl) pe_int)
      (pss_cons (ps_while (passes_of rfl) (pt_cmpR op_fLt (fe_var 3) (pe_callB call_fLen (by rfl) T.no_len (by decide +kernel) (pa_cons (fe_var 0) pa_nil)) (nomark _)) (pss_cons (ps_set (i := 4) Sc.nd rfl (.inl rfl) (pe_ix ix_fx (fe_var 0) (fe_var 3) (fun _ _ => rfl)))
      (pss_one (ps_if (pt_cmpR (op_fEq hr.units) (fe_var 4) pe_str (nomark _)) (pss_cons (ps_expr (fe_bm PySem.F.plainAttrs_list PySem.F.slot_list_append PySem.F.type_list_append isLst_ty mt_fAppend (fe_var 1) (pa_cons (fe_var 2) pa_nil)))
      (pss_cons (ps_set (i := 2) Sc.nd rfl (.inl rfl) (fe_lst pa_nil))
      (pss_one (ps_aug (i := 3) Sc.nd rfl (.inl rfl) pe_int ip_fAdd)))) (pss_one (ps_if (pt_cmpR (op_fEq hr.units) (fe_var 4) pe_str (nomark _)) (pss_one (ps_aug (i := 3) Sc.nd rfl (.inl rfl) pe_int ip_fAdd)) (pss_one (ps_if (pt_cmpR (op_fEq hr.units) (fe_var 4) pe_str (nomark _)) (pss_one (ps_while (passes_of rfl) (PW.pt (pw_and (pt_cmpR op_fLt (fe_var 3) (pe_callB call_fLen (by rfl) T.no_len (by decide +kernel) (pa_cons (fe_var 0) pa_nil)) (nomark _)) (pw_and1 (pt_cmpR (op_fNe hr.units) (pe_ix ix_fx (fe_var 0) (fe_var 3) (fun _ _ => rfl)) pe_str (nomark _))))) (pss_one (ps_aug (i := 3) Sc.nd rfl (.inl rfl) pe_int ip_fAdd)))) (pss_cons (ps_asg (fe_callX H_token_at (hr.mono (by walk_at "rm")) (by rfl) tk_of (pa_cons (fe_var 0) (pa_cons (fe_var 3) pa_nil))) (pg_tup (n := 2) rfl (pgs_cons (pg_name (i := 5) Sc.nd rfl (.inl rfl)) (pgs_cons (pg_name (i := 3) Sc.nd rfl (.inl rfl)) pgs_nil))))
      (pss_one (ps_expr (fe_bm PySem.F.plainAttrs_list PySem.F.slot_list_append PySem.F.type_list_append isLst_ty mt_fAppend (fe_var 2) (pa_cons (fe_var 5) pa_nil)))))))))))))
      (pss_cons (ps_expr (fe_bm PySem.F.plainAttrs_list PySem.F.slot_list_append PySem.F.type_list_append isLst_ty mt_fAppend (fe_var 1) (pa_cons (fe_var 2) pa_nil)))
      (pss_one (ps_ret (pe_lc (own := [("line", 6)]) (by rfl) Sc.nd (pi_list (fe_var 1)) (blkOk_by (own := [("line", 6)]) (N := ["text", "lines", "row", "at", "char", "token", "line"]) (sc := defScope s_lines_of) (by decide +kernel)) (fun _ _ _ _ _ => (pg_name (i := 6) Sc.nd rfl (.inl rfl))) (fun _ _ _ _ _ => (pts_one (pt_fTruK (K := K) rfl (fe_var 6) (fun _ => rfl)))) (fun _ _ _ _ _ => (fe_var 6)))))))))), ?_⟩
      walk_at "fx0"
      walk_at "ox"
      intro la H1 nla s1 ela ra H2 nra s2 era
      refine cut_ fun N hN => ?_
      have nl10 : Str.ofString "\n" = S [10] := by decide +kernel
      have n32 : Str.ofString " " = S [32] := by decide +kernel
      have n59 : Str.ofString ";" = S [59] := by decide +kernel
      refine ⟨LnW H l la, ⟨_, 0, ra, [], [], _, _, _, rfl, rfl, ⟨s1.trans s2, nla, s1.free nra, fun z => (by rw [← z, ela] at nra; cases nra), ⟨_, s2 _ _ ela, .nil⟩, ⟨_, era, .nil⟩, Nat.zero_le _, by rw [List.drop_zero], Nat.le_refl _, Nat.le_refl _⟩⟩, ?_⟩
      rintro m σ H' ⟨i, ra, row, acc, v4, v5, v6, rfl, rfl, I⟩
      obtain ⟨avs, ela, hav⟩ := id I.hl
      obtain ⟨rvs, era, hrv⟩ := id I.hr
      have lav : avs.length = acc.length := Paired.length hav
      have lrv : rvs.length = row.length := Paired.length hrv
      have two := I.two
      have hle := I.le
      walk_at "ox"
      refine ⟨len_line (by omega), ?_⟩
      by_cases hlt : i < l.length
      · obtain ⟨d, hd, ed⟩ := getI hlt
        rw [if_pos (by omega)]
        refine ⟨_, fun _ _ h => h, len_line (by omega), d, ed, ?_⟩
        have Iq := I.q
        rw [drop_at hd] at Iq
        by_cases h10 : d = 10
        · subst h10
          rw [lin_nl] at Iq
          repeat (first | walk_at "oxs" | simp only [ela])
          rw [if_pos (by rfl)]
          refine ⟨len_line (by have := I.la; omega), fun p H3 np s3 ep => ?_⟩
          have k3 : Keep [la] H' (upd H' la (.lst (avs ++ [.ref ra]))) := Keep.refl.upd (by simp)
          have sm3 : Same H (upd H' la (.lst (avs ++ [.ref ra]))) := mk_same I.sm I.nl
          have n1 : ∀ q ∈ [la], ∀ us, H' q ≠ some (.tup us) := fun q m => two q (by simp at m; simp [m])
          have nlp : la ≠ p := fun z => by rw [← z, upd_same] at np; cases np
          have fr : ∀ {a : Addr}, (∃ o, H' a = some o) → a ≠ p := fun {a} ⟨o, eo⟩ z => by
            by_cases q : a = la
            · exact nlp (q.symm.trans z)
            · rw [← z, upd_ne q, eo] at np; cases np
          refine ⟨_, by omega, i + 1, p, [], acc ++ [row], _, _, _, rfl, rfl, ⟨sm3.trans s3, I.nl, sm3.free np, nlp, ⟨_, s3 _ _ upd_same, ?_⟩, ⟨_, ep, .nil⟩, by omega, Iq, by rw [List.length_append]; exact Nat.add_le_add_right I.la 1, Nat.zero_le _⟩⟩
          refine Paired.snoc (Paired.mapP hav fun v ts z => ?_) ?_
          · obtain ⟨a, us, e1, e2, e3, e4, e5⟩ := z.keep k3 (fun q m => by simp at m; simp [m]) n1 (zs := [la, p]) fun a _ hx ho => by
              simp only [List.mem_cons, List.not_mem_nil, or_false, not_or] at hx ⊢
              exact ⟨hx.1, fr ho⟩
            exact ⟨a, us, e1, e2, e3, s3 _ _ e4, Paired.mapP e5 fun _ _ z => z.same s3⟩
          · refine ⟨ra, rvs, rfl, I.nr, ?_, s3 _ _ (by rw [upd_ne (Ne.symm I.ne)]; exact era), ?_⟩
            · simp only [List.mem_cons, List.not_mem_nil, or_false, not_or]
              exact ⟨Ne.symm I.ne, fr ⟨_, era⟩⟩
            · exact Paired.mapP (toks_keep hrv k3 n1) fun _ _ z => z.same s3
        by_cases h32 : d = 32
        · subst h32
          rw [lin_sp] at Iq
          repeat (first | walk_at "oxs" | simp only [ela])
          rw [if_neg (by decide), if_pos (by rfl)]
          exact ⟨_, by omega, i + 1, ra, row, acc, _, _, _, rfl, rfl, ⟨I.sm, I.nl, I.nr, I.ne, I.hl, I.hr, by omega, Iq, Nat.le_succ_of_le I.la, Nat.le_succ_of_le I.lr⟩⟩
        by_cases h59 : d = 59
        · subst h59
          rw [lin_com, ← drop_at hd] at Iq
          repeat (first | walk_at "oxs" | simp only [ela])
          rw [if_neg (by decide), if_neg (by decide), if_pos (by rfl)]
          have hrp := runC_pos (p := isCom) (c := 59) (r := l.drop (i + 1)) (by rfl)
          rw [← drop_at hd] at hrp
          have hrl := runC_le isCom (l.drop i)
          rw [List.length_drop] at hrl
          rw [List.drop_drop] at Iq
          refine ⟨fun m σ H'' => H'' = H' ∧ ∃ j : Nat, σ = [some (.str (S l)), some (.ref la), some (.ref ra), some (.int (j : Int)), some (.str ⟨#[59]⟩), v5, v6] ∧ i ≤ j ∧ j ≤ l.length ∧ m = l.length - j ∧ j + runC isCom (l.drop j) = i + runC isCom (l.drop i), ⟨_, rfl, i, rfl, Nat.le_refl _, by omega, rfl, rfl⟩, ?_⟩
          rintro m2 σ H'' ⟨rfl, j, rfl, hij, hj, rfl, ej⟩
          have out : runC isCom (l.drop j) = 0 → ∃ m', m' < l.length - i ∧ LnW H l la m' [some (.str (S l)), some (.ref la), some (.ref ra), some (.int (j : Int)), some (.str ⟨#[59]⟩), v5, v6] H'' := fun z => by
            have e9 : i + runC isCom (l.drop i) = j := by omega
            rw [e9] at Iq
            exact ⟨_, by omega, j, ra, row, acc, _, _, _, rfl, rfl, ⟨I.sm, I.nl, I.nr, I.ne, I.hl, I.hr, hj, Iq, by have := I.la; omega, by have := I.lr; omega⟩⟩
          walk_at "ox"
          refine ⟨len_line (by omega), ?_⟩
          by_cases hlj : j < l.length
          · obtain ⟨e, he, ee⟩ := getI hlj
            rw [if_pos (by omega)]
            refine ⟨len_line (by omega), e, ee, ?_⟩
            by_cases h : e = 10
            · rw [if_neg (fun z => z (by rw [h]; rfl))]
              refine out ?_
              rw [drop_at he, h]
              rfl
            · rw [if_pos (fun z => h (by rw [nl10, S_one, one_ne] at z; exact z))]
              refine ⟨_, fun _ _ h => h, ?_⟩
              refine ⟨l.length - (j + 1), by omega, rfl, j + 1, rfl, by omega, by omega, rfl, ?_⟩
              rw [← ej, drop_at he]
              unfold runC
              rw [List.takeWhile_cons, if_pos (by unfold isCom; simpa using h), List.length_cons]
              omega
          · rw [if_neg (by omega)]
            refine out ?_
            rw [List.drop_eq_nil_of_le (by omega)]
            rfl
        rw [lin_tok h10 h32 h59, ← drop_at hd] at Iq
        repeat (first | walk_at "oxs" | simp only [ela])
        rw [if_neg (fun z => h10 (by rw [nl10, S_one, one_ne] at z; exact z)), if_neg (fun z => h32 (by rw [n32, S_one, one_ne] at z; exact z)), if_neg (fun z => h59 (by rw [n59, S_one, one_ne] at z; exact z))]
        refine ⟨i, rfl, by rw [S_len]; exact hlt, by rw [S_len]; exact h2, hesc, ?_⟩
        rw [show L (S l) = l from rfl]
        cases e : tokL (l.drop i) with
        | err m =>
          rw [e] at Iq
          rw [← Iq] at k
          exact Out.same k I.sm
        | tok kk v n =>
          rw [e] at Iq
          dsimp only at Iq ⊢
          have hn := tokL_pos (c := d) (r := l.drop (i + 1)) (by rw [← drop_at hd]; exact e)
          rw [← drop_at hd, List.length_drop] at hn
          intro p q H1 np nq s1 eq ep
          refine ⟨_, rfl, _, SqT.of ep, rfl, _, _, rfl, _, _, rfl, rfl, ?_⟩
          have era1 := s1 _ _ era
          have ela1 := s1 _ _ ela
          simp only [era1]
          have k3 : Keep [ra] H1 (upd H1 ra (.lst (rvs ++ [.ref q]))) := Keep.refl.upd (by simp)
          have sm3 : Same H (upd H1 ra (.lst (rvs ++ [.ref q]))) := mk_same (I.sm.trans s1) I.nr
          have n1 : ∀ q ∈ [ra], ∀ us, H1 q ≠ some (.tup us) := fun q m us z => by
            rw [List.mem_singleton.mp m, era1] at z; cases z
          rw [List.drop_drop] at Iq
          refine ⟨trivial, len_line (by have := I.lr; omega), _, by omega, i + n, ra, row ++ [⟨kk, i, v⟩], acc, _, _, _, rfl, rfl, ⟨sm3, I.nl, I.nr, I.ne, ⟨avs, by rw [upd_ne I.ne]; exact ela1, ?_⟩, ⟨_, upd_same, ?_⟩, by omega, Iq, by have := I.la; omega, by rw [List.length_append, List.length_singleton]; have := I.lr; omega⟩⟩
          · refine Paired.mapP hav fun v ts z => ?_
            obtain ⟨a, us, e1, e2, e3, e4, e5⟩ := z
            refine ⟨a, us, e1, e2, e3, k3 _ _ (fun m => e3 (by simp at m; simp [m])) (s1 _ _ e4), toks_keep (Paired.mapP e5 fun _ _ z => z.same s1) k3 n1⟩
          · refine Paired.snoc (toks_keep (Paired.mapP hrv fun _ _ z => z.same s1) k3 n1) ⟨q, rfl, ?_⟩
            rw [upd_ne (fun z => by rw [z, era1] at eq; cases eq)]
            exact eq
      · rw [if_neg (by omega)]
        refine hN _ _ ?_
        clear hN N
        have Iq := I.q
        rw [List.drop_eq_nil_of_le (by omega), lin_nil] at Iq
        rw [← Iq] at k
        dsimp only at k
        simp only [tSeq]
        refine cut_ fun N hN => ?_
        repeat (first | walk_at "oxs" | simp only [ela])
        refine ⟨by rw [sizeLine_eq]; have := I.la; omega, hN _ _ ?_⟩
        clear hN N
        have k3 : Keep [la] H' (upd H' la (.lst (avs ++ [.ref ra]))) := Keep.refl.upd (by simp)
        have sm3 : Same H (upd H' la (.lst (avs ++ [.ref ra]))) := mk_same I.sm I.nl
        have n1 : ∀ q ∈ [la], ∀ us, H' q ≠ some (.tup us) := fun q m => two q (by simp at m; simp [m])
        have ela3 : (upd H' la (.lst (avs ++ [.ref ra]))) la = some (.lst (avs ++ [.ref ra])) := upd_same
        have hall : Paired (LineF H [la] (upd H' la (.lst (avs ++ [.ref ra])))) (avs ++ [.ref ra]) (acc ++ [row]) := by
          refine Paired.snoc (Paired.mapP hav fun v ts z => ?_) ?_
          · exact z.keep k3 (fun q m => by simp at m; simp [m]) n1 fun a _ hx _ => by
              simp only [List.mem_cons, List.not_mem_nil, or_false, not_or] at hx ⊢
              exact hx.1
          · exact ⟨ra, rvs, rfl, I.nr, by simpa using Ne.symm I.ne, by rw [upd_ne (Ne.symm I.ne)]; exact era, toks_keep hrv k3 n1⟩
        have lall : (avs ++ [V.ref ra]).length ≤ 100001 := by rw [List.length_append, List.length_singleton]; have := I.la; omega
        generalize upd H' la (.lst (avs ++ [.ref ra])) = Hb at k3 sm3 ela3 hall
        generalize avs ++ [V.ref ra] = ws at ela3 hall lall
        generalize acc ++ [row] = ls at k hall
        walk_at "ox"
        refine lc_ ?_
        walk_at "ox"
        refine ⟨⟨_, .inl (.inl ela3)⟩, fun D nD => ?_⟩
        refine lcx_list (fun i H3 => Same Hb H3 ∧ ∃ us, H3 D = some (.lst us) ∧ us.length ≤ i ∧ Paired (LineF H [D] H3) us ((ls.take i).filter fun l => !l.isEmpty)) ⟨same_new nD, [], upd_same, Nat.le_refl _, .nil⟩ (fun i H3 _ ⟨s3, _⟩ => .inl (.inl (s3 _ _ ela3))) ?_ ?_
        · rintro i x H3 hx ⟨s3, us, eus, lus, hus⟩
          obtain ⟨ts, ets, hts⟩ := paired_get hall hx
          obtain ⟨a, vs, rfl, ha0, hax, ha, htk⟩ := hts
          have hi := (List.getElem?_eq_some_iff.mp hx).1
          walk_at "ox"
          refine ⟨_, rl_l (s3 _ _ ha), ?_⟩
          have hlen : vs.length = ts.length := Paired.length htk
          have hemp : vs.isEmpty = ts.isEmpty := by
            cases vs <;> cases ts <;> first | rfl | (simp at hlen)
          have hsm : Same Hb (upd H3 D (.lst (us ++ [.ref a]))) := mk_same s3 nD
          have kD : Keep [D] H3 (upd H3 D (.lst (us ++ [.ref a]))) := Keep.refl.upd (by simp)
          have nt : ∀ q ∈ [D], ∀ ys, H3 q ≠ some (.tup ys) := fun q m ys z => by rw [List.mem_singleton.mp m, eus] at z; cases z
          have haD : a ≠ D := fun z => by rw [z, nD] at ha; cases ha
          rw [hemp]
          cases e : ts.isEmpty with
          | true =>
            rw [if_neg (by simp)]
            refine ⟨s3, us, eus, Nat.le_succ_of_le lus, ?_⟩
            rw [take_get ets, List.filter_append]
            have : [ts].filter (fun l => !l.isEmpty) = [] := by rw [List.filter_cons, e]; rfl
            rw [this, List.append_nil]
            exact hus
          | false =>
            rw [if_pos (by simp)]
            refine ⟨us, eus, by rw [sizeLine_eq]; omega, hsm, us ++ [.ref a], by first | rfl | exact upd_same, by rw [List.length_append, List.length_singleton]; omega, ?_⟩
            rw [take_get ets, List.filter_append]
            have : [ts].filter (fun l => !l.isEmpty) = [ts] := by rw [List.filter_cons, e]; rfl
            rw [this]
            refine Paired.snoc (Paired.mapP hus fun v u z => ?_) ?_
            · exact z.keep kD (fun q m => m) nt fun a' _ hx' _ => hx'
            · exact ⟨a, vs, rfl, ha0, by simpa using haD, hsm _ _ ha, Paired.mapP htk fun _ _ z => z.same hsm⟩
        · rintro H3 ⟨s3, us, eus, lus, hus⟩
          have hle : ws.length = ls.length := Paired.length hall
          rw [hle, List.take_length] at hus
          exact k D us H3 (sm3.free nD) (sm3.trans s3) eus hus
    · cases h
end

abbrev knownW : List Str := Cd.kw36
theorem known_lookup : ∀ z ∈ knownW, ([("const", some [.str "value"]), ("pop", some []), ("add", some [.str "number"]), ("call", some [.str "number", .str "number"]), ("field", some [.str "text", .str "number"]), ("ret", some []), ("escape", some [.str "number", .str "number", .str "number"]), ("load", some [.str "number"]), ("pops", none), ("function", none), ("Const", none), ("set", none)] : List (Str × Option (List V))).lookup z = some ((Cd.opsT.lookup z).map fun ks => ks.map V.str) := by decide +kernel
theorem known_len : ∀ z ∈ knownW, ((Cd.opsT.lookup z).getD []).length ≤ 3 := by decide +kernel
section
variable {X : Cx}
def fNotInDT (K : PySem.W.Frag) (w : World) : R2 := fun x y H Q => match x, y with
  | .str z, .ref d => ∃ ks o, DTAt K w d ks ∧ ks.lookup z = some o ∧ Q (.bl (!o.isSome)) H
  | _, _ => False
theorem op_fNotInDT : OpR X (compareOp .NotIn) (fNotInDT X.K X.w) := by
  intro pins s σ H x y v u Q I rx ry h
  match x, y, rx, ry, h with
  | .str z, .ref d, rx, ry, ⟨ks, o, D, e, q⟩ =>
    obtain ⟨es, n, kd⟩ := D.ex
    have en := entt_at D.en e
    cases o with
    | none => exact op_notIn_kd kd pins s σ H _ _ v u Q I rx ry ⟨z, none, rfl, rfl, en, q⟩
    | some xs =>
      obtain ⟨a, e0, _⟩ := en
      exact op_notIn_kd kd pins s σ H _ _ _ u Q I rx ry ⟨z, some (.ref a), rfl, rfl, e0, q⟩
end
section
variable {P : Program} {w : World} {K : PySem.W.Frag} {mg : Str → Option Value} {base : Heap} {c : Cs}
open Cd
/-! ### chunks -/
def spMkChunk (K : PySem.W.Frag) (c : Cs) : Sp := fun vs H Q _ => match vs with
  | [v1, v2, .ref r] => ∃ rs, Rl K H r rs ∧ ∀ y dx p q H1, H y = none → Same H H1 → H1 y = some (.ins c.Chunk dx [("number", v1), ("wanted", v2), ("rows", .ref p), ("scopes", .ref q)]) → H p = none → H1 p = some (.lst rs) → H q = none → H1 q = some (.lst []) → p ≠ y → q ≠ y → q ≠ p → Q (.ref y) H1
  | _ => False
theorem mk_Chunk (A : AtD K c.Chunk "__init__" "Chunk.__init__" s_Chunk___init__ ["self", "number", "wanted", "rows", "scopes"]) (T : Txt K mg c) : HasCD P w K mg base CX0 c.Chunk "Chunk" 1 ["self", "number", "wanted", "rows", "scopes"] (spMkChunk K c) := by
  have Sc := sc_Chunk___init__
  refine hasCD_of T.mk_Chunk A Sc (fun vs H Q E h => ?_) (fun cdv A outer s f H vs Q E y dx e H0 hr h hy hs h0 hE => ?_)
  · unfold spMkChunk at h; split at h; rfl; cases h
  · unfold spMkChunk at h
    split at h
    · rename_i v1 v2 r
      obtain ⟨rs, hrs, h⟩ := h
      refine ⟨_, (pss_cons (fs_fld (fe_var 0) (fe_var 1) T.pl_number rfl)
      (pss_cons (fs_fld (fe_var 0) (fe_var 2) T.pl_wanted rfl)
      (pss_cons (fs_fld (fe_var 0) (pe_callTy call_fListOf (by rfl) T.no_list (by decide +kernel) (pa_cons (fe_var 3) pa_nil)) T.pl_rows rfl)
      (pss_one (fs_fld (fe_var 0) (pe_callTy call_fListOf (by rfl) T.no_list (by decide +kernel) (pa_cons (fe_var 4) pa_nil)) T.pl_scopes rfl))))), ?_⟩
      walk_at "fx0"
      repeat (first | walk_at "oxs" | simp only [h0])
      refine ⟨rs, rl_keep (mk_same hs hy) hrs, fun p H1 np sp ep => ?_⟩
      have ey1 := sp _ _ upd_same
      have npy : p ≠ y := fun z => by rw [z, upd_same] at np; cases np
      have np0 : H p = none := (mk_same hs hy).free np
      have sm1 : Same H H1 := (mk_same hs hy).trans sp
      repeat (first | walk_at "oxs" | simp only [ey1])
      refine ⟨[], .inr (hE _), fun q H2 nq s2 eq => ?_⟩
      have sm2 : ∀ o, Same H (upd H1 y o) := fun o => mk_same sm1 hy
      have ey2 := s2 _ _ upd_same
      have nqy : q ≠ y := fun z => by rw [z, upd_same] at nq; cases nq
      have ep1 : ∀ o, upd H1 y o p = some (.lst rs) := fun o => by rw [upd_ne npy]; exact ep
      have nqp : q ≠ p := fun z => by rw [z, ep1] at nq; cases nq
      repeat (first | walk_at "oxs" | simp only [ey2])
      refine h y dx p q _ hy (mk_same ((sm2 _).trans s2) hy) upd_same np0 ?_ ((sm2 _).free nq) ?_ npy nqy nqp
      · rw [upd_ne npy]; exact s2 _ _ (ep1 _)
      · rw [upd_ne nqy]; exact eq
    · cases h

/-! ### tokens read -/
def spPlainT (c : Cs) : Sp := fun vs H Q _ => match vs with
  | [v] => ∃ t, IsTok H v t ∧ WfT t ∧ Q (.bl (plainT t)) H
  | _ => False
theorem ok_isplain (A : At K mg "is_plain" "is_plain" s_is_plain ["token"]) (T : Txt K mg c) : Has P w K mg base CX0 "is_plain" 1 ["token"] (spPlainT c) := by
  have Sc := sc_is_plain
  refine has_of A Sc (fun vs H Q E h => ?_) (fun cdv f A outer s H vs Q E hr h => ?_)
  · unfold spPlainT at h; split at h; rfl; cases h
  · unfold spPlainT at h
    split at h
    · rename_i v
      obtain ⟨⟨kd, o, tv⟩, ⟨a, rfl, ea⟩, wf, h⟩ := h
      refine ⟨_, (pss_one (ps_ret (pe_and (pe_cmpR (op_fEq hr.units) (pe_ix ix_fx (fe_var 0) pe_int (fun _ _ => rfl)) pe_str (nomark _)) (pe_and (pe_cmpR op_fNotN (pe_ix ix_fx (fe_var 0) pe_int (fun _ _ => rfl)) pe_non (nomark _)) (pe_one (pe_chain op_fLe op_fLe pe_int (pe_ix ix_fx (fe_var 0) pe_int (fun _ _ => rfl)) (fe_gint (by rfl) T.g_GREATEST_NUMBER))))))), ?_⟩
      walk_at "fx0"
      repeat (walk_at "oxs")
      dsimp only at ea
      refine ⟨_, rl_t ea, _, rfl, ?_⟩
      repeat (walk_at "oxs")
      by_cases hk : kd = "number"
      · rw [if_pos hk]
        refine ⟨_, rl_t ea, _, rfl, ?_⟩
        have hk' : decide (kd = "number") = true := decide_eq_true hk
        cases tv with
        | s z => exact absurd hk wf
        | no =>
          simp only [tvV]
          repeat (walk_at "oxs")
          simpa [plainT] using h
        | i n =>
          simp only [tvV]
          repeat (walk_at "oxs")
          refine ⟨_, rl_t ea, _, rfl, ?_⟩
          simp only [tvV]
          repeat (walk_at "oxs")
          have e : plainT ⟨kd, o, .i n⟩ = (decide (0 ≤ n) && decide (n ≤ 999999999)) := by simp [plainT, hk]
          rw [e] at h
          by_cases z : 0 ≤ n
          · rw [if_pos z]
            rw [decide_eq_true z, Bool.true_and] at h
            exact h
          · rw [if_neg z]
            rw [decide_eq_false z, Bool.false_and] at h
            exact h
      · rw [if_neg hk]
        have e : plainT ⟨kd, o, tv⟩ = false := by simp [plainT, hk]
        rw [e] at h
        exact h
    · cases h

theorem kne : (("number" : Str) == "text") = false ∧ ¬ (("number" : Str) = "text") ∧ (("number" : Str) == "word") = false ∧ ¬ (("number" : Str) = "word") ∧ (("number" : Str) == "colon") = false ∧ ¬ (("number" : Str) = "colon") ∧ (("number" : Str) == "value") = false ∧ ¬ (("number" : Str) = "value") ∧ (("number" : Str) == "function") = false ∧ ¬ (("number" : Str) = "function") ∧ (("number" : Str) == "null") = false ∧ ¬ (("number" : Str) = "null") ∧ (("number" : Str) == "true") = false ∧ ¬ (("number" : Str) = "true") ∧ (("number" : Str) == "false") = false ∧ ¬ (("number" : Str) = "false") ∧ (("number" : Str) == "error") = false ∧ ¬ (("number" : Str) = "error") ∧ (("text" : Str) == "number") = false ∧ ¬ (("text" : Str) = "number") ∧ (("text" : Str) == "word") = false ∧ ¬ (("text" : Str) = "word") ∧ (("text" : Str) == "colon") = false ∧ ¬ (("text" : Str) = "colon") ∧ (("text" : Str) == "value") = false ∧ ¬ (("text" : Str) = "value") ∧ (("text" : Str) == "function") = false ∧ ¬ (("text" : Str) = "function") ∧ (("text" : Str) == "null") = false ∧ ¬ (("text" : Str) = "null") ∧ (("text" : Str) == "true") = false ∧ ¬ (("text" : Str) = "true") ∧ (("text" : Str) == "false") = false ∧ ¬ (("text" : Str) = "false") ∧ (("text" : Str) == "error") = false ∧ ¬ (("text" : Str) = "error") ∧ (("word" : Str) == "number") = false ∧ ¬ (("word" : Str) = "number") ∧ (("word" : Str) == "text") = false ∧ ¬ (("word" : Str) = "text") ∧ (("word" : Str) == "colon") = false ∧ ¬ (("word" : Str) = "colon") ∧ (("word" : Str) == "value") = false ∧ ¬ (("word" : Str) = "value") ∧ (("word" : Str) == "function") = false ∧ ¬ (("word" : Str) = "function") ∧ (("word" : Str) == "null") = false ∧ ¬ (("word" : Str) = "null") ∧ (("word" : Str) == "true") = false ∧ ¬ (("word" : Str) = "true") ∧ (("word" : Str) == "false") = false ∧ ¬ (("word" : Str) = "false") ∧ (("word" : Str) == "error") = false ∧ ¬ (("word" : Str) = "error") ∧ (("colon" : Str) == "number") = false ∧ ¬ (("colon" : Str) = "number") ∧ (("colon" : Str) == "text") = false ∧ ¬ (("colon" : Str) = "text") ∧ (("colon" : Str) == "word") = false ∧ ¬ (("colon" : Str) = "word") ∧ (("colon" : Str) == "value") = false ∧ ¬ (("colon" : Str) = "value") ∧ (("colon" : Str) == "function") = false ∧ ¬ (("colon" : Str) = "function") ∧ (("colon" : Str) == "null") = false ∧ ¬ (("colon" : Str) = "null") ∧ (("colon" : Str) == "true") = false ∧ ¬ (("colon" : Str) = "true") ∧ (("colon" : Str) == "false") = false ∧ ¬ (("colon" : Str) = "false") ∧ (("colon" : Str) == "error") = false ∧ ¬ (("colon" : Str) = "error") ∧ (("value" : Str) == "number") = false ∧ ¬ (("value" : Str) = "number") ∧ (("value" : Str) == "text") = false ∧ ¬ (("value" : Str) = "text") ∧ (("value" : Str) == "word") = false ∧ ¬ (("value" : Str) = "word") ∧ (("value" : Str) == "colon") = false ∧ ¬ (("value" : Str) = "colon") ∧ (("value" : Str) == "function") = false ∧ ¬ (("value" : Str) = "function") ∧ (("value" : Str) == "null") = false ∧ ¬ (("value" : Str) = "null") ∧ (("value" : Str) == "true") = false ∧ ¬ (("value" : Str) = "true") ∧ (("value" : Str) == "false") = false ∧ ¬ (("value" : Str) = "false") ∧ (("value" : Str) == "error") = false ∧ ¬ (("value" : Str) = "error") ∧ (("function" : Str) == "number") = false ∧ ¬ (("function" : Str) = "number") ∧ (("function" : Str) == "text") = false ∧ ¬ (("function" : Str) = "text") ∧ (("function" : Str) == "word") = false ∧ ¬ (("function" : Str) = "word") ∧ (("function" : Str) == "colon") = false ∧ ¬ (("function" : Str) = "colon") ∧ (("function" : Str) == "value") = false ∧ ¬ (("function" : Str) = "value") ∧ (("function" : Str) == "null") = false ∧ ¬ (("function" : Str) = "null") ∧ (("function" : Str) == "true") = false ∧ ¬ (("function" : Str) = "true") ∧ (("function" : Str) == "false") = false ∧ ¬ (("function" : Str) = "false") ∧ (("function" : Str) == "error") = false ∧ ¬ (("function" : Str) = "error") ∧ (("null" : Str) == "number") = false ∧ ¬ (("null" : Str) = "number") ∧ (("null" : Str) == "text") = false ∧ ¬ (("null" : Str) = "text") ∧ (("null" : Str) == "word") = false ∧ ¬ (("null" : Str) = "word") ∧ (("null" : Str) == "colon") = false ∧ ¬ (("null" : Str) = "colon") ∧ (("null" : Str) == "value") = false ∧ ¬ (("null" : Str) = "value") ∧ (("null" : Str) == "function") = false ∧ ¬ (("null" : Str) = "function") ∧ (("null" : Str) == "true") = false ∧ ¬ (("null" : Str) = "true") ∧ (("null" : Str) == "false") = false ∧ ¬ (("null" : Str) = "false") ∧ (("null" : Str) == "error") = false ∧ ¬ (("null" : Str) = "error") ∧ (("true" : Str) == "number") = false ∧ ¬ (("true" : Str) = "number") ∧ (("true" : Str) == "text") = false ∧ ¬ (("true" : Str) = "text") ∧ (("true" : Str) == "word") = false ∧ ¬ (("true" : Str) = "word") ∧ (("true" : Str) == "colon") = false ∧ ¬ (("true" : Str) = "colon") ∧ (("true" : Str) == "value") = false ∧ ¬ (("true" : Str) = "value") ∧ (("true" : Str) == "function") = false ∧ ¬ (("true" : Str) = "function") ∧ (("true" : Str) == "null") = false ∧ ¬ (("true" : Str) = "null") ∧ (("true" : Str) == "false") = false ∧ ¬ (("true" : Str) = "false") ∧ (("true" : Str) == "error") = false ∧ ¬ (("true" : Str) = "error") ∧ (("false" : Str) == "number") = false ∧ ¬ (("false" : Str) = "number") ∧ (("false" : Str) == "text") = false ∧ ¬ (("false" : Str) = "text") ∧ (("false" : Str) == "word") = false ∧ ¬ (("false" : Str) = "word") ∧ (("false" : Str) == "colon") = false ∧ ¬ (("false" : Str) = "colon") ∧ (("false" : Str) == "value") = false ∧ ¬ (("false" : Str) = "value") ∧ (("false" : Str) == "function") = false ∧ ¬ (("false" : Str) = "function") ∧ (("false" : Str) == "null") = false ∧ ¬ (("false" : Str) = "null") ∧ (("false" : Str) == "true") = false ∧ ¬ (("false" : Str) = "true") ∧ (("false" : Str) == "error") = false ∧ ¬ (("false" : Str) = "error") ∧ (("error" : Str) == "number") = false ∧ ¬ (("error" : Str) = "number") ∧ (("error" : Str) == "text") = false ∧ ¬ (("error" : Str) = "text") ∧ (("error" : Str) == "word") = false ∧ ¬ (("error" : Str) = "word") ∧ (("error" : Str) == "colon") = false ∧ ¬ (("error" : Str) = "colon") ∧ (("error" : Str) == "value") = false ∧ ¬ (("error" : Str) = "value") ∧ (("error" : Str) == "function") = false ∧ ¬ (("error" : Str) = "function") ∧ (("error" : Str) == "null") = false ∧ ¬ (("error" : Str) = "null") ∧ (("error" : Str) == "true") = false ∧ ¬ (("error" : Str) = "true") ∧ (("error" : Str) == "false") = false ∧ ¬ (("error" : Str) = "false") := by (repeat' apply And.intro) <;> decide +kernel
theorem G_val : big_GREATEST = 10 ^ 300 := by decide +kernel
theorem words_at (r : V) (z : Str) : (valV ([(Sum.inr (Str.ofString "null"), V.non), (Sum.inr (Str.ofString "true"), V.bl true), (Sum.inr (Str.ofString "false"), V.bl false), (Sum.inr (Str.ofString "error"), r)] : List (Key × V)) (Sum.inr z)).isSome = decide (z ∈ (["null", "true", "false", "error"] : List Str)) := by
  have ne : ∀ {a : Str}, ¬ z = a → ¬ ((Sum.inr a : Key) = Sum.inr z) := fun h q => h (Sum.inr.inj q).symm
  by_cases h1 : z = Str.ofString "null"
  · rw [valV_pos (by rw [h1])]; simp [h1]
  rw [valV_neg (ne h1)]
  by_cases h2 : z = Str.ofString "true"
  · rw [valV_pos (by rw [h2])]; simp [h2]
  rw [valV_neg (ne h2)]
  by_cases h3 : z = Str.ofString "false"
  · rw [valV_pos (by rw [h3])]; simp [h3]
  rw [valV_neg (ne h3)]
  by_cases h4 : z = Str.ofString "error"
  · rw [valV_pos (by rw [h4])]; simp [h4]
  rw [valV_neg (ne h4)]
  simp [h1, h2, h3, h4, valV]
theorem inV_strs (z : Str) : ∀ ws : List Str, inV (.str z) (ws.map V.str) = decide (z ∈ ws)
  | [] => by simp [inV]
  | y :: r => by
    have ih := inV_strs z r
    unfold inV at ih ⊢
    rw [List.map_cons, List.any_cons, ih]
    show (decide (y = z) || decide (z ∈ r)) = _
    by_cases h : y = z
    · subst h; simp
    · have h2 : ¬ z = y := fun q => h q.symm
      simp [h, h2]
def newL (n : Nat → Prop) (H : Hp) (Q : VK) : Prop := ∀ p xs H1, H p = none → Same H H1 → H1 p = some (.lst xs) → n xs.length → Q (.ref p) H1
def spConst (c : Cs) : Sp := fun vs H Q _ => match vs with
  | [v] => ∃ t, IsTok H v t ∧ WfT t ∧ newL (fun n => n = if constT t = true then 1 else 0) H Q
  | _ => False
theorem ok_const (A : At K mg "constant" "constant" s_constant ["token"]) (T : Txt K mg c) (M_Ref : HasC P w K mg base CX0 c.Ref "Ref" 1 ["self", "number"] (spMk_Ref K c)) (M_Builtin : HasC P w K mg base CX0 c.Builtin "Builtin" 1 ["self", "name"] (spMk_Builtin K c)) : Has P w K mg base CX0 "constant" 3 ["token"] (spConst c) := by
  have Sc := sc_constant
  refine has_of A Sc (fun vs H Q E h => ?_) (fun cdv f A outer s H vs Q E hr h => ?_)
  · unfold spConst at h; split at h; rfl; cases h
  · unfold spConst at h
    split at h
    · rename_i v
      obtain ⟨⟨kd, o, tv⟩, ⟨a, rfl, ea⟩, wf, h⟩ := h
      refine ⟨_, (pss_cons (ps_if (pt_cmpR (op_fEq hr.units) (pe_ix ix_fx (fe_var 0) pe_int (fun _ _ => rfl)) pe_str (nomark _)) (pss_cons (ps_if (PW.pt (pw_and (pt_cmpR op_fNotN (pe_ix ix_fx (fe_var 0) pe_int (fun _ _ => rfl)) pe_non (nomark _)) (pw_and1 (pt_chain op_fLt op_fLt (pe_un un_fNeg (fe_gint (by rfl) T.g_GREATEST)) (pe_ix ix_fx (fe_var 0) pe_int (fun _ _ => rfl)) (fe_gint (by rfl) T.g_GREATEST))))) (pss_one (ps_ret (fe_lst (pa_cons (pe_ix ix_fx (fe_var 0) pe_int (fun _ _ => rfl)) pa_nil)))) pss_nil)
      (pss_one (ps_ret (fe_lst pa_nil)))) pss_nil)
      (pss_cons (ps_if (pt_cmpR (op_fEq hr.units) (pe_ix ix_fx (fe_var 0) pe_int (fun _ _ => rfl)) pe_str (nomark _)) (pss_one (ps_ret (fe_lst (pa_cons (pe_ix ix_fx (fe_var 0) pe_int (fun _ _ => rfl)) pa_nil)))) pss_nil)
      (pss_cons (ps_set (i := 1) Sc.nd rfl (.inl rfl) (fe_disp (fps_cons pe_non (fps_cons pe_bl (fps_cons pe_bl (fps_cons (fe_make (k := _) M_Ref (hr.mono (by walk_at "rm")) (by rfl) pass0 (pa_cons pe_int pa_nil)) fps_nil)))) (by simp only [List.map_cons, List.map_nil]; decide) rfl rfl (fun h => by cases h) (by decide) (by simp only [List.length_cons, List.length_nil]; omega)))
      (pss_cons (ps_if (PW.pt (pw_and (pt_cmpR (op_fEq hr.units) (pe_ix ix_fx (fe_var 0) pe_int (fun _ _ => rfl)) pe_str (nomark _)) (pw_and1 (pt_cmp (pc_inK (hu_of hr) (pe_ix ix_fx (fe_var 0) pe_int (fun _ _ => rfl)) (fe_var 1)))))) (pss_one (ps_ret (fe_lst (pa_cons (pe_getK (hu_of hr) (fe_var 1) (pe_ix ix_fx (fe_var 0) pe_int (fun _ _ => rfl)) (fun _ _ => rfl)) pa_nil)))) pss_nil)
      (pss_cons (ps_if (PW.pt (pw_and (pt_cmpR (op_fEq hr.units) (pe_ix ix_fx (fe_var 0) pe_int (fun _ _ => rfl)) pe_str (nomark _)) (pw_and1 (pt_cmpR op_fIn (pe_ix ix_fx (fe_var 0) pe_int (fun _ _ => rfl)) (fe_gtup (by rfl) T.g_BUILTINS) (by with_unfolding_all rfl))))) (pss_one (ps_ret (fe_lst (pa_cons (fe_make (k := _) M_Builtin (hr.mono (by walk_at "rm")) (by rfl) pass0 (pa_cons (pe_ix ix_fx (fe_var 0) pe_int (fun _ _ => rfl)) pa_nil)) pa_nil)))) pss_nil)
      (pss_one (ps_ret (fe_lst pa_nil)))))))), ?_⟩
      walk_at "fx0"
      dsimp only at ea
      simp only [tSeq]
      refine cut_ fun N hN => ?_
      repeat (walk_at "oxs")
      refine ⟨_, rl_t ea, _, rfl, ?_⟩
      repeat (walk_at "oxs")
      have one : ∀ v H2 p, H p = none → Same H H2 → H2 p = some (.lst [v]) → constT ⟨kd, o, tv⟩ = true → Q (.ref p) H2 := fun v H2 p np s2 ep e => h p [v] H2 np s2 ep (by rw [if_pos e]; rfl)
      have nol : ∀ H2 p, H p = none → Same H H2 → H2 p = some (.lst []) → constT ⟨kd, o, tv⟩ = false → Q (.ref p) H2 := fun H2 p np s2 ep e => h p [] H2 np s2 ep (by rw [e, if_neg (by simp)]; rfl)
      by_cases hk : kd = "number"
      · rw [if_pos hk]
        refine ⟨_, rl_t ea, _, rfl, ?_⟩
        cases tv with
        | s z => exact absurd hk wf
        | no =>
          simp only [tvV]
          repeat (walk_at "oxs")
          exact fun p H2 np s2 ep => nol H2 p np s2 ep (by simp [constT, hk, kne])
        | i n =>
          simp only [tvV]
          repeat (walk_at "oxs")
          refine ⟨_, rl_t ea, _, rfl, ?_⟩
          simp only [tvV]
          repeat (walk_at "oxs")
          have e : constT ⟨kd, o, .i n⟩ = (decide (-big_GREATEST < n) && decide (n < big_GREATEST)) := by
            have e0 : (GR : Int) = big_GREATEST := by decide +kernel
            rw [← e0]
            simp [constT, hk, kne]
          rw [e] at one nol
          by_cases z : -big_GREATEST < n
          · rw [if_pos z]
            rw [decide_eq_true z, Bool.true_and] at one nol
            by_cases z2 : n < big_GREATEST
            · rw [if_pos z2]
              exact ⟨_, rl_t ea, _, rfl, fun p H2 np s2 ep => one _ H2 p np s2 ep (decide_eq_true z2)⟩
            · rw [if_neg z2]
              exact fun p H2 np s2 ep => nol H2 p np s2 ep (decide_eq_false z2)
          · rw [if_neg z]
            rw [decide_eq_false z, Bool.false_and] at nol
            exact fun p H2 np s2 ep => nol H2 p np s2 ep rfl
      · rw [if_neg hk]
        refine hN _ _ ?_
        clear hN N
        simp only [tSeq]
        refine cut_ fun N hN => ?_
        repeat (walk_at "oxs")
        refine ⟨_, rl_t ea, _, rfl, ?_⟩
        repeat (walk_at "oxs")
        by_cases hk2 : kd = "text"
        · rw [if_pos hk2]
          exact ⟨_, rl_t ea, _, rfl, fun p H2 np s2 ep => one _ H2 p np s2 ep (by simp [constT, hk2])⟩
        rw [if_neg hk2]
        refine hN _ _ ?_
        clear hN N
        simp only [tSeq]
        refine cut_ fun N hN => ?_
        repeat (walk_at "oxs")
        intro p H0 np s0 ep
        unfold spMk_Ref
        intro r rdx H1 nr s1 er
        refine ⟨s1 _ _ ep, fun H3 eH3 => hN _ _ ?_⟩
        clear hN N
        have s03 : Same H H3 := by rw [eH3]; exact mk_same (s0.trans s1) np
        have ea3 := s03 _ _ ea
        have ep3 : H3 p = some (.dK [(Sum.inr (Str.ofString "null"), V.non), (Sum.inr (Str.ofString "true"), V.bl true), (Sum.inr (Str.ofString "false"), V.bl false), (Sum.inr (Str.ofString "error"), .ref r)]) := by rw [eH3, upd_same]
        simp only [tSeq]
        refine cut_ fun N hN => ?_
        repeat (walk_at "oxs")
        refine ⟨_, rl_t ea3, _, rfl, ?_⟩
        repeat (walk_at "oxs")
        by_cases hk3 : kd = "word"
        · rw [if_pos hk3]
          refine ⟨_, rl_t ea3, _, rfl, ?_⟩
          obtain ⟨z, rfl⟩ : ∃ z, tv = .s z := by
            cases tv with
            | s z => exact ⟨z, rfl⟩
            | i n => exact absurd wf.1 hk
            | no => exact absurd wf hk
          have ec : constT ⟨kd, o, .s z⟩ = (decide (z ∈ (["null", "true", "false", "error"] : List Str)) || decide (z ∈ bltT)) := by simp [constT, hk3, kne]
          rw [ec] at one nol
          simp only [tvV]
          repeat (first | walk_at "oxs" | simp only [ep3])
          have hw := words_at (.ref r) z
          refine ⟨_, .inl ep3, ?_⟩
          rw [hw]
          by_cases hz : z ∈ (["null", "true", "false", "error"] : List Str)
          · rw [if_pos (decide_eq_true hz)]
            rw [decide_eq_true hz] at hw
            obtain ⟨x, ex⟩ := Option.isSome_iff_exists.mp hw
            refine ⟨_, rl_t ea3, _, rfl, _, .inl ep3, x, ex, fun p5 H5 np5 s5 ep5 => ?_⟩
            exact one x H5 p5 (s03.free np5) (s03.trans s5) ep5 (by rw [decide_eq_true hz, Bool.true_or])
          · rw [if_neg (by rw [decide_eq_false hz]; simp)]
            rw [decide_eq_false hz, Bool.false_or] at one nol
            refine hN _ _ ?_
            clear hN N
            repeat (walk_at "oxs")
            refine ⟨_, rl_t ea3, _, rfl, ?_⟩
            repeat (walk_at "oxs")
            rw [if_pos hk3]
            refine ⟨_, rl_t ea3, _, rfl, fun g hg => ⟨_, .inr (hg H3), rfl, by decide, ?_⟩⟩
            have hb : inV (tvV (.s z)) [V.str (Str.ofString "print"), V.str (Str.ofString "read"), V.str (Str.ofString "str"), V.str (Str.ofString "int"), V.str (Str.ofString "len"), V.str (Str.ofString "range"), V.str (Str.ofString "kind"), V.str (Str.ofString "abs"), V.str (Str.ofString "min"), V.str (Str.ofString "max"), V.str (Str.ofString "pow"), V.str (Str.ofString "gcd"), V.str (Str.ofString "sqrt"), V.str (Str.ofString "base"), V.str (Str.ofString "parse"), V.str (Str.ofString "char"), V.str (Str.ofString "assert"), V.str (Str.ofString "copy"), V.str (Str.ofString "equals")] = decide (z ∈ bltT) := inV_strs z bltT
            rw [hb]
            by_cases hz2 : z ∈ bltT
            · rw [if_pos (decide_eq_true hz2)]
              refine ⟨_, rl_t ea3, _, rfl, ?_⟩
              unfold spMk_Builtin
              intro b bdx H4 nb s4 eb p5 H5 np5 s5 ep5
              exact one _ H5 p5 (s03.free (s4.free np5)) ((s03.trans s4).trans s5) ep5 (decide_eq_true hz2)
            · rw [if_neg (by rw [decide_eq_false hz2]; simp)]
              exact fun p5 H5 np5 s5 ep5 => nol H5 p5 (s03.free np5) (s03.trans s5) ep5 (decide_eq_false hz2)
        · rw [if_neg hk3]
          refine hN _ _ ?_
          clear hN N
          repeat (walk_at "oxs")
          refine ⟨_, rl_t ea3, _, rfl, ?_⟩
          repeat (walk_at "oxs")
          rw [if_neg hk3]
          exact fun p5 H5 np5 s5 ep5 => nol H5 p5 (s03.free np5) (s03.trans s5) ep5 (by simp [constT, hk, hk2, hk3])
    · cases h

def spOper (c : Cs) : Sp := fun vs H Q _ => match vs with
  | [v, .str k] => ∃ t, IsTok H v t ∧ WfT t ∧ newL (fun n => n = if operT t k = true then 1 else 0) H Q
  | _ => False
theorem ok_oper (A : At K mg "operand_of" "operand_of" s_operand_of ["token", "kind"]) (T : Txt K mg c) (H_constant : Has P w K mg base CX0 "constant" 3 ["token"] (spConst c)) (H_is_plain : Has P w K mg base CX0 "is_plain" 1 ["token"] (spPlainT c)) : Has P w K mg base CX0 "operand_of" 4 ["token", "kind"] (spOper c) := by
  have Sc := sc_operand_of
  refine has_of A Sc (fun vs H Q E h => ?_) (fun cdv f A outer s H vs Q E hr h => ?_)
  · unfold spOper at h; split at h; rfl; cases h
  · unfold spOper at h
    split at h
    · rename_i v k
      obtain ⟨t, ht, wf, h⟩ := h
      obtain ⟨a, rfl, ea⟩ := id ht
      refine ⟨_, (pss_cons (ps_if (pt_cmpR (op_fEq hr.units) (fe_var 1) pe_str (nomark _)) (pss_one (ps_ret (fe_call H_constant (hr.mono (by walk_at "rm")) (by rfl) pass0 (pa_cons (fe_var 0) pa_nil)))) pss_nil)
      (pss_cons (ps_if (PW.pt (pw_and (pt_cmpR (op_fEq hr.units) (fe_var 1) pe_str (nomark _)) (pw_and1 (pt_val (fe_call H_is_plain (hr.mono (by walk_at "rm")) (by rfl) pass0 (pa_cons (fe_var 0) pa_nil)))))) (pss_one (ps_ret (fe_lst (pa_cons (pe_ix ix_fx (fe_var 0) pe_int (fun _ _ => rfl)) pa_nil)))) pss_nil)
      (pss_cons (ps_if (PW.pt (pw_and (pt_cmpR (op_fEq hr.units) (fe_var 1) pe_str (nomark _)) (pw_and1 (pt_cmpR (op_fEq hr.units) (pe_ix ix_fx (fe_var 0) pe_int (fun _ _ => rfl)) pe_str (nomark _))))) (pss_one (ps_ret (fe_lst (pa_cons (pe_ix ix_fx (fe_var 0) pe_int (fun _ _ => rfl)) pa_nil)))) pss_nil)
      (pss_one (ps_ret (fe_lst pa_nil)))))), ?_⟩
      walk_at "fx0"
      repeat (walk_at "oxs")
      have emp : operT t k = false → ∀ p H2, H p = none → Same H H2 → H2 p = some (.lst []) → Q (.ref p) H2 := fun e p H2 np s2 ep => h p [] H2 np s2 ep (by rw [e, if_neg (by simp)]; rfl)
      have one : operT t k = true → ∀ v p H2, H p = none → Same H H2 → H2 p = some (.lst [v]) → Q (.ref p) H2 := fun e v p H2 np s2 ep => h p [v] H2 np s2 ep (by rw [if_pos e]; rfl)
      by_cases h1 : k = "value"
      · rw [if_pos h1]
        refine ⟨t, ht, wf, ?_⟩
        have e : operT t k = constT t := by unfold operT; rw [if_pos h1]
        rw [e] at h
        exact h
      rw [if_neg h1]
      have eo : operT t k = ((decide (k = "number") && plainT t) || (decide (k = "text") && decide (t.kind = "text"))) := by unfold operT; rw [if_neg h1]
      rw [eo] at emp one
      by_cases h2 : k = "number"
      · have ne : ¬ k = Str.ofString "text" := fun z => absurd (h2.symm.trans z) (by decide)
        have d2 : decide (k = "text") = false := decide_eq_false ne
        rw [if_pos h2]
        refine ⟨t, ht, wf, _, rfl, ?_⟩
        rw [decide_eq_true h2, d2, Bool.true_and, Bool.false_and, Bool.or_false] at emp one
        by_cases h3 : plainT t = true
        · rw [if_pos h3]
          exact ⟨_, rl_t ea, _, rfl, one h3 _⟩
        · rw [if_neg h3, if_neg ne]
          exact emp (by simpa using h3)
      rw [if_neg h2]
      have d2 : decide (k = "number") = false := decide_eq_false h2
      rw [d2, Bool.false_and, Bool.false_or] at emp one
      by_cases h3 : k = "text"
      · rw [if_pos h3]
        rw [decide_eq_true h3, Bool.true_and] at emp one
        refine ⟨_, rl_t ea, _, rfl, ?_⟩
        repeat (walk_at "oxs")
        by_cases h4 : t.kind = "text"
        · rw [if_pos h4]
          exact ⟨_, rl_t ea, _, rfl, one (decide_eq_true h4) _⟩
        · rw [if_neg h4]
          exact emp (decide_eq_false h4)
      · rw [if_neg h3]
        rw [decide_eq_false h3, Bool.false_and] at emp
        exact emp rfl
    · cases h

/-- its first word is one that is known -/
def KnW : List CT → Prop
  | [] => True
  | t :: _ => t.kind = "word" → ∃ z, t.v = .s z ∧ z ∈ knownW
theorem row_false {t : CT} {ts : List CT} (h : ¬ t.kind = "word") : rowT (t :: ts) = false := by show (decide (t.kind = Str.ofString "word") && _) = _; rw [decide_eq_false h, Bool.false_and]
theorem row_word {t : CT} {ts : List CT} {z : Str} (h : t.kind = "word") (hv : t.v = .s z) : rowT (t :: ts) = match opsT.lookup z with | some ks => decide (ts.length = ks.length) && opers ts ks | none => false := by show (decide (t.kind = Str.ofString "word") && _) = _; rw [decide_eq_true h, Bool.true_and, hv] <;> rfl
def spRow (K : PySem.W.Frag) (c : Cs) : Sp := fun vs H Q _ => match vs with
  | [.ref r] => ∃ xs ts, H r = some (.lst xs) ∧ Paired (fun x t => IsTok H x t ∧ WfT t) xs ts ∧ KnW ts ∧ xs.length ≤ 1000 ∧ (rowT ts = false → ∀ H1, Same H H1 → Q .non H1) ∧ (rowT ts = true → ∀ p ys H1, H p = none → Same H H1 → H1 p = some (.tup ys) → Q (.ref p) H1)
  | _ => False
theorem drop_cons {α : Type} {l : List α} {i : Nat} {d : α} (h : l[i]? = some d) : l.drop i = d :: l.drop (i + 1) := by
  obtain ⟨hi, rfl⟩ := List.getElem?_eq_some_iff.mp h
  exact List.drop_eq_getElem_cons hi
theorem cut_one {a : V} (xs : List V) : cutV (a :: xs) (some 1) none = xs := by
  unfold cutV HT.sIx
  simp
def RowI (H : Hp) (ts : List CT) (ks : List Str) (r kd L p : Addr) (xs : List V) (i : Nat) (σ : L2.St) (H' : Hp) : Prop := ∃ u3 u4 u5 ys, σ = [some (.ref r), some (.ref kd), some (.ref L), u3, u4, u5] ∧ Same H H' ∧ H' p = some (.lst xs) ∧ H' L = some (.lst ys) ∧ ys.length ≤ i + 1 ∧ opers ts ks = opers (ts.drop i) (ks.drop i)
theorem ok_row (A : At K mg "row_of" "row_of" s_row_of ["tokens"]) (T : Txt K mg c) (TD : TxD w K mg) (H_operand_of : Has P w K mg base CX0 "operand_of" 4 ["token", "kind"] (spOper c)) : Has P w K mg base CX0 "row_of" 5 ["tokens"] (spRow K c) := by
  have Sc := sc_row_of
  refine has_of A Sc (fun vs H Q E h => ?_) (fun cdv f A outer s H vs Q E hr h => ?_)
  · unfold spRow at h; split at h; rfl; cases h
  · unfold spRow at h
    split at h
    · rename_i r
      obtain ⟨xs, ts, el, hp, hk, hl, hF, hT⟩ := h
      have er : Rl K H r xs := rl_l el
      refine ⟨_, (pss_cons (ps_if (PW.pt (pw_or (pt_not (pt_fTru (fe_var 0) (fun _ => rfl))) (pw_or (pt_cmpR (op_fNe hr.units) (pe_ix ix_fx (pe_ix ix_fx (fe_var 0) pe_int (fun _ _ => rfl)) pe_int (fun _ _ => rfl)) pe_str (nomark _)) (pw_or1 (pt_cmpR op_fNotInDT (pe_ix ix_fx (pe_ix ix_fx (fe_var 0) pe_int (fun _ _ => rfl)) pe_int (fun _ _ => rfl)) (fe_gdictT (by rfl) TD.d_OPERANDS) (by with_unfolding_all rfl)))))) (pss_one (ps_ret pe_non)) pss_nil)
      (pss_cons (ps_set (i := 1) Sc.nd rfl (.inl rfl) (pe_ix ix_fxDT (fe_gdictT (by rfl) TD.d_OPERANDS) (pe_ix ix_fx (pe_ix ix_fx (fe_var 0) pe_int (fun _ _ => rfl)) pe_int (fun _ _ => rfl)) (fun _ _ => rfl)))
      (pss_cons (ps_if (pt_cmpR (op_fNe hr.units) (pe_callB call_fLen (by rfl) T.no_len (by decide +kernel) (pa_cons (fe_var 0) pa_nil)) (pe_op op_fAdd (pe_callB call_fLen (by rfl) T.no_len (by decide +kernel) (pa_cons (fe_var 1) pa_nil)) pe_int) (nomark _)) (pss_one (ps_ret pe_non)) pss_nil)
      (pss_cons (ps_set (i := 2) Sc.nd rfl (.inl rfl) (fe_lst (pa_cons (pe_ix ix_fx (pe_ix ix_fx (fe_var 0) pe_int (fun _ _ => rfl)) pe_int (fun _ _ => rfl)) pa_nil)))
      (pss_cons (ps_for PassesOwn.never rfl (pi_zipM (by rfl) T.no_zip (pa_cons (pe_slice sl_fx (fe_var 0) (po_some pe_int) po_none) (pa_cons (fe_var 1) pa_nil))) (pg_tup (n := 2) rfl (pgs_cons (pg_name (i := 3) Sc.nd rfl (.inl rfl)) (pgs_cons (pg_name (i := 4) Sc.nd rfl (.inl rfl)) pgs_nil))) (pss_cons (ps_set (i := 5) Sc.nd rfl (.inl rfl) (fe_call H_operand_of (hr.mono (by walk_at "rm")) (by rfl) pass0 (pa_cons (fe_var 3) (pa_cons (fe_var 4) pa_nil))))
      (pss_cons (ps_if (pt_not (pt_fTru (fe_var 5) (fun _ => rfl))) (pss_one (ps_ret pe_non)) pss_nil)
      (pss_one (ps_expr (fe_bm PySem.F.plainAttrs_list PySem.F.slot_list_append PySem.F.type_list_append isLst_ty mt_fAppend (fe_var 2) (pa_cons (pe_ix ix_fx (fe_var 5) pe_int (fun _ _ => rfl)) pa_nil)))))))
      (pss_one (ps_ret (pe_callTy call_fTupOf (by rfl) T.no_tuple (by decide +kernel) (pa_cons (fe_var 2) pa_nil))))))))), ?_⟩
      walk_at "fx0"
      simp only [tSeq]
      refine cut_ fun N hN => ?_
      repeat (walk_at "oxs")
      refine ⟨xs, er, ?_⟩
      cases hp with
      | nil =>
        rw [if_pos (by rfl)]
        exact hF rfl H fun _ _ h => h
      | @cons x t xs ts ht hp =>
      obtain ⟨⟨a, rfl, ea⟩, wf⟩ := ht
      have at0 : atI (V.ref a :: xs) 0 = some (.ref a) := atI_nat (j := 0) rfl
      rw [if_neg (by simp)]
      refine ⟨_, er, _, at0, ?_⟩
      repeat (walk_at "oxs")
      refine ⟨_, rl_t ea, _, rfl, ?_⟩
      repeat (walk_at "oxs")
      by_cases hw : t.kind = "word"
      · rw [if_neg (fun z => z hw)]
        obtain ⟨z, ez, hz⟩ := hk hw
        have hrow := row_word (ts := ts) hw ez
        refine ⟨_, er, _, at0, ?_⟩
        repeat (walk_at "oxs")
        refine ⟨_, rl_t ea, _, rfl, ?_⟩
        rw [ez]
        simp only [tvV]
        repeat (walk_at "oxs")
        intro d hd
        simp only [fNotInDT]
        have hlk := known_lookup z hz
        refine ⟨_, _, hd, hlk, _, rfl, ?_⟩
        cases eks : opsT.lookup z with
        | none =>
          rw [eks] at hrow
          rw [if_pos (by rfl)]
          exact hF hrow H fun _ _ h => h
        | some ks =>
        rw [eks] at hrow hlk
        dsimp only at hrow
        rw [if_neg (by simp)]
        refine hN _ _ ?_
        clear hN N
        simp only [tSeq]
        refine cut_ fun N hN => ?_
        repeat (walk_at "oxs")
        intro d hd
        refine ⟨_, er, _, at0, ?_⟩
        repeat (walk_at "oxs")
        refine ⟨_, rl_t ea, _, rfl, ?_⟩
        rw [ez]
        simp only [tvV]
        repeat (walk_at "oxs")
        refine ⟨_, hd, _, hlk, fun kd hkd => hN _ _ ?_⟩
        clear hN N
        have lks : ks.length ≤ 3 := by
          have := known_len z hz
          rw [eks] at this
          exact this
        have hlt : xs.length = ts.length := Paired.length hp
        rw [List.length_cons] at hl
        have sl := sizeLine_eq
        have ekd := hkd H
        simp only [tSeq]
        refine cut_ fun N hN => ?_
        repeat (walk_at "oxs")
        refine ⟨_, er, _, .inr ekd, ?_⟩
        rw [List.length_map, List.length_cons]
        by_cases hlen : xs.length = ks.length
        · rw [if_neg (fun z => z (by rw [hlen]; rfl))]
          refine hN _ _ ?_
          clear hN N
          simp only [tSeq]
          refine cut_ fun N hN => ?_
          repeat (walk_at "oxs")
          refine ⟨_, er, _, at0, ?_⟩
          repeat (walk_at "oxs")
          refine ⟨_, rl_t ea, _, rfl, ?_⟩
          rw [ez]
          simp only [tvV]
          intro L H1 nL s1 eL
          refine hN _ _ ?_
          clear hN N
          simp only [tSeq]
          refine cut_ fun N hN => ?_
          refine for_ ?_
          repeat (walk_at "oxs")
          refine ⟨_, SqL.of (s1 _ _ el), fun p H2 np s2 ep => ⟨_, SqL.of ep, _, hkd _, ?_⟩⟩
          rw [cut_one] at ep
          have npL : L ≠ p := fun z => by rw [← z, eL] at np; cases np
          refine loop_zipM (xs := xs) (ys := ks.map V.str) (by rw [List.length_map]; exact hlen) (RowI H ts ks r kd L p xs) ⟨_, _, _, _, rfl, s1.trans s2, ep, s2 _ _ eL, Nat.le_refl _, rfl⟩ (fun i σ H' h => ?_) (fun i x y Tz σ H' hx hy h nT => ?_) fun σ H' h => ?_
          · obtain ⟨u3, u4, u5, ys, rfl, sm, ep', _⟩ := h
            exact ⟨SqL.of ep', hkd _⟩
          · obtain ⟨u3, u4, u5, ys, rfl, sm, ep', eL', ly, hop⟩ := h
            obtain ⟨t2, et, ht2, wf2⟩ := paired_get hp hx
            rw [List.getElem?_map] at hy
            obtain ⟨k2, ek, rfl⟩ : ∃ k2, ks[i]? = some k2 ∧ V.str k2 = y := by
              cases e : ks[i]? with
              | none => rw [e] at hy; cases hy
              | some k2 => rw [e] at hy; exact ⟨k2, rfl, Option.some.inj hy⟩
            have hi := (List.getElem?_eq_some_iff.mp hx).1
            have smT : Same H' (upd H' Tz (.tup [x, .str k2])) := same_new nT
            have enT : (upd H' Tz (.tup [x, .str k2])) Tz = some (.tup [x, .str k2]) := upd_same
            have sm2 := sm.trans smT
            have ep2 := smT _ _ ep'
            have eL2 := smT _ _ eL'
            have ht3 := ht2.same sm2
            generalize upd H' Tz (.tup [x, .str k2]) = H3 at *
            have hop2 : opers ts ks = (operT t2 k2 && opers (ts.drop (i + 1)) (ks.drop (i + 1))) := by rw [hop, drop_cons et, drop_cons ek]; rfl
            walk_at "ox"
            refine ⟨_, SqT.of enT, ?_⟩
            repeat (walk_at "oxs")
            refine ⟨t2, ht3, wf2, ?_⟩
            intro p5 zs H5 np5 s5 ep5 lz
            repeat (first | walk_at "oxs" | simp only [ep5])
            refine ⟨_, rl_l ep5, ?_⟩
            cases hop3 : operT t2 k2 with
            | false =>
              rw [hop3, if_neg (by simp)] at lz
              have ez : zs = [] := List.length_eq_zero_iff.mp lz
              subst ez
              rw [if_pos (by rfl)]
              refine hF ?_ H5 (sm2.trans s5)
              rw [hrow, hop2, hop3, Bool.false_and, Bool.and_false]
            | true =>
              rw [hop3, if_pos rfl] at lz
              obtain ⟨v, rfl⟩ := List.length_eq_one_iff.mp lz
              have eL5 := s5 _ _ eL2
              have nL' : H L = none := nL
              rw [if_neg (by simp)]
              simp only [eL5]
              rw [hop3, Bool.true_and] at hop2
              refine ⟨trivial, _, rl_l ep5, v, atI_nat (j := 0) rfl, by omega, _, _, _, _, rfl, mk_same (sm2.trans s5) nL, ?_, upd_same, by rw [List.length_append, List.length_singleton]; omega, hop2⟩
              rw [upd_ne (Ne.symm npL)]
              exact s5 _ _ ep2
          · obtain ⟨u3, u4, u5, ys, rfl, sm, ep', eL', ly, hop⟩ := h
            refine hN _ _ ?_
            clear hN N
            repeat (first | walk_at "oxs" | simp only [eL'])
            refine ⟨ys, rfl, fun l H6 nl s6 el6 => hT ?_ l ys H6 (sm.free nl) (sm.trans s6) el6⟩
            rw [hrow, ← hlt, decide_eq_true hlen, Bool.true_and, hop, hlt, List.drop_length]
            rfl
        · rw [if_pos (fun z => hlen (by omega))]
          refine hF ?_ H fun _ _ h => h
          rw [hrow, ← hlt, decide_eq_false hlen, Bool.false_and]
      · rw [if_pos hw]
        exact hF (row_false hw) H fun _ _ h => h
    · cases h
def spHead (K : PySem.W.Frag) (c : Cs) : Sp := fun vs H Q _ => match vs with
  | [.ref r] => ∃ xs ts, H r = some (.lst xs) ∧ Paired (fun x t => IsTok H x t ∧ WfT t) xs ts ∧ xs.length ≤ 1000 ∧ (headT ts = false → Q .non H) ∧ (headT ts = true → ∀ y dx v1 v2 p q H1, H y = none → Same H H1 → H1 y = some (.ins c.Chunk dx [("number", v1), ("wanted", v2), ("rows", .ref p), ("scopes", .ref q)]) → H p = none → H1 p = some (.lst []) → p ≠ y → Q (.ref y) H1)
  | _ => False
theorem ok_head (A : At K mg "head_of" "head_of" s_head_of ["tokens"]) (T : Txt K mg c) (H_is_plain : Has P w K mg base CX0 "is_plain" 1 ["token"] (spPlainT c)) (M_Chunk : HasCD P w K mg base CX0 c.Chunk "Chunk" 1 ["self", "number", "wanted", "rows", "scopes"] (spMkChunk K c)) : Has P w K mg base CX0 "head_of" 3 ["tokens"] (spHead K c) := by
  have Sc := sc_head_of
  refine has_of A Sc (fun vs H Q E h => ?_) (fun cdv f A outer s H vs Q E hr h => ?_)
  · unfold spHead at h; split at h; rfl; cases h
  · unfold spHead at h
    split at h
    · rename_i r
      obtain ⟨xs, ts, el, hp, hl, hF, hT⟩ := h
      have er : Rl K H r xs := rl_l el
      refine ⟨_, (pss_cons (ps_if (PW.pt (pw_or (pt_cmpR (op_fNe hr.units) (pe_callB call_fLen (by rfl) T.no_len (by decide +kernel) (pa_cons (fe_var 0) pa_nil)) pe_int (nomark _)) (pw_or (pt_cmpR (op_fNe hr.units) (pe_ix ix_fx (pe_ix ix_fx (fe_var 0) pe_int (fun _ _ => rfl)) pe_int (fun _ _ => rfl)) pe_str (nomark _)) (pw_or1 (pt_cmpR (op_fNe hr.units) (pe_ix ix_fx (pe_ix ix_fx (fe_var 0) pe_int (fun _ _ => rfl)) pe_int (fun _ _ => rfl)) pe_str (nomark _)))))) (pss_one (ps_ret pe_non)) pss_nil)
      (pss_cons (ps_if (PW.pt (pw_or (pt_not (pt_val (fe_call H_is_plain (hr.mono (by walk_at "rm")) (by rfl) pass0 (pa_cons (pe_ix ix_fx (fe_var 0) pe_int (fun _ _ => rfl)) pa_nil)))) (pw_or1 (pt_not (pt_val (fe_call H_is_plain (hr.mono (by walk_at "rm")) (by rfl) pass0 (pa_cons (pe_ix ix_fx (fe_var 0) pe_int (fun _ _ => rfl)) pa_nil))))))) (pss_one (ps_ret pe_non)) pss_nil)
      (pss_one (ps_ret (fe_makeD (k := _) M_Chunk (hr.mono (by walk_at "rm")) (by rfl) pass0 (pa_cons (pe_ix ix_fx (pe_ix ix_fx (fe_var 0) pe_int (fun _ _ => rfl)) pe_int (fun _ _ => rfl)) (pa_cons (pe_ix ix_fx (pe_ix ix_fx (fe_var 0) pe_int (fun _ _ => rfl)) pe_int (fun _ _ => rfl)) (pa_cons (fe_lst pa_nil) pa_nil)))))))), ?_⟩
      walk_at "fx0"
      simp only [tSeq]
      refine cut_ fun N hN => ?_
      repeat (walk_at "oxs")
      refine ⟨_, er, ?_⟩
      have hlt : xs.length = ts.length := Paired.length hp
      by_cases hl3 : xs.length = 3
      · rw [if_neg (fun z => z (by rw [hl3]; rfl))]
        obtain ⟨x1, x2, x3, rfl⟩ : ∃ a b d, xs = [a, b, d] := by
          match xs, hl3 with
          | [a, b, d], _ => exact ⟨a, b, d, rfl⟩
        obtain ⟨t1, t2, t3, rfl⟩ : ∃ a b d, ts = [a, b, d] := by
          match ts, hlt with
          | [a, b, d], _ => exact ⟨a, b, d, rfl⟩
        obtain ⟨⟨⟨a1, rfl, e1⟩, w1⟩, ⟨h2, w2⟩, ⟨h3, w3⟩, _⟩ := (by cases hp with | cons p1 q1 => cases q1 with | cons p2 q2 => cases q2 with | cons p3 q3 => exact ⟨p1, p2, p3, trivial⟩ : (IsTok H x1 t1 ∧ WfT t1) ∧ (IsTok H x2 t2 ∧ WfT t2) ∧ (IsTok H x3 t3 ∧ WfT t3) ∧ True)
        refine ⟨_, er, _, rfl, ?_⟩
        repeat (walk_at "oxs")
        refine ⟨_, rl_t e1, _, rfl, ?_⟩
        repeat (walk_at "oxs")
        have hd0 : ∀ (m : ¬ (t1.kind = "word")), headT [t1, t2, t3] = false := fun m => by show (decide (t1.kind = Str.ofString "word") && _ && _ && _) = _; rw [decide_eq_false m, Bool.false_and, Bool.false_and, Bool.false_and]
        by_cases hw : t1.kind = "word"
        · rw [if_neg (fun z => z hw)]
          obtain ⟨z, ez⟩ : ∃ z, t1.v = .s z := by
            unfold WfT at w1
            cases e : t1.v with
            | s z => exact ⟨z, rfl⟩
            | i n => rw [e] at w1; exact absurd (hw.symm.trans w1.1) (by decide)
            | no => rw [e] at w1; exact absurd (hw.symm.trans w1) (by decide)
          have hd1 : headT [t1, t2, t3] = (decide (z = "function") && plainT t2 && plainT t3) := by show (decide (t1.kind = Str.ofString "word") && _ && _ && _) = _; rw [decide_eq_true hw, Bool.true_and, ez]
          rw [hd1] at hF hT
          refine ⟨_, er, _, rfl, ?_⟩
          repeat (walk_at "oxs")
          refine ⟨_, rl_t e1, _, rfl, ?_⟩
          rw [ez]
          simp only [tvV]
          repeat (walk_at "oxs")
          by_cases hz : z = "function"
          · rw [if_neg (fun y => y hz)]
            rw [decide_eq_true hz, Bool.true_and] at hF hT
            refine hN _ _ ?_
            clear hN N
            simp only [tSeq]
            refine cut_ fun N hN => ?_
            repeat (walk_at "oxs")
            refine ⟨_, er, _, rfl, t2, h2, w2, _, rfl, ?_⟩
            cases p2 : plainT t2 with
            | false =>
              rw [if_pos rfl]
              exact hF (by rw [p2, Bool.false_and])
            | true =>
            rw [p2, Bool.true_and] at hF hT
            rw [if_neg (by simp)]
            refine ⟨_, er, _, rfl, t3, h3, w3, _, rfl, ?_⟩
            cases p3 : plainT t3 with
            | false =>
              rw [if_pos rfl]
              exact hF p3
            | true =>
            rw [if_neg (by simp)]
            refine hN _ _ ?_
            clear hN N
            obtain ⟨a2, rfl, e2⟩ := h2
            obtain ⟨a3, rfl, e3⟩ := h3
            repeat (walk_at "oxs")
            refine ⟨_, er, _, rfl, ?_⟩
            repeat (walk_at "oxs")
            refine ⟨_, rl_t e2, _, rfl, _, er, _, rfl, ?_⟩
            repeat (walk_at "oxs")
            refine ⟨_, rl_t e3, _, rfl, ?_⟩
            repeat (walk_at "oxs")
            intro p H2 np s2 ep
            refine ⟨[], rl_l ep, fun y dx p' q H3 ny s3 ey np' e1 nq e2 n1 n2 n3 => ?_⟩
            exact hT p3 y dx _ _ p' q H3 (s2.free ny) (s2.trans s3) ey (s2.free np') e1 n1
          · rw [if_pos hz]
            exact hF (by rw [decide_eq_false hz, Bool.false_and, Bool.false_and])
        · rw [if_pos hw]
          exact hF (hd0 hw)
      · rw [if_pos (fun z => hl3 (by omega))]
        refine hF ?_
        match ts, hlt with
        | [], _ => rfl
        | [_], _ => rfl
        | [_, _], _ => rfl
        | [_, _, _], q => exact absurd q hl3
        | _ :: _ :: _ :: _ :: _, _ => rfl
    · cases h
/-- the state of reading: the list p of chunks, the rows of the last one -/
def RS (c : Cs) (G H : Hp) (p : Addr) (st : Option Nat) (b : Nat) : Prop := match st with
  | none => H p = some (.lst [])
  | some n => ∃ cvs y dx v1 v2 rl q rs, H p = some (.lst (cvs ++ [.ref y])) ∧ H y = some (.ins c.Chunk dx [("number", v1), ("wanted", v2), ("rows", .ref rl), ("scopes", .ref q)]) ∧ H rl = some (.lst rs) ∧ rs.length = n ∧ G rl = none ∧ cvs.length + n ≤ b ∧ rl ≠ p
def spLine (c : Cs) : Sp := fun vs H Q E => match vs with
  | [.ref p, .ref r] => ∃ G st b xs ts zs, RS c G H p st b ∧ b < 200000 ∧ Keep [p] G H ∧ G p = some (.lst zs) ∧ G r = some (.lst xs) ∧ r ≠ p ∧ Paired (fun x t => IsTok G x t ∧ WfT t) xs ts ∧ ts ≠ [] ∧ KnW (split_ ts).2 ∧ xs.length ≤ 1000 ∧ match lineT st ts with
    | .ok st' => ∀ H', Keep [p] G H' → RS c G H' p st' (b + 1) → Q .non H'
    | .err o m => OutC c H o m E
  | _ => False
theorem lineT_head {st : Option Nat} {t : CT} {ts : List CT} (h : headT (t :: ts) = true) : lineT st (t :: ts) = .ok (some 0) := by
  show (if headT (t :: ts) = true then _ else _) = _
  rw [if_pos h]
theorem lineT_row {st : Option Nat} {t : CT} {ts : List CT} (h : headT (t :: ts) = false) (h2 : rowT (split_ (t :: ts)).2 = false) : lineT st (t :: ts) = .err t.off noLine := by
  show (if headT (t :: ts) = true then _ else if rowT _ = false then _ else _) = _
  rw [h, if_neg (by simp), if_pos h2]
theorem lineT_none {t : CT} {ts : List CT} (h : headT (t :: ts) = false) (h2 : rowT (split_ (t :: ts)).2 = true) : lineT none (t :: ts) = .err t.off noFun := by
  show (if headT (t :: ts) = true then _ else if rowT _ = false then _ else _) = _
  rw [h, if_neg (by simp), h2, if_neg (by simp)]
theorem lineT_some {n : Nat} {t : CT} {ts : List CT} (h : headT (t :: ts) = false) (h2 : rowT (split_ (t :: ts)).2 = true) : lineT (some n) (t :: ts) = if idxOk (split_ (t :: ts)).1 n = true then .ok (some (n + 1)) else .err t.off noIdx := by
  show (if headT (t :: ts) = true then _ else if rowT _ = false then _ else _) = _
  rw [h, if_neg (by simp), h2, if_neg (by simp)]
theorem at_last (xs : List V) (v : V) : atI (xs ++ [v]) (-1) = some v := by
  unfold atI ixN
  rw [List.length_append, List.length_singleton]
  have e : (-1 + ((xs.length : Int) + 1)).toNat = xs.length := by omega
  simp
  rw [if_pos (by omega), e]
  simp
def IdxV (H : Hp) (v : V) (o : Option CT) : Prop := match o with
  | none => v = .non
  | some t => IsTok H v t ∧ WfT t ∧ t.kind = "number"
theorem split_yes {a b : CT} {ts : List CT} (h : a.kind = "number") (h2 : b.kind = "colon") : split_ (a :: b :: ts) = (some a, ts) := by
  show (if a.kind = Str.ofString "number" ∧ b.kind = Str.ofString "colon" then _ else _) = _
  rw [if_pos ⟨h, h2⟩]
theorem split_no1 {a : CT} {ts : List CT} (h : ¬ a.kind = "number") : split_ (a :: ts) = (none, a :: ts) := by
  cases ts with
  | nil => rfl
  | cons b ts =>
    show (if a.kind = Str.ofString "number" ∧ b.kind = Str.ofString "colon" then _ else _) = _
    rw [if_neg (fun z => h z.1)]
theorem split_no2 {a b : CT} {ts : List CT} (h : ¬ b.kind = "colon") : split_ (a :: b :: ts) = (none, a :: b :: ts) := by
  show (if a.kind = Str.ofString "number" ∧ b.kind = Str.ofString "colon" then _ else _) = _
  rw [if_neg (fun z => h z.2)]
theorem cut_two {a b : V} (xs : List V) : cutV (a :: b :: xs) (some 2) none = xs := by
  unfold cutV HT.sIx
  simp
theorem ok_line (A : At K mg "read_line" "read_line" s_read_line ["chunks", "tokens"]) (T : Txt K mg c) (E_InvalidCode : HasE P w K mg base c.InvalidCode "InvalidCode" 2 (two "offset" "message")) (H_row_of : Has P w K mg base CX0 "row_of" 5 ["tokens"] (spRow K c)) (H_head_of : Has P w K mg base CX0 "head_of" 3 ["tokens"] (spHead K c)) : Has P w K mg base (L2.CX P w) "read_line" 6 ["chunks", "tokens"] (spLine c) := by
  have Sc := sc_read_line
  refine hasX_of A Sc (fun vs H Q E h => ?_) (fun cdv f A outer s H vs Q E hr h => ?_)
  · unfold spLine at h; split at h; rfl; cases h
  · unfold spLine at h
    split at h
    · rename_i p r
      obtain ⟨G, st, b, xs, ts, zs, hS, hb, hK, ep, er, nrp, hp, hne, hkw, hl, h⟩ := h
      refine ⟨_, (pss_cons (ps_set (i := 2) Sc.nd rfl (.inl rfl) (pe_ix ix_fx (pe_ix ix_fx (fe_var 1) pe_int (fun _ _ => rfl)) pe_int (fun _ _ => rfl)))
      (pss_cons (ps_set (i := 3) Sc.nd rfl (.inl rfl) (fe_call H_head_of (hr.mono (by walk_at "rm")) (by rfl) pass0 (pa_cons (fe_var 1) pa_nil)))
      (pss_cons (ps_if (pt_cmpR op_fNotN (fe_var 3) pe_non (nomark _)) (pss_cons (ps_expr (fe_bm PySem.F.plainAttrs_list PySem.F.slot_list_append PySem.F.type_list_append isLst_ty mt_fAppend (fe_var 0) (pa_cons (fe_var 3) pa_nil)))
      (pss_one ps_retN)) pss_nil)
      (pss_cons (ps_set (i := 4) Sc.nd rfl (.inl rfl) pe_non)
      (pss_cons (ps_if (PW.pt (pw_and (pt_cmpR op_fGt (pe_callB call_fLen (by rfl) T.no_len (by decide +kernel) (pa_cons (fe_var 1) pa_nil)) pe_int (nomark _)) (pw_and (pt_cmpR (op_fEq hr.units) (pe_ix ix_fx (pe_ix ix_fx (fe_var 1) pe_int (fun _ _ => rfl)) pe_int (fun _ _ => rfl)) pe_str (nomark _)) (pw_and1 (pt_cmpR (op_fEq hr.units) (pe_ix ix_fx (pe_ix ix_fx (fe_var 1) pe_int (fun _ _ => rfl)) pe_int (fun _ _ => rfl)) pe_str (nomark _)))))) (pss_cons (ps_set (i := 4) Sc.nd rfl (.inl rfl) (pe_ix ix_fx (fe_var 1) pe_int (fun _ _ => rfl)))
      (pss_one (ps_set (i := 1) Sc.nd rfl (.inl rfl) (pe_slice sl_fx (fe_var 1) (po_some pe_int) po_none)))) pss_nil)
      (pss_cons (ps_set (i := 5) Sc.nd rfl (.inl rfl) (fe_call H_row_of (hr.mono (by walk_at "rm")) (by rfl) pass0 (pa_cons (fe_var 1) pa_nil)))
      (pss_cons (ps_if (pt_cmpR op_fIsN (fe_var 5) pe_non (nomark _)) (pss_one (fs_raise rfl tk_of E_InvalidCode (by decide) (hr.mono (by walk_at "rm")) (by rfl) (pa_cons (fe_var 2) (pa_cons pe_str pa_nil)))) pss_nil)
      (pss_cons (ps_if (pt_not (pt_fTru (fe_var 0) (fun _ => rfl))) (pss_one (fs_raise rfl tk_of E_InvalidCode (by decide) (hr.mono (by walk_at "rm")) (by rfl) (pa_cons (fe_var 2) (pa_cons pe_str pa_nil)))) pss_nil)
      (pss_cons (ps_if (PW.pt (pw_and (pt_cmpR op_fNotN (fe_var 4) pe_non (nomark _)) (pw_and1 (pt_cmpR (op_fNe hr.units) (pe_ix ix_fx (fe_var 4) pe_int (fun _ _ => rfl)) (pe_callB call_fLen (by rfl) T.no_len (by decide +kernel) (pa_cons (fe_fld (pe_ix ix_fx (fe_var 0) (pe_un un_fNeg pe_int) (fun _ _ => rfl)) T.pl_rows rfl) pa_nil)) (nomark _))))) (pss_one (fs_raise rfl tk_of E_InvalidCode (by decide) (hr.mono (by walk_at "rm")) (by rfl) (pa_cons (fe_var 2) (pa_cons pe_str pa_nil)))) pss_nil)
      (pss_one (ps_expr (fe_bm PySem.F.plainAttrs_list PySem.F.slot_list_append PySem.F.type_list_append isLst_ty mt_fAppend (fe_fld (pe_ix ix_fx (fe_var 0) (pe_un un_fNeg pe_int) (fun _ _ => rfl)) T.pl_rows rfl) (pa_cons (fe_var 5) pa_nil))))))))))))), ?_⟩
      walk_at "fx0"
      simp only [tSeq]
      refine cut_ fun N hN => ?_
      repeat (walk_at "oxs")
      cases hp with
      | nil => exact absurd rfl hne
      | @cons x t xs ts ht hp =>
      have sl := sizeLine_eq
      obtain ⟨⟨a, rfl, ea⟩, wf⟩ := ht
      have hpt : ∀ {x : V} {t : CT}, IsTok G x t → IsTok H x t := fun {x t} ⟨a, e, z⟩ => ⟨a, e, hK _ _ (fun m => by rw [List.mem_singleton.mp m, ep] at z; cases z) z⟩
      have ea1 := (hpt ⟨a, rfl, ea⟩)
      obtain ⟨a', q1, ea1⟩ := ea1
      cases q1
      have er1 : H r = some (.lst (V.ref a :: xs)) := hK _ _ (by simpa using nrp) er
      refine ⟨_, rl_l er1, _, atI_nat (j := 0) rfl, ?_⟩
      repeat (walk_at "oxs")
      refine ⟨_, rl_t ea1, _, rfl, ?_⟩
      refine hN _ _ ?_
      clear hN N
      have hpH : Paired (fun x t => IsTok H x t ∧ WfT t) (V.ref a :: xs) (t :: ts) := .cons ⟨⟨a, rfl, ea1⟩, wf⟩ (Paired.mapP hp fun _ _ z => ⟨hpt z.1, z.2⟩)
      simp only [tSeq]
      refine cut_ fun N hN => ?_
      repeat (walk_at "oxs")
      refine ⟨_, _, er1, hpH, hl, fun hh => ?_, fun hh => ?_⟩
      · refine hN _ _ ?_
        clear hN N
        simp only [tSeq]
        refine cut_ fun N hN => ?_
        repeat (walk_at "oxs")
        refine hN _ _ ?_
        clear hN N
        simp only [tSeq]
        refine cut_ fun N hN => ?_
        repeat (walk_at "oxs")
        refine hN _ _ ?_
        clear hN N
        simp only [tSeq]
        refine cut_ fun N hN => ?_
        repeat (walk_at "oxs")
        have mid : ∀ iv r2 xs2 H2, Same H H2 → H2 r2 = some (.lst xs2) → xs2.length ≤ 1000 → Paired (fun x t => IsTok H2 x t ∧ WfT t) xs2 (split_ (t :: ts)).2 → IdxV H2 iv (split_ (t :: ts)).1 → N [some (.ref p), some (.ref r2), some (.int t.off), some .non, some iv, none] H2 := by
          intro iv r2 xs2 H2 s2 er2 l2 hp2 hiv
          refine hN _ _ ?_
          clear hN N
          simp only [tSeq]
          refine cut_ fun N hN => ?_
          repeat (walk_at "oxs")
          refine ⟨_, _, er2, hp2, hkw, l2, fun hrow H3 s3 => ?_, fun hrow l ys H3 nl s3 el3 => ?_⟩
          · refine hN _ _ ?_
            clear hN N
            rw [lineT_row hh hrow] at h
            repeat (walk_at "oxs")
            exact Out.same h (s2.trans s3)
          · have s03 : Same H H3 := s2.trans s3
            refine hN _ _ ?_
            clear hN N
            simp only [tSeq]
            refine cut_ fun N hN => ?_
            repeat (walk_at "oxs")
            refine hN _ _ ?_
            clear hN N
            simp only [tSeq]
            refine cut_ fun N hN => ?_
            repeat (walk_at "oxs")
            unfold RS at hS
            cases st with
            | none =>
              rw [lineT_none hh hrow] at h
              refine ⟨_, rl_l (s03 _ _ hS), ?_⟩
              rw [if_pos (by rfl)]
              exact Out.same h s03
            | some n =>
            obtain ⟨cvs, y, dx, v1, v2, rl, q, rs, epH, ey, erl, hn, gn, lb, nrl⟩ := hS
            rw [lineT_some hh hrow] at h
            have epH3 := s03 _ _ epH
            have ey3 := s03 _ _ ey
            have erl3 := s03 _ _ erl
            refine ⟨_, rl_l epH3, ?_⟩
            rw [if_neg (by simp)]
            refine hN _ _ ?_
            clear hN N
            simp only [tSeq]
            refine cut_ fun N hN => ?_
            repeat (walk_at "oxs")
            have hlast : atI (cvs ++ [V.ref y]) (-1) = some (.ref y) := at_last cvs (.ref y)
            have fin : (∀ H', Keep [p] G H' → RS c G H' p (some (n + 1)) (b + 1) → Q .non H') → N [some (.ref p), some (.ref r2), some (.int t.off), some .non, some iv, some (.ref l)] H3 := fun h => by
              refine hN _ _ ?_
              clear hN N
              repeat (walk_at "oxs")
              refine ⟨_, rl_l epH3, _, hlast, ?_⟩
              repeat (first | walk_at "oxs" | simp only [ey3])
              repeat (first | walk_at "oxs" | simp only [erl3])
              have nyrl : y ≠ rl := fun z => by rw [z, erl] at ey; cases ey
              have hq := h (upd H3 rl (.lst (rs ++ [.ref l]))) ((hK.trans (Keep.of s03)).updN gn) ⟨cvs, y, dx, v1, v2, rl, q, rs ++ [.ref l], by rw [upd_ne (Ne.symm nrl)]; exact epH3, by rw [upd_ne nyrl]; exact ey3, upd_same, by rw [List.length_append, List.length_singleton, hn], gn, by omega, nrl⟩
              exact ⟨by omega, hq⟩
            have bad : idxOk (split_ (t :: ts)).1 n = false → OutC c H t.off noIdx E := fun e => by
              rw [e, if_neg (by simp)] at h
              exact h
            have good : idxOk (split_ (t :: ts)).1 n = true → ∀ H', Keep [p] G H' → RS c G H' p (some (n + 1)) (b + 1) → Q .non H' := fun e => by
              rw [e, if_pos rfl] at h
              exact h
            cases e0 : (split_ (t :: ts)).1 with
            | none =>
              rw [e0] at hiv good
              have hiv' : iv = .non := hiv
              rw [if_neg (fun z => z hiv')]
              exact fin (good rfl)
            | some t9 =>
            rw [e0] at hiv good bad
            obtain ⟨⟨a9, rfl, e9⟩, w9, k9⟩ := hiv
            have e9' := s3 _ _ e9
            rw [if_pos (fun z => by cases z)]
            refine ⟨_, rl_t e9', _, rfl, ?_⟩
            refine ⟨_, rl_l epH3, _, hlast, ?_⟩
            repeat (first | walk_at "oxs" | simp only [ey3])
            refine ⟨_, rl_l erl3, ?_⟩
            unfold WfT at w9
            cases ev : t9.v with
            | s z => rw [ev] at w9; exact absurd k9 w9
            | no =>
              simp only [tvV]
              repeat (walk_at "oxs")
              exact Out.same (bad (by simp only [idxOk, ev])) s03
            | i k =>
              simp only [tvV]
              repeat (walk_at "oxs")
              have ei : idxOk (some t9) n = decide (k = (n : Int)) := by simp only [idxOk, ev]
              by_cases hk : k = (n : Int)
              · rw [if_neg (fun z => z (by rw [hn]; exact hk))]
                exact fin (good (by rw [ei]; exact decide_eq_true hk))
              · rw [if_pos (fun z => hk (by rw [hn] at z; exact z))]
                exact Out.same (bad (by rw [ei]; exact decide_eq_false hk)) s03
        have mid0 : (split_ (t :: ts)) = (none, t :: ts) → N [some (.ref p), some (.ref r), some (.int t.off), some .non, some .non, none] H := fun e => mid .non r _ H (fun _ _ h => h) er1 hl (by rw [e]; exact hpH) (by rw [e]; rfl)
        refine ⟨_, rl_l er1, ?_⟩
        cases hp with
        | nil =>
          rw [if_neg (by simp)]
          exact mid0 rfl
        | @cons x' t' xs ts ht' hp =>
        obtain ⟨⟨a', rfl, ea'⟩, wf'⟩ := ht'
        rw [if_pos (by simp only [List.length_cons]; omega)]
        refine ⟨_, rl_l er1, _, atI_nat (j := 0) rfl, ?_⟩
        repeat (walk_at "oxs")
        refine ⟨_, rl_t ea1, _, rfl, ?_⟩
        repeat (walk_at "oxs")
        by_cases hk : t.kind = "number"
        · rw [if_pos hk]
          refine ⟨_, rl_l er1, _, atI_nat (j := 1) rfl, ?_⟩
          repeat (walk_at "oxs")
          obtain ⟨a9, q9, ea9⟩ := hpt ⟨a', rfl, ea'⟩
          cases q9
          refine ⟨_, rl_t ea9, _, rfl, ?_⟩
          repeat (walk_at "oxs")
          by_cases hk2 : t'.kind = "colon"
          · rw [if_pos hk2]
            have e := split_yes (ts := ts) hk hk2
            refine ⟨_, rl_l er1, _, atI_nat (j := 0) rfl, ?_⟩
            refine ⟨_, SqL.of er1, fun p2 H2 np2 s2 ep2 => ?_⟩
            rw [cut_two] at ep2
            refine mid _ p2 xs H2 s2 ep2 (by simp only [List.length_cons] at hl; omega) ?_ ?_
            · rw [e]
              exact Paired.mapP hp fun _ _ z => ⟨(hpt z.1).same s2, z.2⟩
            · rw [e]
              exact ⟨⟨a, rfl, s2 _ _ ea1⟩, wf, hk⟩
          · rw [if_neg hk2]
            exact mid0 (split_no2 hk2)
        · rw [if_neg hk]
          exact mid0 (split_no1 hk)
      · rw [lineT_head hh] at h
        intro y dx v1 v2 rl q H1 ny s1 ey nrl e1 n1
        refine hN _ _ ?_
        clear hN N
        have hfin : ∀ zs2 : List V, H p = some (.lst zs2) → zs2.length ≤ b + 1 → (match H1 p with | some (.lst xs) => True | _ => False) ∧ match H1 p with | some (.lst xs) => xs.length < sizeLine ∧ Q .non (upd H1 p (.lst (xs ++ [.ref y]))) | _ => False := fun zs2 e lz => by
          rw [s1 _ _ e]
          have npy : p ≠ y := fun z => by rw [← z, e] at ny; cases ny
          have nprl : p ≠ rl := fun z => by rw [← z, e] at nrl; cases nrl
          have gn : G rl = none := by
            cases e9 : G rl with
            | none => rfl
            | some o => rw [hK _ _ (by simpa using Ne.symm nprl) e9] at nrl; cases nrl
          refine ⟨trivial, by omega, h _ ((hK.trans (Keep.of s1)).upd (by simp)) ⟨zs2, y, dx, v1, v2, rl, q, [], upd_same, by rw [upd_ne (Ne.symm npy)]; exact ey, by rw [upd_ne (Ne.symm nprl)]; exact e1, rfl, gn, lz, Ne.symm nprl⟩⟩
        repeat (walk_at "oxs")
        unfold RS at hS
        cases st with
        | none => exact hfin [] hS (Nat.zero_le _)
        | some n =>
          obtain ⟨cvs, y', dx', w1, w2, rl', q', rs', e1', _, _, _, _, lb, _⟩ := hS
          exact hfin _ e1' (by rw [List.length_append, List.length_singleton]; omega)
    · cases h
theorem wf_paired {H : Hp} : ∀ {vs : List V} {ts : List CT}, Paired (IsTok H) vs ts → (∀ t ∈ ts, WfT t) → Paired (fun x t => IsTok H x t ∧ WfT t) vs ts
  | _, _, .nil, _ => .nil
  | _, _, .cons a b, h => .cons ⟨a, h _ (by simp)⟩ (wf_paired b fun t m => h t (by simp [m]))
theorem kn_of {ts : List CT} (h : knB knownW ts = true) : KnW ts := by
  cases ts with
  | nil => trivial
  | cons t ts =>
    intro hw
    have h : (!decide (t.kind = Str.ofString "word") || (match t.v with | .s z => decide (z ∈ knownW) | _ => false)) = true := h
    rw [decide_eq_true hw] at h
    cases e : t.v with
    | s z => rw [e] at h; exact ⟨z, rfl, of_decide_eq_true (by simpa using h)⟩
    | i n => rw [e] at h; cases h
    | no => rw [e] at h; cases h
def spRead (c : Cs) : Sp := fun vs H Q E => match vs with
  | [.str z] => ∃ o, Res knownW (L z) o ∧ match o with
    | none => ∀ p H1, H p = none → Same H H1 → Q (.ref p) H1
    | some (a, m) => OutC c H a m E
  | _ => False
def RdI (c : Cs) (H2 : Hp) (z : Str) (p : Addr) (fl : List (List CT)) (i : Nat) (σ : L2.St) (H' : Hp) : Prop := ∃ v2 st, σ = [some (.str z), some (.ref p), v2] ∧ Keep [p] H2 H' ∧ RS c H2 H' p st i ∧ readT none fl = readT st (fl.drop i)
theorem ok_read (A : At K mg "read_code" "read_code" s_read_code ["text"]) (T : Txt K mg c) (H_lines_of : Has P w K mg base (L2.CX P w) "lines_of" 5 ["text"] (spLines c)) (H_read_line : Has P w K mg base (L2.CX P w) "read_line" 6 ["chunks", "tokens"] (spLine c)) : Has P w K mg base (L2.CX P w) "read_code" 7 ["text"] (spRead c) := by
  have Sc := sc_read_code
  refine hasX_of A Sc (fun vs H Q E h => ?_) (fun cdv f A outer s H vs Q E hr h => ?_)
  · unfold spRead at h; split at h; rfl; cases h
  · unfold spRead at h
    split at h
    · rename_i z
      obtain ⟨o, ⟨hz, he, hres⟩, h⟩ := h
      refine ⟨_, (pss_cons (ps_set (i := 1) Sc.nd rfl (.inl rfl) (fe_lst pa_nil))
      (pss_cons (ps_for (passes_of rfl) rfl (pi_list (fe_callX H_lines_of (hr.mono (by walk_at "rm")) (by rfl) tk_of (pa_cons (fe_var 0) pa_nil))) (pg_name (i := 2) Sc.nd rfl (.inl rfl)) (pss_one (ps_expr (fe_callX H_read_line (hr.mono (by walk_at "rm")) (by rfl) tk_of (pa_cons (fe_var 1) (pa_cons (fe_var 2) pa_nil))))))
      (pss_one (ps_ret (fe_var 1))))), ?_⟩
      walk_at "fx0"
      simp only [tSeq]
      refine cut_ fun N hN => ?_
      repeat (walk_at "oxs")
      intro p H1 np s1 ep
      refine hN _ _ ?_
      clear hN N
      simp only [tSeq]
      refine cut_ fun N hN => for_ ?_
      repeat (walk_at "oxs")
      refine ⟨hz, he, ?_⟩
      cases el : lin 0 (L z) [] [] with
      | err a m =>
        rw [el] at hres
        subst hres
        exact Out.same h s1
      | ok ls =>
      rw [el] at hres
      obtain ⟨lls, hok, hres⟩ := hres
      dsimp only
      intro D us H2 nD s2 eD hus
      have ep2 := s2 _ _ ep
      have sm02 : Same H H2 := s1.trans s2
      have nDp : D ≠ p := fun z => by rw [z, ep] at nD; cases nD
      have hlen : us.length = (ls.filter fun l => !l.isEmpty).length := Paired.length hus
      have hlf : (ls.filter fun l => !l.isEmpty).length ≤ ls.length := List.length_filter_le _ _
      have hokf : ∀ ts ∈ (ls.filter fun l => !l.isEmpty), okL knownW ts = true ∧ ts ≠ [] := fun ts m => by
        rw [List.mem_filter] at m
        refine ⟨hok ts m.1, fun e => ?_⟩
        rw [e] at m
        exact absurd m.2 (by simp)
      generalize (ls.filter fun l => !l.isEmpty) = fl at *
      refine ⟨_, rfl, ⟨_, SqL.of eD⟩, ?_⟩
      refine loop_list us (RdI c H2 z p fl) ⟨_, none, rfl, Keep.refl, ep2, rfl⟩ (fun i σ H' _ h => ?_) (fun i x σ H' hx h' => ?_) fun σ H' h' => ?_
      · obtain ⟨v2, st, rfl, k, _⟩ := h
        exact SqL.of (k _ _ (by simpa using nDp) eD)
      · obtain ⟨v2, st, rfl, k, rs, hq⟩ := h'
        obtain ⟨ts, et, hts⟩ := paired_get hus hx
        obtain ⟨a, vs, rfl, ha0, hax, ha, htk⟩ := hts
        obtain ⟨hk1, hne⟩ := hokf ts (List.mem_of_getElem? et)
        have hi := (List.getElem?_eq_some_iff.mp hx).1
        have nap : a ≠ p := fun z => by rw [z, ep] at ha0; cases ha0
        rw [drop_cons et] at hq
        have hpw : Paired (fun x t => IsTok H2 x t ∧ WfT t) vs ts := wf_paired htk (okL_wf hk1)
        repeat (walk_at "oxs")
        refine ⟨H2, st, i, vs, ts, _, rs, by omega, k, ep2, ha, nap, hpw, hne, kn_of (okL_kn hk1), by rw [Paired.length htk]; exact okL_len hk1, ?_⟩
        cases el2 : lineT st ts with
        | ok st' =>
          intro H5 k5 r5
          refine ⟨_, st', rfl, k5, r5, ?_⟩
          rw [hq]
          show (match lineT st ts with | .ok st' => readT st' _ | .err o m => .err o m) = _
          rw [el2]
        | err o2 m =>
          have : readT none fl = .err o2 m := by
            rw [hq]
            show (match lineT st ts with | .ok st' => readT st' _ | .err o m => .err o m) = _
            rw [el2]
          rw [this] at hres
          subst hres
          exact Out.same h (fun b o eb => k b o (fun m => by rw [List.mem_singleton.mp m, np] at eb; cases eb) (sm02 _ _ eb))
      · obtain ⟨v2, st, rfl, k, rs, hq⟩ := h'
        refine hN _ _ ?_
        clear hN N
        repeat (walk_at "oxs")
        rw [hlen, List.drop_length] at hq
        have hq2 : readT none fl = .ok st := hq
        rw [hq2] at hres
        subst hres
        refine h p H' np fun b o eb => k b o (fun m => by rw [List.mem_singleton.mp m, np] at eb; cases eb) (sm02 _ _ eb)
    · cases h
end

section
variable {P : Program} {w : World} {K : PySem.W.Frag} {mg : Str → Option Value} {base : Heap} {c : Cs}
open Cd
def newT (xs : List V) (H : Hp) (Q : VK) : Prop := ∀ p H1, H p = none → Same H H1 → H1 p = some (.tup xs) → Q (.ref p) H1
def spLTold : Sp := fun vs H Q _ => match vs with
  | [.str z] => ∃ o, Res knownW (L z) o ∧ match o with
    | none => ∀ H1, Same H H1 → Q .non H1
    | some (a, m) => newT [.int (a : Nat), .str m, .bl true] H Q
  | _ => False
theorem ok_ltold (A : At K mg "_law_told" "_law_told" s_law_told ["text"]) (T : Txt K mg c) (H_read_code : Has P w K mg base (L2.CX P w) "read_code" 7 ["text"] (spRead c)) : Has P w K mg base CX0 "_law_told" 8 ["text"] spLTold := by
  have Sc := sc_law_told
  refine has_of A Sc (fun vs H Q E h => ?_) (fun cdv f A outer s H vs Q E hr h => ?_)
  · unfold spLTold at h; split at h; rfl; cases h
  · unfold spLTold at h
    split at h
    · rename_i z
      obtain ⟨o, hr0, h⟩ := h
      refine ⟨_, (pss_cons (ps_try_as (i := 1) rfl rfl Sc.nd rfl rfl ⟨by rfl, by decide, .inl T.mg_InvalidCode⟩ takes0
      (fun W0 _ _ tk0 po0 => (pss_one (ps_expr (fe_callX H_read_code (hr.mono (by walk_at "rm")) (by rfl) tk0 (pa_cons (fe_var 0) pa_nil)))))
      (fun a0 oe0 cls0 d0 pn0 hz0 hf0 => (pss_one (ps_ret (fe_tup (pa_cons (fe_xf T.xpl_offset hz0 hf0 (fe_var 1) rfl) (pa_cons (fe_xf T.xpl_message hz0 hf0 (fe_var 1) rfl) (pa_cons (pe_and (pe_callB (call_fIsE T.xf T.ob hz0 hf0) (by rfl) T.no_isinstance (by decide +kernel) (pa_cons (fe_var 1) (pa_cons (pe_glob (v := .ref c.LivequillError) (by rfl) T.mg_LivequillError rfl) pa_nil))) (pe_one (pe_not (pe_callB (call_fIsE T.xf T.ob hz0 hf0) (by rfl) T.no_isinstance (by decide +kernel) (pa_cons (fe_var 1) (pa_cons (pe_glob (v := .ref c.InvalidText) (by rfl) T.mg_InvalidText rfl) pa_nil)))))) pa_nil))))))))
      (pss_one (ps_ret pe_non))), ?_⟩
      walk_at "fx0"
      walk_at "ox"
      refine ⟨o, hr0, ?_⟩
      cases o with
      | none =>
        intro p H1 np s1
        repeat (walk_at "oxs")
        exact h H1 s1
      | some am =>
        obtain ⟨a, m⟩ := am
        dsimp only at h ⊢
        unfold OutC Out
        intro d H3 nd s3 ed
        unfold WE wAs
        refine ⟨_, T.em_InvalidCode_InvalidCode, fun _ a0 na0 => ?_, fun z => by cases z⟩
        repeat (first | walk_at "oxs" | simp only [ed])
        refine ⟨_, T.ko_InvalidCode_LivequillError, ?_⟩
        rw [if_pos rfl]
        exact ⟨_, T.ko_InvalidCode_InvalidText, fun p H2 np s2 ep => h p H2 (s3.free np) (s3.trans s2) ep⟩
    · cases h
end

section
variable {P : Program} {w : World} {K : PySem.W.Frag} {mg : Str → Option Value} {base : Heap} {c : Cs}
open Cd
theorem Dr.ne2 {H0 : Hp} {s sc : Addr} {ns : List Int} {H : Hp} (d : Dr K H0 s sc ns H) {p : Addr} (np : H p = none) : p ≠ s := fun z => by
  obtain ⟨a, j, e, _⟩ := d.st
  rw [z, e] at np; cases np
def spLStr (K : PySem.W.Frag) (xs : List Str) : Sp := fun vs H Q _ => match vs with
  | [.ref st] => ∃ H0 sc ns, Dr K H0 st sc ns H ∧ ∀ z ∈ xs, ∀ H1, Keep [st] H H1 → Dr K H0 st sc ns H1 → Q (.str z) H1
  | _ => False
theorem ok_lright (A : At K mg "_law_right" "_law_right" s_law_right ["state"]) (T : Txt K mg c) (H_law_pick : Has P w K mg base CX0 "_law_pick" 3 ["state", "row"] (spPick2 K)) : Has P w K mg base CX0 "_law_right" 4 ["state"] (spLStr K rights36) := by
  have Sc := sc_law_right
  refine has_of A Sc (fun vs H Q E h => ?_) (fun cdv f A outer s H vs Q E hr h => ?_)
  · unfold spLStr at h; split at h; rfl; cases h
  · unfold spLStr at h
    split at h
    · rename_i st
      obtain ⟨H0, sc, ns, D, h⟩ := h
      refine ⟨_, (pss_one (ps_ret (fe_call H_law_pick (hr.mono (by walk_at "rm")) (by rfl) pass0 (pa_cons (fe_var 0) (pa_cons (fe_tup (pa_cons pe_str (pa_cons pe_str (pa_cons pe_str (pa_cons pe_str (pa_cons pe_str (pa_cons pe_str (pa_cons pe_str (pa_cons pe_str pa_nil))))))))) pa_nil))))), ?_⟩
      walk_at "fx0"
      repeat (walk_at "oxs")
      intro p H2 np s2 ep
      have nps := D.ne2 np
      refine ⟨H0, sc, ns, _, D.same s2, fun H3 k3 => rl_t (k3 _ _ (by simpa using nps) ep), by simp, by simp, fun H3 v k3 D3 hv => ?_⟩
      obtain ⟨z, hz, rfl⟩ := List.mem_map.mp (show v ∈ rights36.map V.str from hv)
      exact h z hz H3 ((Keep.of s2).trans k3) D3
    · cases h
/-- a row of constants, walked at one go -/
def csT : List V → TA → TA
  | [], r => r
  | z :: zs, r => tCons (tC z) (csT zs r)
theorem csT_ev : ∀ (zs : List V) (r : TA) (σ : L2.St) (H : Hp) (Q : List V → Hp → Prop), csT zs r σ H Q = r σ H fun xs H1 => Q (zs ++ xs) H1
  | [], _, _, _, _ => rfl
  | z :: zs, r, σ, H, Q => csT_ev zs r σ H fun xs H1 => Q (z :: xs) H1
theorem mem_lines2 {v : V} {n : Int} (h9 : (301 : Int) = n) (h : v ∈ (lines36.take 25).map V.str ++ [V.str (Str.ofString "const " ++ Txt.mul (Str.ofString "9") n), V.str (Str.ofString "set item 1")]) : ∃ z ∈ lines36, v = .str z := by
  rcases List.mem_append.mp h with h | h
  · obtain ⟨z, hz, e⟩ := List.mem_map.mp h
    exact ⟨z, List.mem_of_mem_take hz, e.symm⟩
  · rcases List.mem_cons.mp h with h | h
    · rw [(nines h9).2.2] at h
      exact ⟨_, List.mem_of_getElem? (i := 25) rfl, h⟩
    · exact ⟨_, List.mem_of_getElem? (i := 26) rfl, List.mem_singleton.mp h⟩
theorem ok_lline (A : At K mg "_law_line" "_law_line" s_law_line ["state"]) (T : Txt K mg c) (H_law_pick : Has P w K mg base CX0 "_law_pick" 3 ["state", "row"] (spPick2 K)) : Has P w K mg base CX0 "_law_line" 4 ["state"] (spLStr K lines36) := by
  have Sc := sc_law_line
  refine has_of A Sc (fun vs H Q E h => ?_) (fun cdv f A outer s H vs Q E hr h => ?_)
  · unfold spLStr at h; split at h; rfl; cases h
  · unfold spLStr at h
    split at h
    · rename_i st
      obtain ⟨H0, sc, ns, D, h⟩ := h
      refine ⟨_, (pss_one (ps_ret (fe_call H_law_pick (hr.mono (by walk_at "rm")) (by rfl) pass0 (pa_cons (fe_var 0) (pa_cons (fe_tup (pa_cons pe_str (pa_cons pe_str (pa_cons pe_str (pa_cons pe_str (pa_cons pe_str (pa_cons pe_str (pa_cons pe_str (pa_cons pe_str (pa_cons pe_str (pa_cons pe_str (pa_cons pe_str (pa_cons pe_str (pa_cons pe_str (pa_cons pe_str (pa_cons pe_str (pa_cons pe_str (pa_cons pe_str (pa_cons pe_str (pa_cons pe_str (pa_cons pe_str (pa_cons pe_str (pa_cons pe_str (pa_cons pe_str (pa_cons pe_str (pa_cons pe_str (pa_cons (pe_op op_fAdd pe_str (pe_op op_fMul pe_str pe_int)) (pa_cons pe_str pa_nil)))))))))))))))))))))))))))) pa_nil))))), ?_⟩
      generalize h9 : (301 : Int) = n9
      walk_at "fx0"
      change tRet (tCall (spPick2 K) [] E0 (tCons (fVar 0) (tCons (fTup (csT ((lines36.take 25).map V.str) (tCons _ (tCons (tC (V.str (Str.ofString "set item 1"))) tNil)))) tNil))) _ _ _
      have hm := nines h9
      have hl : ((lines36.take 25).map V.str).length = 25 := rfl
      have hmem := fun v => mem_lines2 (v := v) h9
      generalize (lines36.take 25).map V.str = zs at hl hmem ⊢
      simp only [tRet, tCall, tCons, fVar, fTup]
      simp only [csT_ev]
      repeat (walk_at "oxs")
      refine ⟨hm.1, by rw [hm.2.1]; exact len_line (by decide), by rw [List.length_append, hl]; simp, ?_⟩
      clear hm
      intro p H2 np s2 ep
      have nps := D.ne2 np
      refine ⟨H0, sc, ns, _, D.same s2, fun H3 k3 => rl_t (k3 _ _ (by simpa using nps) ep), by rw [List.length_append, hl]; simp, by rw [List.length_append, hl]; simp, fun H3 v k3 D3 hv => ?_⟩
      obtain ⟨z, hz, rfl⟩ := hmem _ hv
      exact h z hz H3 ((Keep.of s2).trans k3) D3
    · cases h
def spLCut (K : PySem.W.Frag) : Sp := fun vs H Q _ => match vs with
  | [.ref st] => ∃ H0 sc ns, Dr K H0 st sc ns H ∧ ∀ q m H1 p, ((q ∈ quotes36 ∧ m = badQ) ∨ (q ∈ cuts36 ∧ m = badC)) → Keep [st] H H1 → Dr K H0 st sc ns H1 → H1 p = some (.tup [.str q.1, .int (q.2 : Nat), .str m]) → Q (.ref p) H1
  | _ => False
theorem ok_lcut (A : At K mg "_law_cut" "_law_cut" s_law_cut ["state"]) (T : Txt K mg c) (H_law_draw : Has P w K mg base CX0 "_law_draw" 2 ["state", "many"] (spDraw K)) (H_law_pick : Has P w K mg base CX0 "_law_pick" 3 ["state", "row"] (spPick2 K)) : Has P w K mg base CX0 "_law_cut" 4 ["state"] (spLCut K) := by
  have Sc := sc_law_cut
  refine has_of A Sc (fun vs H Q E h => ?_) (fun cdv f A outer s H vs Q E hr h => ?_)
  · unfold spLCut at h; split at h; rfl; cases h
  · unfold spLCut at h
    split at h
    · rename_i st
      obtain ⟨H0, sc, ns, D, h⟩ := h
      refine ⟨_, (pss_cons (ps_set (i := 1) Sc.nd rfl (.inl rfl) (fe_call H_law_pick (hr.mono (by walk_at "rm")) (by rfl) pass0 (pa_cons (fe_var 0) (pa_cons (fe_tup (pa_cons pe_str (pa_cons pe_str (pa_cons pe_str (pa_cons pe_str (pa_cons pe_str pa_nil)))))) pa_nil))))
      (pss_cons (ps_if (pt_cmpR (op_fEq hr.units) (fe_call H_law_draw (hr.mono (by walk_at "rm")) (by rfl) pass0 (pa_cons (fe_var 0) (pa_cons pe_int pa_nil))) pe_int (nomark _)) (pss_one (ps_ret (fe_tup (pa_cons (fe_var 1) (pa_cons (fe_bm PySem.F.plainAttrs_str PySem.F.slot_str_find PySem.F.type_str_find isStr_ty mt_fFind (fe_var 1) (pa_cons pe_str pa_nil)) (pa_cons pe_str pa_nil)))))) pss_nil)
      (pss_cons (ps_set (i := 2) Sc.nd rfl (.inl rfl) (fe_call H_law_pick (hr.mono (by walk_at "rm")) (by rfl) pass0 (pa_cons (fe_var 0) (pa_cons (fe_tup (pa_cons pe_str (pa_cons pe_str (pa_cons pe_str (pa_cons pe_str (pa_cons pe_str (pa_cons pe_str (pa_cons pe_str (pa_cons pe_str (pa_cons pe_str (pa_cons pe_str pa_nil))))))))))) pa_nil))))
      (pss_cons (ps_set (i := 3) Sc.nd rfl (.inl rfl) (fe_call H_law_pick (hr.mono (by walk_at "rm")) (by rfl) pass0 (pa_cons (fe_var 0) (pa_cons (fe_tup (pa_cons pe_str (pa_cons pe_str (pa_cons pe_str (pa_cons pe_str pa_nil))))) pa_nil))))
      (pss_one (ps_ret (fe_tup (pa_cons (pe_op op_fAdd (fe_var 3) (fe_var 2)) (pa_cons (pe_callB call_fLen (by rfl) T.no_len (by decide +kernel) (pa_cons (fe_var 3) pa_nil)) (pa_cons pe_str pa_nil)))))))))), ?_⟩
      walk_at "fx0"
      repeat (walk_at "oxs")
      intro p H2 np s2 ep
      have nps := D.ne2 np
      refine ⟨H0, sc, ns, _, D.same s2, fun H3 k3 => rl_t (k3 _ _ (by simpa using nps) ep), by simp, by simp, fun H3 v k3 D3 hv => ?_⟩
      have k03 := (Keep.of (ps := [st]) s2).trans k3
      obtain ⟨q, hq, rfl⟩ := List.mem_map.mp (show v ∈ quotes36.map (fun q => V.str q.1) from hv)
      refine ⟨H0, sc, ns, D3, by omega, by omega, fun H4 d k4 D4 d0 d1 => ?_⟩
      have k04 := k03.trans k4
      repeat (walk_at "oxs")
      obtain ⟨ef, lq⟩ := find_q q hq
      by_cases hd : d = 0
      · rw [if_pos hd]
        intro p5 H5 np5 s5 ep5
        exact h q _ H5 p5 (.inl ⟨hq, rfl⟩) (k04.trans (Keep.of s5)) (D4.same s5) (by rw [ep5, ef]; rfl)
      · rw [if_neg hd]
        intro p5 H5 np5 s5 ep5
        have nps5 := D4.ne2 np5
        refine ⟨H0, sc, ns, _, D4.same s5, fun H3 k3 => rl_t (k3 _ _ (by simpa using nps5) ep5), by simp, by simp, fun H6 v k6 D6 hv => ?_⟩
        obtain ⟨s, hs, rfl⟩ := List.mem_map.mp (show v ∈ signs36.map V.str from hv)
        have k06 := (k04.trans (Keep.of s5)).trans k6
        intro p7 H7 np7 s7 ep7
        have nps7 := D6.ne2 np7
        refine ⟨H0, sc, ns, _, D6.same s7, fun H3 k3 => rl_t (k3 _ _ (by simpa using nps7) ep7), by simp, by simp, fun H8 v k8 D8 hv => ?_⟩
        obtain ⟨f, hf, rfl⟩ := List.mem_map.mp (show v ∈ firsts36.map V.str from hv)
        have k08 := (k06.trans (Keep.of s7)).trans k8
        obtain ⟨hc, l1, l2⟩ := cuts_of f hf s hs
        have sl := sizeLine_eq
        repeat (walk_at "oxs")
        refine ⟨by omega, by omega, fun p9 H9 np9 s9 ep9 => ?_⟩
        exact h _ _ H9 p9 (.inr ⟨hc, rfl⟩) (k08.trans (Keep.of s9)) (D8.same s9) ep9
    · cases h
def spLIdx (K : PySem.W.Frag) : Sp := fun vs H Q _ => match vs with
  | [.ref st, .int m] => ∃ H0 sc ns, ∃ n : Nat, m = (n : Nat) ∧ n ≤ 5 ∧ Dr K H0 st sc ns H ∧ ∀ z, (∃ a : Int, -1 ≤ a ∧ a ≤ 12 ∧ ¬ a = (n : Int) ∧ z = Str.ofString (toString a) ++ Str.ofString ": pop") → ∀ H1, Keep [st] H H1 → Dr K H0 st sc ns H1 → Q (.str z) H1
  | _ => False
theorem ok_lidx (A : At K mg "_law_index" "_law_index" s_law_index ["state", "many"]) (T : Txt K mg c) (H_law_pick : Has P w K mg base CX0 "_law_pick" 3 ["state", "row"] (spPick2 K)) : Has P w K mg base CX0 "_law_index" 4 ["state", "many"] (spLIdx K) := by
  have Sc := sc_law_index
  refine has_of A Sc (fun vs H Q E h => ?_) (fun cdv f A outer s H vs Q E hr h => ?_)
  · unfold spLIdx at h; split at h; rfl; cases h
  · unfold spLIdx at h
    split at h
    · rename_i st m
      obtain ⟨H0, sc, ns, n, rfl, hn, D, h⟩ := h
      refine ⟨_, (pss_cons (ps_set (i := 2) Sc.nd rfl (.inl rfl) (fe_call H_law_pick (hr.mono (by walk_at "rm")) (by rfl) pass0 (pa_cons (fe_var 0) (pa_cons (fe_tup (pa_cons (pe_op op_fAdd (fe_var 1) pe_int) (pa_cons (pe_op op_fAdd (fe_var 1) pe_int) (pa_cons pe_int (pa_cons (pe_un un_fNeg pe_int) pa_nil))))) pa_nil))))
      (pss_cons (ps_if (pt_cmpR (op_fEq hr.units) (fe_var 2) (fe_var 1) (nomark _)) (pss_one (ps_set (i := 2) Sc.nd rfl (.inl rfl) (pe_op op_fAdd (fe_var 1) pe_int))) pss_nil)
      (pss_one (ps_ret (pe_op op_fAdd (pe_callTy call_fStr (by rfl) T.no_str (by decide +kernel) (pa_cons (fe_var 2) pa_nil)) pe_str))))), ?_⟩
      walk_at "fx0"
      repeat (walk_at "oxs")
      intro p H2 np s2 ep
      have nps := D.ne2 np
      refine ⟨H0, sc, ns, _, D.same s2, fun H3 k3 => rl_t (k3 _ _ (by simpa using nps) ep), by simp, by simp, fun H3 v k3 D3 hv => ?_⟩
      have k03 := (Keep.of (ps := [st]) s2).trans k3
      obtain ⟨a, rfl, ha⟩ : ∃ a : Int, v = .int a ∧ (a = n + 1 ∨ a = n + 7 ∨ a = 0 ∨ a = -1) := by
        simp only [List.mem_cons, List.not_mem_nil, or_false] at hv
        rcases hv with rfl | rfl | rfl | rfl
        · exact ⟨_, rfl, .inl rfl⟩
        · exact ⟨_, rfl, .inr (.inl rfl)⟩
        · exact ⟨_, rfl, .inr (.inr (.inl rfl))⟩
        · exact ⟨_, rfl, .inr (.inr (.inr rfl))⟩
      have sl := sizeLine_eq
      have fin : ∀ b : Int, -1 ≤ b → b ≤ 12 → ¬ b = (n : Int) → b.natAbs.log2 < 1920 ∧ (Str.ofString (toString b)).length + (Str.ofString ": pop").length ≤ sizeLine ∧ Q (.str (Str.ofString (toString b) ++ Str.ofString ": pop")) H3 := fun b b0 b1 bn => by
        obtain ⟨q1, q2, _⟩ := idx_ok b b0 b1
        exact ⟨q1, by omega, h _ ⟨b, b0, b1, bn, rfl⟩ H3 k03 D3⟩
      repeat (walk_at "oxs")
      by_cases he : a = (n : Int)
      · rw [if_pos he]
        exact fin _ (by omega) (by omega) (by omega)
      · rw [if_neg he]
        exact fin _ (by omega) (by omega) he
    · cases h
end

section
variable {P : Program} {w : World} {K : PySem.W.Frag} {mg : Str → Option Value} {base : Heap} {c : Cs}
open Cd
def spLInt : Sp := fun vs H Q _ => match vs with
  | [.int _] => Q (.bl true) H
  | _ => False
theorem ok_lint (A : At K mg "_law_is_integer" "_law_is_integer" s_law_is_integer ["told"]) (T : Txt K mg c) : Has P w K mg base CX0 "_law_is_integer" 1 ["told"] spLInt := by
  have Sc := sc_law_is_integer
  refine has_of A Sc (fun vs H Q E h => ?_) (fun cdv f A outer s H vs Q E hr h => ?_)
  · unfold spLInt at h; split at h; rfl; cases h
  · unfold spLInt at h
    split at h
    · refine ⟨_, (pss_one (ps_ret (pe_and (pe_callB (call_fIsiA T.kit) (by rfl) T.no_isinstance (by decide +kernel) (pa_cons (fe_var 0) (pa_cons (fe_ty (n := "int") (by rfl) T.no_int (by decide +kernel)) pa_nil))) (pe_one (pe_not (pe_callB (call_fIsiA T.kit) (by rfl) T.no_isinstance (by decide +kernel) (pa_cons (fe_var 0) (pa_cons (fe_ty (n := "bool") (by rfl) T.no_bool (by decide +kernel)) pa_nil)))))))), ?_⟩
      walk_at "fx0"
      repeat (walk_at "oxs")
      exact h
    · cases h
def spLaw (K : PySem.W.Frag) : Sp := fun vs H Q _ => ∃ (a : Addr) (ns : List Int), vs = [.ref a] ∧ SqL K H a (ns.map V.int) ∧ ns.length ≤ 63 ∧ ∀ H', Q (.bl true) H'
def LawI (H0 : Hp) (sc : Addr) (k : Nat) (σ : L2.St) (H : Hp) : Prop := ∃ v1 v2 v3 v4 v5 v6 v7 v8 v9 v10 v11 v12 v13 v14, σ = [some (.ref sc), v1, v2, v3, v4, v5, v6, v7, v8, v9, v10, v11, v12, v13, v14] ∧ Same H0 H
def TxI (K : PySem.W.Frag) (H : Hp) (s sc : Addr) (ns : List Int) (k many : Nat) (v7 v8 v9 v10 v11 v12 v13 v14 : Option V) (j : Nat) (σ : L2.St) (H' : Hp) : Prop := ∃ z v6, σ = [some (.ref sc), some (.int k), some (.ref s), some (.str z), some (.int (many : Nat)), some (.bl true), v6, v7, v8, v9, v10, v11, v12, v13, v14] ∧ Dr K H s sc ns H' ∧ Tx kw36 (L z) (some j) ∧ z.length ≤ 20 + 30 * j
theorem L_app (a b : Str) : L (a ++ b) = L a ++ L b := Array.toList_append
theorem str_len_app (a b : Str) : (a ++ b).length = a.length + b.length := by rw [← L_len, L_app, List.length_append, L_len, L_len]
set_option maxHeartbeats 8000000 in
theorem law_has {fa : Addr} {fd : FuncData} (F : Fun K "law" "law" s_law fa fd) (T : Txt K mg c) (H_law_begin : Has P w K mg base CX0 "_law_begin" 1 ["script", "k"] (spBegin K)) (H_law_draw : Has P w K mg base CX0 "_law_draw" 2 ["state", "many"] (spDraw K)) (H_law_pick : Has P w K mg base CX0 "_law_pick" 3 ["state", "row"] (spPick2 K)) (H_law_right : Has P w K mg base CX0 "_law_right" 4 ["state"] (spLStr K rights36)) (H_law_line : Has P w K mg base CX0 "_law_line" 4 ["state"] (spLStr K lines36)) (H_law_cut : Has P w K mg base CX0 "_law_cut" 4 ["state"] (spLCut K)) (H_law_index : Has P w K mg base CX0 "_law_index" 4 ["state", "many"] (spLIdx K)) (H_law_told : Has P w K mg base CX0 "_law_told" 8 ["text"] spLTold) (H_law_is_integer : Has P w K mg base CX0 "_law_is_integer" 1 ["told"] spLInt) : FnOk P w K mg base CX0 9 fa fd ["script"] (spLaw K) := by
  have Sc := sc_law
  refine F.ok Sc (fun vs H Q E h => ?_) (fun cdv A outer s H vs Q E hr h => ?_)
  · obtain ⟨a, ns, rfl, _⟩ := h; rfl
  · obtain ⟨sc, ns, rfl, hS, hn, hq⟩ := h
    refine ⟨_, (pss_cons (ps_for PassesOwn.never rfl (pi_range1 (by rfl) T.no_range (pa_cons (pe_callB (call_fMin rfl) (by rfl) T.no_min (by decide +kernel) (pa_cons pe_int (pa_cons (pe_callB (call_fMax rfl) (by rfl) T.no_max (by decide +kernel) (pa_cons pe_int (pa_cons (pe_callB call_fLen (by rfl) T.no_len (by decide +kernel) (pa_cons (fe_var 0) pa_nil)) pa_nil))) pa_nil))) pa_nil)) (pg_name (i := 1) Sc.nd rfl (.inl rfl)) (pss_cons (ps_set (i := 2) Sc.nd rfl (.inl rfl) (fe_call H_law_begin (hr.mono (by walk_at "rm")) (by rfl) pass0 (pa_cons (fe_var 0) (pa_cons (pe_op op_fMul pe_int (fe_var 1)) pa_nil))))
      (pss_cons (ps_set (i := 3) Sc.nd rfl (.inl rfl) pe_str)
      (pss_cons (ps_set (i := 4) Sc.nd rfl (.inl rfl) (fe_call H_law_draw (hr.mono (by walk_at "rm")) (by rfl) pass0 (pa_cons (fe_var 2) (pa_cons pe_int pa_nil))))
      (pss_cons (ps_set (i := 5) Sc.nd rfl (.inl rfl) (pe_cmpR op_fGt (fe_call H_law_draw (hr.mono (by walk_at "rm")) (by rfl) pass0 (pa_cons (fe_var 2) (pa_cons pe_int pa_nil))) pe_int (nomark _)))
      (pss_cons (ps_if (pt_fTru (fe_var 5) (fun _ => rfl)) (pss_cons (ps_set (i := 3) Sc.nd rfl (.inl rfl) (pe_op op_fAdd (fe_call H_law_pick (hr.mono (by walk_at "rm")) (by rfl) pass0 (pa_cons (fe_var 2) (pa_cons (fe_tup (pa_cons pe_str (pa_cons pe_str (pa_cons pe_str pa_nil)))) pa_nil))) pe_str))
      (pss_one (ps_for PassesOwn.never rfl (pi_range1 (by rfl) T.no_range (pa_cons (fe_var 4) pa_nil)) (pg_name (i := 6) Sc.nd rfl (.inl rfl)) (pss_one (ps_set (i := 3) Sc.nd rfl (.inl rfl) (pe_op op_fAdd (pe_op op_fAdd (pe_op op_fAdd (fe_var 3) (fe_call H_law_pick (hr.mono (by walk_at "rm")) (by rfl) pass0 (pa_cons (fe_var 2) (pa_cons (fe_tup (pa_cons pe_str (pa_cons pe_str pa_nil))) pa_nil)))) (fe_call H_law_right (hr.mono (by walk_at "rm")) (by rfl) pass0 (pa_cons (fe_var 2) pa_nil))) (fe_call H_law_pick (hr.mono (by walk_at "rm")) (by rfl) pass0 (pa_cons (fe_var 2) (pa_cons (fe_tup (pa_cons pe_str (pa_cons pe_str pa_nil))) pa_nil))))))))) pss_nil)
      (pss_cons (ps_if (pt_cmpR op_fNotN (fe_call H_law_told (hr.mono (by walk_at "rm")) (by rfl) pass0 (pa_cons (fe_var 3) pa_nil)) pe_non (nomark _)) (pss_one (ps_ret pe_bl)) pss_nil)
      (pss_cons (ps_set (i := 7) Sc.nd rfl (.inl rfl) (fe_call H_law_pick (hr.mono (by walk_at "rm")) (by rfl) pass0 (pa_cons (fe_var 2) (pa_cons (fe_tup (pa_cons pe_str (pa_cons pe_str (pa_cons pe_str pa_nil)))) pa_nil))))
      (pss_cons (ps_set (i := 8) Sc.nd rfl (.inl rfl) (pe_op op_fAdd (pe_callB call_fLen (by rfl) T.no_len (by decide +kernel) (pa_cons (fe_var 3) pa_nil)) (pe_callB call_fLen (by rfl) T.no_len (by decide +kernel) (pa_cons (fe_var 7) pa_nil))))
      (pss_cons (ps_set (i := 9) Sc.nd rfl (.inl rfl) (fe_call H_law_draw (hr.mono (by walk_at "rm")) (by rfl) pass0 (pa_cons (fe_var 2) (pa_cons pe_int pa_nil))))
      (pss_cons (ps_set (i := 10) Sc.nd rfl (.inl rfl) (fe_call H_law_pick (hr.mono (by walk_at "rm")) (by rfl) pass0 (pa_cons (fe_var 2) (pa_cons (fe_tup (pa_cons pe_str (pa_cons pe_str (pa_cons pe_str (pa_cons pe_str pa_nil))))) pa_nil))))
      (pss_cons (ps_if (pt_cmpR (op_fEq hr.units) (fe_var 9) pe_int (nomark _)) (pss_cons (ps_asg (fe_call H_law_cut (hr.mono (by walk_at "rm")) (by rfl) pass0 (pa_cons (fe_var 2) pa_nil)) (pg_tup (n := 3) rfl (pgs_cons (pg_name (i := 11) Sc.nd rfl (.inl rfl)) (pgs_cons (pg_name (i := 12) Sc.nd rfl (.inl rfl)) (pgs_cons (pg_name (i := 13) Sc.nd rfl (.inl rfl)) pgs_nil)))))
      (pss_one (ps_set (i := 8) Sc.nd rfl (.inl rfl) (pe_op op_fAdd (fe_var 8) (fe_var 12))))) (pss_one (ps_if (PW.pt (pw_and (pt_not (pt_fTru (fe_var 5) (fun _ => rfl))) (pw_and1 (pt_cmpR (op_fEq hr.units) (fe_var 9) pe_int (nomark _))))) (pss_cons (ps_set (i := 11) Sc.nd rfl (.inl rfl) (fe_call H_law_right (hr.mono (by walk_at "rm")) (by rfl) pass0 (pa_cons (fe_var 2) pa_nil)))
      (pss_one (ps_set (i := 13) Sc.nd rfl (.inl rfl) pe_str))) (pss_one (ps_if (PW.pt (pw_and (pt_cmpR (op_fEq hr.units) (fe_var 9) pe_int (nomark _)) (pw_and1 (pt_fTru (fe_var 5) (fun _ => rfl))))) (pss_cons (ps_set (i := 11) Sc.nd rfl (.inl rfl) (fe_call H_law_index (hr.mono (by walk_at "rm")) (by rfl) pass0 (pa_cons (fe_var 2) (pa_cons (fe_var 4) pa_nil))))
      (pss_one (ps_set (i := 13) Sc.nd rfl (.inl rfl) pe_str))) (pss_cons (ps_set (i := 11) Sc.nd rfl (.inl rfl) (fe_call H_law_line (hr.mono (by walk_at "rm")) (by rfl) pass0 (pa_cons (fe_var 2) pa_nil)))
      (pss_one (ps_set (i := 13) Sc.nd rfl (.inl rfl) pe_str))))))))
      (pss_cons (ps_set (i := 14) Sc.nd rfl (.inl rfl) (fe_call H_law_told (hr.mono (by walk_at "rm")) (by rfl) pass0 (pa_cons (pe_op op_fAdd (pe_op op_fAdd (pe_op op_fAdd (fe_var 3) (fe_var 7)) (fe_var 11)) (fe_var 10)) pa_nil)))
      (pss_cons (ps_if (PW.pt (pw_or (pt_cmpR (op_fNe hr.units) (fe_var 14) (fe_tup (pa_cons (fe_var 8) (pa_cons (fe_var 13) (pa_cons pe_bl pa_nil)))) (nomark _)) (pw_or1 (pt_not (pt_val (fe_call H_law_is_integer (hr.mono (by walk_at "rm")) (by rfl) pass0 (pa_cons (pe_ix ix_fx (fe_var 14) pe_int (fun _ _ => rfl)) pa_nil))))))) (pss_one (ps_ret pe_bl)) pss_nil)
      (pss_one (ps_if (PW.pt (pw_and (pt_cmpR op_fGt (fe_var 9) pe_int (nomark _)) (pw_and1 (pt_cmpR (op_fNe hr.units) (fe_call H_law_told (hr.mono (by walk_at "rm")) (by rfl) pass0 (pa_cons (pe_op op_fAdd (pe_op op_fAdd (pe_op op_fAdd (fe_var 3) (fe_var 7)) (fe_var 11)) pe_str) pa_nil)) (fe_tup (pa_cons (pe_op op_fAdd (pe_callB call_fLen (by rfl) T.no_len (by decide +kernel) (pa_cons (pe_op op_fAdd (pe_op op_fAdd (fe_var 3) (fe_var 7)) (fe_var 11)) pa_nil)) pe_int) (pa_cons pe_str (pa_cons pe_bl pa_nil)))) (nomark _))))) (pss_one (ps_ret pe_bl)) pss_nil))))))))))))))))
      (pss_one (ps_ret pe_bl))), ?_⟩
    walk_at "fx0"
    simp only [tSeq]
    refine cut_ fun N hN => for_ ?_
    repeat (walk_at "oxs")
    refine ⟨_, .inl hS, ?_⟩
    rw [List.length_map]
    generalize hm : (if (if (ns.length : Int) > 2 then (ns.length : Int) else 2) < 6 then (if (ns.length : Int) > 2 then (ns.length : Int) else 2) else 6) = m
    have hm9 : 0 ≤ m ∧ m ≤ 6 := by
      rw [← hm]
      split <;> split <;> omega
    refine ⟨by omega, by omega, ?_⟩
    refine loop_range (LawI H sc) ⟨_, _, _, _, _, _, _, _, _, _, _, _, _, _, rfl, fun _ _ h => h⟩ ?_ ?_
    · rintro k σ H1 hk ⟨v1, v2, v3, v4, v5, v6, v7, v8, v9, v10, v11, v12, v13, v14, rfl, s1⟩
      simp only [gName, List.set_cons_succ, List.set_cons_zero]
      simp only [tSeq]
      refine cut_ fun N1 hN1 => ?_
      repeat (walk_at "oxs")
      refine ⟨mul_left (by decide) (by decide), by omega, fun s H2 ns2 s2 es => hN1 _ _ ?_⟩
      clear hN1 N1
      have D2 : Dr K H s sc ns H2 := ⟨⟨0, _, es, by decide, by omega⟩, hS, s1.trans s2, s1.free ns2, hn⟩
      simp only [tSeq]
      refine cut_ fun N1 hN1 => ?_
      repeat (walk_at "oxs")
      refine hN1 _ _ ?_
      clear hN1 N1
      simp only [tSeq]
      refine cut_ fun N1 hN1 => ?_
      repeat (walk_at "oxs")
      refine ⟨H, sc, ns, D2, by omega, by omega, fun H3 d3 k3 D3 d30 d31 => hN1 _ _ ?_⟩
      clear hN1 N1
      obtain ⟨many, rfl⟩ := Int.eq_ofNat_of_zero_le d30
      simp only [tSeq]
      refine cut_ fun N1 hN1 => ?_
      repeat (walk_at "oxs")
      refine ⟨H, sc, ns, D3, by omega, by omega, fun H4 d4 k4 D4 d40 d41 => ?_⟩
      repeat (walk_at "oxs")
      refine hN1 _ _ ?_
      clear hN1 N1
      simp only [tSeq]
      refine cut_ fun N1 hN1 => ?_
      have sl := sizeLine_eq
      have rest : ∀ (z : Str) (bg : Bool) (st : Option Nat) v6 H', Dr K H s sc ns H' → Tx kw36 (L z) st → z.length ≤ 200 → (bg = true → st = some many) → (bg = false → st = none) → N1 [some (.ref sc), some (.int k), some (.ref s), some (.str z), some (.int (many : Nat)), some (.bl bg), v6, v7, v8, v9, v10, v11, v12, v13, v14] H' := by
        intro z bg st v6 H5 D5 tx lz hb1 hb0
        refine hN1 _ _ ?_
        clear hN1 N1
        simp only [tSeq]
        refine cut_ fun N1 hN1 => ?_
        repeat (walk_at "oxs")
        refine ⟨none, res_none tx (by rw [L_len]; omega), fun H6 s6 => ?_⟩
        dsimp only
        rw [if_neg (fun y => y rfl)]
        refine hN1 _ _ ?_
        clear hN1 N1
        have D6 := D5.same s6
        simp only [tSeq]
        refine cut_ fun N1 hN1 => ?_
        repeat (walk_at "oxs")
        intro p H7 np s7 ep
        have nps := D6.ne2 np
        refine ⟨H, sc, ns, _, D6.same s7, fun H3 k3 => rl_t (k3 _ _ (by simpa using nps) ep), by simp, by simp, fun H8 v k8 D8 hv => ?_⟩
        obtain ⟨g, hg, rfl⟩ : ∃ g ∈ gaps36, v = .str g := by
          simp only [List.mem_cons, List.not_mem_nil, or_false] at hv
          rcases hv with rfl | rfl | rfl
          · exact ⟨_, by simp [gaps36], rfl⟩
          · exact ⟨_, by simp [gaps36], rfl⟩
          · exact ⟨_, by simp [gaps36], rfl⟩
        refine hN1 _ _ ?_
        clear hN1 N1
        have lg := len_g g hg
        rw [L_len] at lg
        simp only [tSeq]
        refine cut_ fun N1 hN1 => ?_
        repeat (walk_at "oxs")
        refine ⟨by omega, by omega, hN1 _ _ ?_⟩
        clear hN1 N1
        simp only [tSeq]
        refine cut_ fun N1 hN1 => ?_
        repeat (walk_at "oxs")
        refine ⟨H, sc, ns, D8, by omega, by omega, fun H9 kd k9 D9 d90 d91 => hN1 _ _ ?_⟩
        clear hN1 N1
        simp only [tSeq]
        refine cut_ fun N1 hN1 => ?_
        repeat (walk_at "oxs")
        intro p9 H10 np9 s10 ep9
        have nps9 := D9.ne2 np9
        refine ⟨H, sc, ns, _, D9.same s10, fun H3 k3 => rl_t (k3 _ _ (by simpa using nps9) ep9), by simp, by simp, fun H11 v k11 D11 hv => ?_⟩
        obtain ⟨b, hb, rfl⟩ := List.mem_map.mp (show v ∈ tails36.map V.str from hv)
        refine hN1 _ _ ?_
        clear hN1 N1
        simp only [tSeq]
        refine cut_ fun N1 hN1 => ?_
        have txg : Tx kw36 (L z ++ L g) st := tx_gap tx hg
        have lzg : (L z ++ L g).length = z.length + g.length := by rw [List.length_append, L_len, L_len]
        have fin : ∀ (line msg : Str) (a : Nat) (pl : Int) v12 H', Dr K H s sc ns H' → pl = (z.length : Int) + (g.length : Int) + (a : Nat) → Res kw36 (L z ++ L g ++ L line ++ L b) (some (z.length + g.length + a, msg)) → (¬ kd = 0 → a = 0 ∧ Res kw36 (L z ++ L g ++ L line ++ L "\n(") (some (z.length + g.length + line.length + 1, badC))) → line.length ≤ 400 → N1 [some (.ref sc), some (.int k), some (.ref s), some (.str z), some (.int (many : Nat)), some (.bl bg), v6, some (.str g), some (.int pl), some (.int kd), some (.str b), some (.str line), v12, some (.str msg), v14] H' := by
          intro line msg a pl v12 H12 D12 epl r1 r2 ll
          refine hN1 _ _ ?_
          clear hN1 N1
          simp only [tSeq]
          refine cut_ fun N1 hN1 => ?_
          repeat (walk_at "oxs")
          have lz9 := (tail_of hb).2.1
          rw [L_len] at lz9
          refine ⟨by omega, by rw [str_len_app]; omega, by rw [str_len_app, str_len_app]; omega, some (z.length + g.length + a, msg), by rw [L_app, L_app, L_app]; exact r1, ?_⟩
          dsimp only
          intro p13 H13 np13 s13 ep13
          have D13 := D12.same s13
          refine hN1 _ _ ?_
          clear hN1 N1
          simp only [tSeq]
          refine cut_ fun N1 hN1 => ?_
          repeat (walk_at "oxs")
          intro p H14 np14 s14 ep14
          have D14 := D13.same s14
          have epl2 : pl = ((z.length + g.length + a : Nat) : Int) := by omega
          subst epl2
          refine ⟨_, .tup (SqT.of (s14 _ _ ep13)) (dpAll_sc rfl), _, .tup (SqT.of ep14) (dpAll_sc rfl), tup_okd rfl, tup_okd rfl, ?_⟩
          rw [tup_eqv rfl]
          repeat (walk_at "oxs")
          refine ⟨_, rl_t (s14 _ _ ep13), _, rfl, ⟨_, rfl, ?_⟩⟩
          rw [if_neg (by decide)]
          refine hN1 _ _ ?_
          clear hN1 N1
          repeat (walk_at "oxs")
          have lawI : ∀ H9, Same H H9 → LawI H sc (k + 1) [some (.ref sc), some (.int k), some (.ref s), some (.str z), some (.int (many : Nat)), some (.bl bg), v6, some (.str g), some (.int ↑(z.length + g.length + a)), some (.int kd), some (.str b), some (.str line), v12, some (.str msg), some (.ref p13)] H9 := fun H9 q => ⟨_, _, _, _, _, _, _, _, _, _, _, _, _, _, rfl, q⟩
          by_cases hk0 : 0 < kd
          · rw [if_pos hk0]
            obtain ⟨_, r3⟩ := r2 (by omega)
            have l2 : (Str.ofString "\n(").length = 2 := rfl
            refine ⟨by omega, by rw [str_len_app]; omega, by rw [str_len_app, str_len_app, l2]; omega, _, by rw [L_app, L_app, L_app]; exact r3, ?_⟩
            dsimp only
            intro p15 H15 np15 s15 ep15
            refine ⟨by omega, by rw [str_len_app]; omega, by rw [str_len_app, str_len_app]; omega, fun p16 H16 np16 s16 ep16 => ?_⟩
            have e9 : (((z ++ g ++ line).length : Nat) : Int) + 1 = ((z.length + g.length + line.length + 1 : Nat) : Int) := by rw [str_len_app, str_len_app]; omega
            rw [e9] at ep16
            refine ⟨_, .tup (SqT.of (s16 _ _ ep15)) (dpAll_sc rfl), _, .tup (SqT.of ep16) (dpAll_sc rfl), tup_okd rfl, tup_okd rfl, ?_⟩
            rw [show badC = Str.ofString "this cannot stand here" from rfl, tup_eqv rfl, if_neg (by decide)]
            exact lawI H16 ((D14.same s15).same s16).sm
          · rw [if_neg hk0]
            exact lawI H14 D14.sm
        repeat (walk_at "oxs")
        have lk9 : kd < 4 := by omega
        have hlines : ∀ v12, ¬ kd = 0 → spLStr K lines36 [V.ref s] H11 (fun x H1 => N1 [some (V.ref sc), some (V.int ↑k), some (V.ref s), some (V.str z), some (V.int ↑many), some (V.bl bg), v6, some (V.str g), some (V.int (↑z.length + ↑g.length)), some (V.int kd), some (V.str b), some x, v12, some (V.str (Str.ofString "this is no line of code")), v14] H1) E0 := fun v12 hk0 => by
          refine ⟨H, sc, ns, D11, fun r hr2 H12 k12 D12 => ?_⟩
          have bd := bd_all st r hr2
          have l9 := len_l r hr2
          refine fin r _ 0 _ _ H12 D12 (by simp) (by have := res_bad txg (by omega) bd (by omega) hb; rw [lzg] at this; exact this) (fun _ => ⟨rfl, ?_⟩) (by rw [← L_len]; omega)
          have := res_par txg (by omega) bd (by omega)
          rw [lzg, L_len r] at this
          exact this
        by_cases hk0 : kd = 0
        · rw [if_pos hk0]
          refine ⟨H, sc, ns, D11, fun q m H12 p hqm k12 D12 ep => ?_⟩
          refine ⟨p, rfl, _, SqT.of ep, rfl, _, _, rfl, _, _, rfl, _, _, rfl, rfl, ?_⟩
          dsimp only
          rcases hqm with ⟨hq9, rfl⟩ | ⟨hq9, rfl⟩
          · refine fin q.1 _ q.2 _ _ H12 D12 rfl ?_ (fun h => absurd hk0 h) (by have := len_q q hq9; rwa [L_len] at this)
            have := res_cut txg (by omega) (ctq_all q hq9) (len_q q hq9) hb (esc_q q hq9 b hb)
            rwa [lzg] at this
          · refine fin q.1 _ q.2 _ _ H12 D12 rfl ?_ (fun h => absurd hk0 h) (by have := len_c q hq9; rwa [L_len] at this)
            have := res_cut txg (by omega) (ct_all q hq9) (len_c q hq9) hb (esc_c q hq9 b hb)
            rwa [lzg] at this
        · rw [if_neg hk0]
          cases bg with
          | false =>
            rw [if_pos rfl]
            by_cases hk1 : kd = 1
            · rw [if_pos hk1]
              refine ⟨H, sc, ns, D11, fun r hr2 H12 k12 D12 => ?_⟩
              have bd := nofun_all r hr2
              rw [← hb0 rfl] at bd
              have l9 := len_r r hr2
              refine fin r _ 0 _ _ H12 D12 (by simp) (by have := res_bad txg (by omega) bd (by omega) hb; rw [lzg] at this; exact this) (fun _ => ⟨rfl, ?_⟩) (by rw [← L_len]; omega)
              have := res_par txg (by omega) bd (by omega)
              rw [lzg, L_len r] at this
              exact this
            · rw [if_neg hk1]
              by_cases hk2 : kd = 2
              · rw [if_pos hk2, if_neg (by decide)]
                exact hlines _ hk0
              · rw [if_neg hk2]
                exact hlines _ hk0
          | true =>
            rw [if_neg (by decide)]
            by_cases hk2 : kd = 2
            · rw [if_pos hk2, if_pos rfl]
              refine ⟨H, sc, ns, many, rfl, by omega, D11, fun r ⟨x, x0, x1, x2, ex⟩ H12 k12 D12 => ?_⟩
              obtain ⟨q1, q2, q3, q4⟩ := idx_ok x x0 x1
              have bd := q4 many x2
              rw [← ex] at bd q3
              rw [← hb1 rfl] at bd
              refine fin r _ 0 _ _ H12 D12 (by simp) (by have := res_bad txg (by omega) bd (by omega) hb; rw [lzg] at this; exact this) (fun _ => ⟨rfl, ?_⟩) (by rw [← L_len]; omega)
              have := res_par txg (by omega) bd (by omega)
              rw [lzg, L_len r] at this
              exact this
            · rw [if_neg hk2]
              exact hlines _ hk0
      generalize hbg : decide (d4 > 0) = bg
      repeat (walk_at "oxs")
      cases bg with
      | false =>
        rw [if_neg (by simp)]
        exact rest _ false none _ H4 D4 tx_nil (by decide) (by simp) fun _ => rfl
      | true =>
        rw [if_pos rfl]
        intro p H5 np s5 ep
        have nps := D4.ne2 np
        refine ⟨H, sc, ns, _, D4.same s5, fun H3 k3 => rl_t (k3 _ _ (by simpa using nps) ep), by simp, by simp, fun H6 v k6 D6 hv => ?_⟩
        obtain ⟨g, hg, rfl⟩ : ∃ g ∈ gaps36, v = .str g := by
          simp only [List.mem_cons, List.not_mem_nil, or_false] at hv
          rcases hv with rfl | rfl | rfl
          · exact ⟨_, by simp [gaps36], rfl⟩
          · exact ⟨_, by simp [gaps36], rfl⟩
          · exact ⟨_, by simp [gaps36], rfl⟩
        have lg := len_g g hg
        rw [L_len] at lg
        have lf : Str.length (Str.ofString "function 0 0\n") = 13 := rfl
        repeat (walk_at "oxs")
        refine ⟨by rw [lf]; omega, ?_⟩
        repeat (walk_at "oxs")
        refine for_ ?_
        repeat (walk_at "oxs")
        refine ⟨by omega, by omega, ?_⟩
        refine loop_range (TxI K H s sc ns k many v7 v8 v9 v10 v11 v12 v13 v14) ⟨_, _, rfl, D6, ?_, ?_⟩ ?_ ?_
        · rw [L_app]
          exact tx_pc (tx_gap tx_nil hg) pc_head
        · rw [str_len_app, lf]; omega
        · rintro j σ H7 hj ⟨z, v6, rfl, D7, tx7, lz⟩
          simp only [gName, List.set_cons_succ, List.set_cons_zero]
          repeat (walk_at "oxs")
          intro p7 H8 np7 s8 ep7
          have nps7 := D7.ne2 np7
          refine ⟨H, sc, ns, _, D7.same s8, fun H3 k3 => rl_t (k3 _ _ (by simpa using nps7) ep7), by simp, by simp, fun H9 v k9 D9 hv => ?_⟩
          obtain ⟨i2, hi2, rfl⟩ : ∃ g ∈ gaps36, v = .str g := by
            simp only [List.mem_cons, List.not_mem_nil, or_false] at hv
            rcases hv with rfl | rfl
            · exact ⟨_, by simp [gaps36], rfl⟩
            · exact ⟨_, by simp [gaps36], rfl⟩
          have l1 := len_g i2 hi2
          rw [L_len] at l1
          repeat (walk_at "oxs")
          refine ⟨by omega, H, sc, ns, D9, fun r hr2 H10 k10 D10 => ?_⟩
          have l2 := len_r r hr2
          rw [L_len] at l2
          repeat (walk_at "oxs")
          refine ⟨by rw [str_len_app]; omega, ?_⟩
          intro p11 H11 np11 s11 ep11
          have nps11 := D10.ne2 np11
          refine ⟨H, sc, ns, _, D10.same s11, fun H3 k3 => rl_t (k3 _ _ (by simpa using nps11) ep11), by simp, by simp, fun H12 v k12 D12 hv => ?_⟩
          obtain ⟨e, he, rfl⟩ := List.mem_map.mp (show v ∈ ends36.map V.str from hv)
          have l3 := len_e e he
          rw [L_len] at l3
          repeat (walk_at "oxs")
          refine ⟨by rw [str_len_app, str_len_app]; omega, _, _, rfl, D12, ?_, ?_⟩
          · rw [L_app, L_app, L_app, List.append_assoc]
            exact tx_pc (tx_gap tx7 hi2) (pc_all j r hr2 e he)
          · rw [str_len_app, str_len_app, str_len_app]; omega
        · rintro σ H7 ⟨z, v6, rfl, D7, tx7, lz⟩
          exact rest z true (some many) v6 H7 D7 (by simpa using tx7) (by omega) (fun _ => rfl) (by simp)
    · rintro σ H6 ⟨v1, v2, v3, v4, v5, v6, v7, v8, v9, v10, v11, v12, v13, v14, rfl, s1⟩
      refine hN _ _ ?_
      clear hN N
      repeat (walk_at "oxs")
      exact hq _
end

section
variable {P : Program} {w : World} {K : PySem.W.Frag} {mg : Str → Option Value} {base : Heap} {c : Cs}
theorem law_fn {fa : Addr} {fd : FuncData} (F : Fun K "law" "law" s_law fa fd) (T : Txt K mg c) (TD : TxD w K mg)
    (a_InvalidCode___init__ : AtE K c.InvalidCode "InvalidCode.__init__" s_InvalidCode___init__ ["self", "offset", "message"])
    (a_Ref___init__ : AtM K c.Ref "__init__" "Ref.__init__" s_Ref___init__ ["self", "number"])
    (a_Builtin___init__ : AtM K c.Builtin "__init__" "Builtin.__init__" s_Builtin___init__ ["self", "name"])
    (a_Chunk___init__ : AtD K c.Chunk "__init__" "Chunk.__init__" s_Chunk___init__ ["self", "number", "wanted", "rows", "scopes"])
    (a_run_of : At K mg "run_of" "run_of" s_run_of ["text", "at", "allowed"])
    (a_read_quoted : At K mg "read_quoted" "read_quoted" s_read_quoted ["text", "first"])
    (a_number_of : At K mg "number_of" "number_of" s_number_of ["digits"])
    (a_token_at : At K mg "token_at" "token_at" s_token_at ["text", "at"])
    (a_lines_of : At K mg "lines_of" "lines_of" s_lines_of ["text"])
    (a_is_plain : At K mg "is_plain" "is_plain" s_is_plain ["token"])
    (a_constant : At K mg "constant" "constant" s_constant ["token"])
    (a_operand_of : At K mg "operand_of" "operand_of" s_operand_of ["token", "kind"])
    (a_row_of : At K mg "row_of" "row_of" s_row_of ["tokens"])
    (a_head_of : At K mg "head_of" "head_of" s_head_of ["tokens"])
    (a_read_line : At K mg "read_line" "read_line" s_read_line ["chunks", "tokens"])
    (a_read_code : At K mg "read_code" "read_code" s_read_code ["text"])
    (a_law_cell : At K mg "_law_cell" "_law_cell" s_law_cell ["script", "k"])
    (a_law_begin : At K mg "_law_begin" "_law_begin" s_law_begin ["script", "k"])
    (a_law_draw : At K mg "_law_draw" "_law_draw" s_law_draw ["state", "many"])
    (a_law_pick : At K mg "_law_pick" "_law_pick" s_law_pick ["state", "row"])
    (a_law_right : At K mg "_law_right" "_law_right" s_law_right ["state"])
    (a_law_cut : At K mg "_law_cut" "_law_cut" s_law_cut ["state"])
    (a_law_line : At K mg "_law_line" "_law_line" s_law_line ["state"])
    (a_law_index : At K mg "_law_index" "_law_index" s_law_index ["state", "many"])
    (a_law_told : At K mg "_law_told" "_law_told" s_law_told ["text"])
    (a_law_is_integer : At K mg "_law_is_integer" "_law_is_integer" s_law_is_integer ["told"]) :
    FnOk P w K mg base CX0 9 fa fd ["script"] (spLaw K) := by
  have E_InvalidCode := mkE_InvalidCode (P := P) (w := w) (base := base) a_InvalidCode___init__ T 
  have M_Ref := mk_Ref (P := P) (w := w) (base := base) a_Ref___init__ T 
  have M_Builtin := mk_Builtin (P := P) (w := w) (base := base) a_Builtin___init__ T 
  have M_Chunk := mk_Chunk (P := P) (w := w) (base := base) a_Chunk___init__ T 
  have H_run_of := ok_runof (P := P) (w := w) (base := base) a_run_of T 
  have H_read_quoted := ok_quo (P := P) (w := w) (base := base) a_read_quoted T TD E_InvalidCode
  have H_number_of := ok_numof (P := P) (w := w) (base := base) a_number_of T 
  have H_token_at := ok_tokat (P := P) (w := w) (base := base) a_token_at T H_run_of H_read_quoted H_number_of E_InvalidCode
  have H_lines_of := ok_lines (P := P) (w := w) (base := base) a_lines_of T H_token_at
  have H_is_plain := ok_isplain (P := P) (w := w) (base := base) a_is_plain T 
  have H_constant := ok_const (P := P) (w := w) (base := base) a_constant T M_Ref M_Builtin
  have H_operand_of := ok_oper (P := P) (w := w) (base := base) a_operand_of T H_constant H_is_plain
  have H_row_of := ok_row (P := P) (w := w) (base := base) a_row_of T TD H_operand_of
  have H_head_of := ok_head (P := P) (w := w) (base := base) a_head_of T H_is_plain M_Chunk
  have H_read_line := ok_line (P := P) (w := w) (base := base) a_read_line T E_InvalidCode H_row_of H_head_of
  have H_read_code := ok_read (P := P) (w := w) (base := base) a_read_code T H_lines_of H_read_line
  have H_law_cell := ok_cell (P := P) (w := w) (base := base) a_law_cell T 
  have H_law_begin := ok_begin (P := P) (w := w) (base := base) a_law_begin T 
  have H_law_draw := ok_draw (P := P) (w := w) (base := base) a_law_draw T H_law_cell
  have H_law_pick := ok_pick2 (P := P) (w := w) (base := base) a_law_pick T H_law_draw
  have H_law_right := ok_lright (P := P) (w := w) (base := base) a_law_right T H_law_pick
  have H_law_cut := ok_lcut (P := P) (w := w) (base := base) a_law_cut T H_law_draw H_law_pick
  have H_law_line := ok_lline (P := P) (w := w) (base := base) a_law_line T H_law_pick
  have H_law_index := ok_lidx (P := P) (w := w) (base := base) a_law_index T H_law_pick
  have H_law_told := ok_ltold (P := P) (w := w) (base := base) a_law_told T H_read_code
  have H_law_is_integer := ok_lint (P := P) (w := w) (base := base) a_law_is_integer T 
  exact law_has F T H_law_begin H_law_draw H_law_pick H_law_right H_law_line H_law_cut H_law_index H_law_told H_law_is_integer
end
theorem all_mk {P : Program} {w : World} {K : PySem.W.Frag} {h : Heap} {mg : Str → Option Value} {fa : Addr} {C_Chunk C_Ref C_Builtin C_LivequillError C_InvalidCode C_InvalidText : Addr} (X : K.In h) (G : h.Ns mainGlobals mg) (hfa : mg "law" = some (.ref fa))
    (n_Chunk : PySem.W.nsIn K mainGlobals "Chunk" = some (some (.ref C_Chunk)))
    (n_Ref : PySem.W.nsIn K mainGlobals "Ref" = some (some (.ref C_Ref)))
    (n_Builtin : PySem.W.nsIn K mainGlobals "Builtin" = some (some (.ref C_Builtin)))
    (n_LivequillError : PySem.W.nsIn K mainGlobals "LivequillError" = some (some (.ref C_LivequillError)))
    (n_InvalidCode : PySem.W.nsIn K mainGlobals "InvalidCode" = some (some (.ref C_InvalidCode)))
    (n_InvalidText : PySem.W.nsIn K mainGlobals "InvalidText" = some (some (.ref C_InvalidText)))
    (x_Chunk : ClsFact K C_Chunk)
    (x_Ref : ClsFact K C_Ref)
    (x_Builtin : ClsFact K C_Builtin)
    (x_LivequillError : ExcFact K C_LivequillError)
    (x_InvalidCode : ExcFact K C_InvalidCode)
    (x_InvalidText : ExcFact K C_InvalidText)
    (xn_offset_InvalidCode : PySem.W.findIn K (.ref C_InvalidCode) "offset" = some none)
    (xn_message_InvalidCode : PySem.W.findIn K (.ref C_InvalidCode) "message" = some none)
    (xn_offset_InvalidText : PySem.W.findIn K (.ref C_InvalidText) "offset" = some none)
    (xn_message_InvalidText : PySem.W.findIn K (.ref C_InvalidText) "message" = some none)
    (em_InvalidCode_InvalidCode : PySem.W.subIn K (.ref C_InvalidCode) (.ref C_InvalidCode) = some true)
    (ko_InvalidCode_LivequillError : PySem.W.kitOne K (.ref C_InvalidCode) (.ref C_LivequillError) = some true)
    (ko_InvalidCode_InvalidText : PySem.W.kitOne K (.ref C_InvalidCode) (.ref C_InvalidText) = some false)
    (ob : ObjFact K)
    (na_name_Builtin : PySem.W.findIn K (.ref C_Builtin) "name" = some none)
    (na_number_Chunk : PySem.W.findIn K (.ref C_Chunk) "number" = some none)
    (na_number_Ref : PySem.W.findIn K (.ref C_Ref) "number" = some none)
    (na_rows_Chunk : PySem.W.findIn K (.ref C_Chunk) "rows" = some none)
    (na_scopes_Chunk : PySem.W.findIn K (.ref C_Chunk) "scopes" = some none)
    (na_wanted_Chunk : PySem.W.findIn K (.ref C_Chunk) "wanted" = some none)
    (oo_Chunk_Ref : PySem.W.kitOne K (.ref C_Chunk) (.ref C_Ref) = some (decide (C_Chunk = C_Ref)))
    (oo_Chunk_Builtin : PySem.W.kitOne K (.ref C_Chunk) (.ref C_Builtin) = some (decide (C_Chunk = C_Builtin)))
    (oo_Chunk_Chunk : PySem.W.kitOne K (.ref C_Chunk) (.ref C_Chunk) = some (decide (C_Chunk = C_Chunk)))
    (oo_Ref_Ref : PySem.W.kitOne K (.ref C_Ref) (.ref C_Ref) = some (decide (C_Ref = C_Ref)))
    (oo_Ref_Builtin : PySem.W.kitOne K (.ref C_Ref) (.ref C_Builtin) = some (decide (C_Ref = C_Builtin)))
    (oo_Ref_Chunk : PySem.W.kitOne K (.ref C_Ref) (.ref C_Chunk) = some (decide (C_Ref = C_Chunk)))
    (oo_Builtin_Ref : PySem.W.kitOne K (.ref C_Builtin) (.ref C_Ref) = some (decide (C_Builtin = C_Ref)))
    (oo_Builtin_Builtin : PySem.W.kitOne K (.ref C_Builtin) (.ref C_Builtin) = some (decide (C_Builtin = C_Builtin)))
    (oo_Builtin_Chunk : PySem.W.kitOne K (.ref C_Builtin) (.ref C_Chunk) = some (decide (C_Builtin = C_Chunk)))
    (bo_NoneType_Ref : PySem.W.kitOne K (.type "NoneType") (.ref C_Ref) = some false)
    (bo_NoneType_Builtin : PySem.W.kitOne K (.type "NoneType") (.ref C_Builtin) = some false)
    (bo_NoneType_Chunk : PySem.W.kitOne K (.type "NoneType") (.ref C_Chunk) = some false)
    (bo_bool_Ref : PySem.W.kitOne K (.type "bool") (.ref C_Ref) = some false)
    (bo_bool_Builtin : PySem.W.kitOne K (.type "bool") (.ref C_Builtin) = some false)
    (bo_bool_Chunk : PySem.W.kitOne K (.type "bool") (.ref C_Chunk) = some false)
    (bo_int_Ref : PySem.W.kitOne K (.type "int") (.ref C_Ref) = some false)
    (bo_int_Builtin : PySem.W.kitOne K (.type "int") (.ref C_Builtin) = some false)
    (bo_int_Chunk : PySem.W.kitOne K (.type "int") (.ref C_Chunk) = some false)
    (bo_str_Ref : PySem.W.kitOne K (.type "str") (.ref C_Ref) = some false)
    (bo_str_Builtin : PySem.W.kitOne K (.type "str") (.ref C_Builtin) = some false)
    (bo_str_Chunk : PySem.W.kitOne K (.type "str") (.ref C_Chunk) = some false)
    (bo_list_Ref : PySem.W.kitOne K (.type "list") (.ref C_Ref) = some false)
    (bo_list_Builtin : PySem.W.kitOne K (.type "list") (.ref C_Builtin) = some false)
    (bo_list_Chunk : PySem.W.kitOne K (.type "list") (.ref C_Chunk) = some false)
    (bo_tuple_Ref : PySem.W.kitOne K (.type "tuple") (.ref C_Ref) = some false)
    (bo_tuple_Builtin : PySem.W.kitOne K (.type "tuple") (.ref C_Builtin) = some false)
    (bo_tuple_Chunk : PySem.W.kitOne K (.type "tuple") (.ref C_Chunk) = some false)
    (bo_dict_Ref : PySem.W.kitOne K (.type "dict") (.ref C_Ref) = some false)
    (bo_dict_Builtin : PySem.W.kitOne K (.type "dict") (.ref C_Builtin) = some false)
    (bo_dict_Chunk : PySem.W.kitOne K (.type "dict") (.ref C_Chunk) = some false)
    (ob_Chunk_bool : PySem.W.kitOne K (.ref C_Chunk) (.type "bool") = some false)
    (ob_Chunk_int : PySem.W.kitOne K (.ref C_Chunk) (.type "int") = some false)
    (ob_Chunk_str : PySem.W.kitOne K (.ref C_Chunk) (.type "str") = some false)
    (ob_Chunk_list : PySem.W.kitOne K (.ref C_Chunk) (.type "list") = some false)
    (ob_Chunk_tuple : PySem.W.kitOne K (.ref C_Chunk) (.type "tuple") = some false)
    (ob_Chunk_dict : PySem.W.kitOne K (.ref C_Chunk) (.type "dict") = some false)
    (ob_Ref_bool : PySem.W.kitOne K (.ref C_Ref) (.type "bool") = some false)
    (ob_Ref_int : PySem.W.kitOne K (.ref C_Ref) (.type "int") = some false)
    (ob_Ref_str : PySem.W.kitOne K (.ref C_Ref) (.type "str") = some false)
    (ob_Ref_list : PySem.W.kitOne K (.ref C_Ref) (.type "list") = some false)
    (ob_Ref_tuple : PySem.W.kitOne K (.ref C_Ref) (.type "tuple") = some false)
    (ob_Ref_dict : PySem.W.kitOne K (.ref C_Ref) (.type "dict") = some false)
    (ob_Builtin_bool : PySem.W.kitOne K (.ref C_Builtin) (.type "bool") = some false)
    (ob_Builtin_int : PySem.W.kitOne K (.ref C_Builtin) (.type "int") = some false)
    (ob_Builtin_str : PySem.W.kitOne K (.ref C_Builtin) (.type "str") = some false)
    (ob_Builtin_list : PySem.W.kitOne K (.ref C_Builtin) (.type "list") = some false)
    (ob_Builtin_tuple : PySem.W.kitOne K (.ref C_Builtin) (.type "tuple") = some false)
    (ob_Builtin_dict : PySem.W.kitOne K (.ref C_Builtin) (.type "dict") = some false)
    (ne_Chunk_Ref : C_Chunk ≠ C_Ref)
    (ne_Chunk_Builtin : C_Chunk ≠ C_Builtin)
    (ne_Ref_Builtin : C_Ref ≠ C_Builtin)
    (gd_ESCAPES : GDictF K w "ESCAPES" [("n", some (.str "\n")), ("\"", some (.str "\"")), ("\\", some (.str "\\")), ("t", none), ("x", none), ("\n", none)]) (gd_OPERANDS : GDictTF K w "OPERANDS" [("const", some [.str "value"]), ("pop", some []), ("add", some [.str "number"]), ("call", some [.str "number", .str "number"]), ("field", some [.str "text", .str "number"]), ("ret", some []), ("escape", some [.str "number", .str "number", .str "number"]), ("load", some [.str "number"]), ("pops", none), ("function", none), ("Const", none), ("set", none)])
    (f0 : EFact K C_InvalidCode  "InvalidCode.__init__" s_InvalidCode___init__) (f1 : MFact K C_Ref "__init__" "Ref.__init__" s_Ref___init__) (f2 : MFact K C_Builtin "__init__" "Builtin.__init__" s_Builtin___init__) (f3 : MFactD K C_Chunk "__init__" "Chunk.__init__" s_Chunk___init__) (f4 : FnFact K "run_of" "run_of" s_run_of) (f5 : FnFact K "read_quoted" "read_quoted" s_read_quoted) (f6 : FnFact K "number_of" "number_of" s_number_of) (f7 : FnFact K "token_at" "token_at" s_token_at) (f8 : FnFact K "lines_of" "lines_of" s_lines_of) (f9 : FnFact K "is_plain" "is_plain" s_is_plain) (f10 : FnFact K "constant" "constant" s_constant) (f11 : FnFact K "operand_of" "operand_of" s_operand_of) (f12 : FnFact K "row_of" "row_of" s_row_of) (f13 : FnFact K "head_of" "head_of" s_head_of) (f14 : FnFact K "read_line" "read_line" s_read_line) (f15 : FnFact K "read_code" "read_code" s_read_code) (f16 : FnFact K "_law_cell" "_law_cell" s_law_cell) (f17 : FnFact K "_law_begin" "_law_begin" s_law_begin) (f18 : FnFact K "_law_draw" "_law_draw" s_law_draw) (f19 : FnFact K "_law_pick" "_law_pick" s_law_pick) (f20 : FnFact K "_law_right" "_law_right" s_law_right) (f21 : FnFact K "_law_cut" "_law_cut" s_law_cut) (f22 : FnFact K "_law_line" "_law_line" s_law_line) (f23 : FnFact K "_law_index" "_law_index" s_law_index) (f24 : FnFact K "_law_told" "_law_told" s_law_told) (f25 : FnFact K "_law_is_integer" "_law_is_integer" s_law_is_integer) (f26 : FnFact K "law" "law" s_law)
    (z_abs : PySem.W.nsIn K mainGlobals "abs" = some none) (z_bool : PySem.W.nsIn K mainGlobals "bool" = some none) (z_dict : PySem.W.nsIn K mainGlobals "dict" = some none) (z_enumerate : PySem.W.nsIn K mainGlobals "enumerate" = some none) (z_int : PySem.W.nsIn K mainGlobals "int" = some none) (z_isinstance : PySem.W.nsIn K mainGlobals "isinstance" = some none) (z_len : PySem.W.nsIn K mainGlobals "len" = some none) (z_list : PySem.W.nsIn K mainGlobals "list" = some none) (z_max : PySem.W.nsIn K mainGlobals "max" = some none) (z_min : PySem.W.nsIn K mainGlobals "min" = some none) (z_range : PySem.W.nsIn K mainGlobals "range" = some none) (z_str : PySem.W.nsIn K mainGlobals "str" = some none) (z_tuple : PySem.W.nsIn K mainGlobals "tuple" = some none) (z_zip : PySem.W.nsIn K mainGlobals "zip" = some none)
    (q_BUILTINS : GTup K mg "BUILTINS" [.str "print", .str "read", .str "str", .str "int", .str "len", .str "range", .str "kind", .str "abs", .str "min", .str "max", .str "pow", .str "gcd", .str "sqrt", .str "base", .str "parse", .str "char", .str "assert", .str "copy", .str "equals"]) (q_DIGITS : ∃ t, PySem.W.nsIn K mainGlobals "DIGITS" = some (some (.str "0123456789" t))) (q_GREATEST : ∃ t, PySem.W.nsIn K mainGlobals "GREATEST" = some (some (.int big_GREATEST t))) (q_GREATEST_NUMBER : ∃ t, PySem.W.nsIn K mainGlobals "GREATEST_NUMBER" = some (some (.int 999999999 t))) (q_LETTERS : ∃ t, PySem.W.nsIn K mainGlobals "LETTERS" = some (some (.str "ABCDEFGHIJKLMNOPQRSTUVWXYZabcdefghijklmnopqrstuvwxyz_" t))) (q_MOST_FIGURES : ∃ t, PySem.W.nsIn K mainGlobals "MOST_FIGURES" = some (some (.int 300 t))) :
    ∃ fd : FuncData, (∀ (s : Shared) (v : Value), BindsTo s fd ⟨[v], []⟩ [("script", v)]) ∧ ∀ base : Heap, K.In base → base.Ns mainGlobals mg → FnOk P w K mg base CX0 9 fa fd ["script"] (spLaw K) := by
  have T : Txt K mg ⟨C_Chunk, C_Ref, C_Builtin, C_LivequillError, C_InvalidCode, C_InvalidText⟩ := ⟨PySem.W.mg_none_of X G z_abs,
    PySem.W.mg_none_of X G z_bool,
    PySem.W.mg_none_of X G z_dict,
    PySem.W.mg_none_of X G z_enumerate,
    PySem.W.mg_none_of X G z_int,
    PySem.W.mg_none_of X G z_isinstance,
    PySem.W.mg_none_of X G z_len,
    PySem.W.mg_none_of X G z_list,
    PySem.W.mg_none_of X G z_max,
    PySem.W.mg_none_of X G z_min,
    PySem.W.mg_none_of X G z_range,
    PySem.W.mg_none_of X G z_str,
    PySem.W.mg_none_of X G z_tuple,
    PySem.W.mg_none_of X G z_zip,
    q_BUILTINS,
    (let ⟨t, h⟩ := q_DIGITS; ⟨t, PySem.W.mg_of X G h⟩),
    (let ⟨t, h⟩ := q_GREATEST; ⟨t, PySem.W.mg_of X G h⟩),
    (let ⟨t, h⟩ := q_GREATEST_NUMBER; ⟨t, PySem.W.mg_of X G h⟩),
    (let ⟨t, h⟩ := q_LETTERS; ⟨t, PySem.W.mg_of X G h⟩),
    (let ⟨t, h⟩ := q_MOST_FIGURES; ⟨t, PySem.W.mg_of X G h⟩),
    PySem.W.mg_of X G n_Chunk,
    x_Chunk.cls,
    ⟨x_Chunk.mks, x_Chunk.kp, PySem.W.mg_of X G n_Chunk⟩,
    PySem.W.mg_of X G n_Ref,
    x_Ref.cls,
    ⟨x_Ref.mks, x_Ref.kp, PySem.W.mg_of X G n_Ref⟩,
    PySem.W.mg_of X G n_Builtin,
    x_Builtin.cls,
    ⟨x_Builtin.mks, x_Builtin.kp, PySem.W.mg_of X G n_Builtin⟩,
    (all_cons ⟨x_Builtin.cls, na_name_Builtin⟩ all_nil),
    (all_cons ⟨x_Chunk.cls, na_number_Chunk⟩ (all_cons ⟨x_Ref.cls, na_number_Ref⟩ all_nil)),
    (all_cons ⟨x_Chunk.cls, na_rows_Chunk⟩ all_nil),
    (all_cons ⟨x_Chunk.cls, na_scopes_Chunk⟩ all_nil),
    (all_cons ⟨x_Chunk.cls, na_wanted_Chunk⟩ all_nil),
    (all_cons ⟨x_InvalidCode.xf, xn_message_InvalidCode⟩ (all_cons ⟨x_InvalidText.xf, xn_message_InvalidText⟩ all_nil)),
    (all_cons ⟨x_InvalidCode.xf, xn_offset_InvalidCode⟩ (all_cons ⟨x_InvalidText.xf, xn_offset_InvalidText⟩ all_nil)),
    (all_cons x_LivequillError (all_cons x_InvalidCode (all_cons x_InvalidText all_nil))),
    PySem.W.mg_of X G n_LivequillError,
    PySem.W.mg_of X G n_InvalidCode,
    PySem.W.mg_of X G n_InvalidText,
    xn_offset_InvalidCode,
    xn_message_InvalidCode,
    xn_offset_InvalidText,
    xn_message_InvalidText,
    PySem.W.exm_ref x_InvalidCode.exC x_InvalidCode.hdC x_InvalidCode.tyC em_InvalidCode_InvalidCode,
    ko_InvalidCode_LivequillError,
    ko_InvalidCode_InvalidText,
    ob,
    ⟨(all_cons (x_Chunk.ocls ob) (all_cons (x_Ref.ocls ob) (all_cons (x_Builtin.ocls ob) all_nil))), (all_cons (all_cons oo_Chunk_Ref (all_cons oo_Chunk_Builtin (all_cons oo_Chunk_Chunk all_nil))) (all_cons (all_cons oo_Ref_Ref (all_cons oo_Ref_Builtin (all_cons oo_Ref_Chunk all_nil))) (all_cons (all_cons oo_Builtin_Ref (all_cons oo_Builtin_Builtin (all_cons oo_Builtin_Chunk all_nil))) all_nil))), (all_cons (all_cons bo_NoneType_Ref (all_cons bo_NoneType_Builtin (all_cons bo_NoneType_Chunk all_nil))) (all_cons (all_cons bo_bool_Ref (all_cons bo_bool_Builtin (all_cons bo_bool_Chunk all_nil))) (all_cons (all_cons bo_int_Ref (all_cons bo_int_Builtin (all_cons bo_int_Chunk all_nil))) (all_cons (all_cons bo_str_Ref (all_cons bo_str_Builtin (all_cons bo_str_Chunk all_nil))) (all_cons (all_cons bo_list_Ref (all_cons bo_list_Builtin (all_cons bo_list_Chunk all_nil))) (all_cons (all_cons bo_tuple_Ref (all_cons bo_tuple_Builtin (all_cons bo_tuple_Chunk all_nil))) (all_cons (all_cons bo_dict_Ref (all_cons bo_dict_Builtin (all_cons bo_dict_Chunk all_nil))) all_nil))))))), (all_cons (all_cons ob_Chunk_bool (all_cons ob_Chunk_int (all_cons ob_Chunk_str (all_cons ob_Chunk_list (all_cons ob_Chunk_tuple (all_cons ob_Chunk_dict all_nil)))))) (all_cons (all_cons ob_Ref_bool (all_cons ob_Ref_int (all_cons ob_Ref_str (all_cons ob_Ref_list (all_cons ob_Ref_tuple (all_cons ob_Ref_dict all_nil)))))) (all_cons (all_cons ob_Builtin_bool (all_cons ob_Builtin_int (all_cons ob_Builtin_str (all_cons ob_Builtin_list (all_cons ob_Builtin_tuple (all_cons ob_Builtin_dict all_nil)))))) all_nil)))⟩,
    ⟨eq_false ne_Chunk_Ref, eq_false ne_Chunk_Builtin, eq_false (fun h => ne_Chunk_Ref h.symm), eq_false ne_Ref_Builtin, eq_false (fun h => ne_Chunk_Builtin h.symm), eq_false (fun h => ne_Ref_Builtin h.symm)⟩⟩
  have TD : TxD w K mg := ⟨gd_ESCAPES.get X G, gd_OPERANDS.get X G⟩
  have a0 : AtE K C_InvalidCode "InvalidCode.__init__" s_InvalidCode___init__ ["self", "offset", "message"] := AtE.of f0 fun _ _ _ _ _ _ us hl => match us, hl with | [_, _, _], _ => rfl
  have a1 : AtM K C_Ref "__init__" "Ref.__init__" s_Ref___init__ ["self", "number"] := AtM.of f1 fun _ _ _ _ _ _ us hl => match us, hl with | [_, _], _ => rfl
  have a2 : AtM K C_Builtin "__init__" "Builtin.__init__" s_Builtin___init__ ["self", "name"] := AtM.of f2 fun _ _ _ _ _ _ us hl => match us, hl with | [_, _], _ => rfl
  have a3 : AtD K C_Chunk "__init__" "Chunk.__init__" s_Chunk___init__ ["self", "number", "wanted", "rows", "scopes"] := AtD.of (n := 4) f3 rfl fun T kV doc pm an cdv ct us its hl hi => match us, its, hl, hi with | [_, _, _, _], [_], _, _ => ⟨_, rfl, rfl⟩
  have a4 : At K mg "run_of" "run_of" s_run_of ["text", "at", "allowed"] := At.of X G f4 fun _ _ _ _ _ _ us hl => match us, hl with | [_, _, _], _ => rfl
  have a5 : At K mg "read_quoted" "read_quoted" s_read_quoted ["text", "first"] := At.of X G f5 fun _ _ _ _ _ _ us hl => match us, hl with | [_, _], _ => rfl
  have a6 : At K mg "number_of" "number_of" s_number_of ["digits"] := At.of X G f6 fun _ _ _ _ _ _ us hl => match us, hl with | [_], _ => rfl
  have a7 : At K mg "token_at" "token_at" s_token_at ["text", "at"] := At.of X G f7 fun _ _ _ _ _ _ us hl => match us, hl with | [_, _], _ => rfl
  have a8 : At K mg "lines_of" "lines_of" s_lines_of ["text"] := At.of X G f8 fun _ _ _ _ _ _ us hl => match us, hl with | [_], _ => rfl
  have a9 : At K mg "is_plain" "is_plain" s_is_plain ["token"] := At.of X G f9 fun _ _ _ _ _ _ us hl => match us, hl with | [_], _ => rfl
  have a10 : At K mg "constant" "constant" s_constant ["token"] := At.of X G f10 fun _ _ _ _ _ _ us hl => match us, hl with | [_], _ => rfl
  have a11 : At K mg "operand_of" "operand_of" s_operand_of ["token", "kind"] := At.of X G f11 fun _ _ _ _ _ _ us hl => match us, hl with | [_, _], _ => rfl
  have a12 : At K mg "row_of" "row_of" s_row_of ["tokens"] := At.of X G f12 fun _ _ _ _ _ _ us hl => match us, hl with | [_], _ => rfl
  have a13 : At K mg "head_of" "head_of" s_head_of ["tokens"] := At.of X G f13 fun _ _ _ _ _ _ us hl => match us, hl with | [_], _ => rfl
  have a14 : At K mg "read_line" "read_line" s_read_line ["chunks", "tokens"] := At.of X G f14 fun _ _ _ _ _ _ us hl => match us, hl with | [_, _], _ => rfl
  have a15 : At K mg "read_code" "read_code" s_read_code ["text"] := At.of X G f15 fun _ _ _ _ _ _ us hl => match us, hl with | [_], _ => rfl
  have a16 : At K mg "_law_cell" "_law_cell" s_law_cell ["script", "k"] := At.of X G f16 fun _ _ _ _ _ _ us hl => match us, hl with | [_, _], _ => rfl
  have a17 : At K mg "_law_begin" "_law_begin" s_law_begin ["script", "k"] := At.of X G f17 fun _ _ _ _ _ _ us hl => match us, hl with | [_, _], _ => rfl
  have a18 : At K mg "_law_draw" "_law_draw" s_law_draw ["state", "many"] := At.of X G f18 fun _ _ _ _ _ _ us hl => match us, hl with | [_, _], _ => rfl
  have a19 : At K mg "_law_pick" "_law_pick" s_law_pick ["state", "row"] := At.of X G f19 fun _ _ _ _ _ _ us hl => match us, hl with | [_, _], _ => rfl
  have a20 : At K mg "_law_right" "_law_right" s_law_right ["state"] := At.of X G f20 fun _ _ _ _ _ _ us hl => match us, hl with | [_], _ => rfl
  have a21 : At K mg "_law_cut" "_law_cut" s_law_cut ["state"] := At.of X G f21 fun _ _ _ _ _ _ us hl => match us, hl with | [_], _ => rfl
  have a22 : At K mg "_law_line" "_law_line" s_law_line ["state"] := At.of X G f22 fun _ _ _ _ _ _ us hl => match us, hl with | [_], _ => rfl
  have a23 : At K mg "_law_index" "_law_index" s_law_index ["state", "many"] := At.of X G f23 fun _ _ _ _ _ _ us hl => match us, hl with | [_, _], _ => rfl
  have a24 : At K mg "_law_told" "_law_told" s_law_told ["text"] := At.of X G f24 fun _ _ _ _ _ _ us hl => match us, hl with | [_], _ => rfl
  have a25 : At K mg "_law_is_integer" "_law_is_integer" s_law_is_integer ["told"] := At.of X G f25 fun _ _ _ _ _ _ us hl => match us, hl with | [_], _ => rfl
  obtain ⟨f, oc, od, an, sl, kV, dc, pm, cd, ct, a, l, cc, k⟩ := f26.ex
  have e := hfa.symm.trans (PySem.W.mg_of X G a)
  cases e
  have F1 := fun_mk (st := s_law) l cc k
  have al : At K mg "law" "law" s_law ["script"] := ⟨_, _, F1, F1.binds fun _ _ _ _ _ _ us hl => match us, hl with | [_], _ => rfl, PySem.W.mg_of X G a⟩
  refine ⟨PySem.W.fnOf "law" "law" (defArgs s_law) (defBody s_law) (defScope s_law) .none kV dc pm an cd ct, fun s v => .of_eq rfl, fun base _ _ => ?_⟩
  exact law_fn F1 T TD a0 a1 a2 a3 a4 a5 a6 a7 a8 a9 a10 a11 a12 a13 a14 a15 a16 a17 a18 a19 a20 a21 a22 a23 a24 a25
end My
namespace My
open PySem PySem.Spec PyProof.Rows L2 Fx
set_option maxHeartbeats 0
theorem facts {P : Program} {w : World} {K : PySem.W.Frag} {h : Heap} {mg : Str → Option Value} {f : Addr} (KX : K.In h) (G : h.Ns mainGlobals mg) (hfa : mg ("law" : Str) = some (.ref f)) (c : Hd.Says fas fns dcs w K) :
    ∃ fd : FuncData, (∀ (s : Shared) (v : Value), BindsTo s fd ⟨[v], []⟩ [("script", v)]) ∧ ∀ base : Heap, K.In base → base.Ns mainGlobals mg → FnOk P w K mg base CX0 9 f fd ["script"] (spLaw K) :=
  all_mk KX G hfa
    (Hd.glo_ (c.fact 0 rfl))
    (Hd.glo_ (c.fact 1 rfl))
    (Hd.glo_ (c.fact 2 rfl))
    (Hd.glo_ (c.fact 3 rfl))
    (Hd.glo_ (c.fact 4 rfl))
    (Hd.glo_ (c.fact 5 rfl))
    (Hd.cls_ (c.fact 6 rfl))
    (Hd.cls_ (c.fact 7 rfl))
    (Hd.cls_ (c.fact 8 rfl))
    (Hd.exc_ (c.fact 9 rfl))
    (Hd.exc_ (c.fact 10 rfl))
    (Hd.exc_ (c.fact 11 rfl))
    (Hd.noat_ (c.fact 12 rfl))
    (Hd.noat_ (c.fact 13 rfl))
    (Hd.noat_ (c.fact 14 rfl))
    (Hd.noat_ (c.fact 15 rfl))
    (Hd.sub_ (c.fact 16 rfl))
    (Hd.kit_ (c.fact 17 rfl))
    (Hd.kit_ (c.fact 18 rfl))
    (Hd.obj_ (c.fact 19 rfl))
    (Hd.noat_ (c.fact 20 rfl))
    (Hd.noat_ (c.fact 21 rfl))
    (Hd.noat_ (c.fact 22 rfl))
    (Hd.noat_ (c.fact 23 rfl))
    (Hd.noat_ (c.fact 24 rfl))
    (Hd.noat_ (c.fact 25 rfl))
    (Hd.kio_ (c.fact 26 rfl))
    (Hd.kio_ (c.fact 27 rfl))
    (Hd.kio_ (c.fact 28 rfl))
    (Hd.kio_ (c.fact 29 rfl))
    (Hd.kio_ (c.fact 30 rfl))
    (Hd.kio_ (c.fact 31 rfl))
    (Hd.kio_ (c.fact 32 rfl))
    (Hd.kio_ (c.fact 33 rfl))
    (Hd.kio_ (c.fact 34 rfl))
    (Hd.kib_ (c.fact 35 rfl))
    (Hd.kib_ (c.fact 36 rfl))
    (Hd.kib_ (c.fact 37 rfl))
    (Hd.kib_ (c.fact 38 rfl))
    (Hd.kib_ (c.fact 39 rfl))
    (Hd.kib_ (c.fact 40 rfl))
    (Hd.kib_ (c.fact 41 rfl))
    (Hd.kib_ (c.fact 42 rfl))
    (Hd.kib_ (c.fact 43 rfl))
    (Hd.kib_ (c.fact 44 rfl))
    (Hd.kib_ (c.fact 45 rfl))
    (Hd.kib_ (c.fact 46 rfl))
    (Hd.kib_ (c.fact 47 rfl))
    (Hd.kib_ (c.fact 48 rfl))
    (Hd.kib_ (c.fact 49 rfl))
    (Hd.kib_ (c.fact 50 rfl))
    (Hd.kib_ (c.fact 51 rfl))
    (Hd.kib_ (c.fact 52 rfl))
    (Hd.kib_ (c.fact 53 rfl))
    (Hd.kib_ (c.fact 54 rfl))
    (Hd.kib_ (c.fact 55 rfl))
    (Hd.kob_ (c.fact 56 rfl))
    (Hd.kob_ (c.fact 57 rfl))
    (Hd.kob_ (c.fact 58 rfl))
    (Hd.kob_ (c.fact 59 rfl))
    (Hd.kob_ (c.fact 60 rfl))
    (Hd.kob_ (c.fact 61 rfl))
    (Hd.kob_ (c.fact 62 rfl))
    (Hd.kob_ (c.fact 63 rfl))
    (Hd.kob_ (c.fact 64 rfl))
    (Hd.kob_ (c.fact 65 rfl))
    (Hd.kob_ (c.fact 66 rfl))
    (Hd.kob_ (c.fact 67 rfl))
    (Hd.kob_ (c.fact 68 rfl))
    (Hd.kob_ (c.fact 69 rfl))
    (Hd.kob_ (c.fact 70 rfl))
    (Hd.kob_ (c.fact 71 rfl))
    (Hd.kob_ (c.fact 72 rfl))
    (Hd.kob_ (c.fact 73 rfl))
    (Hd.ne_ (c.fact 74 rfl))
    (Hd.ne_ (c.fact 75 rfl))
    (Hd.ne_ (c.fact 76 rfl))
    (Hd.dict_ c 0 77 78 rfl rfl rfl)
    (Hd.dicT_ c 1 79 80 rfl rfl rfl)
    (Hd.init_ c 0 81 rfl rfl)
    (Hd.meth_ c 1 82 rfl rfl)
    (Hd.meth_ c 2 83 rfl rfl)
    (Hd.methD_ c 3 84 rfl rfl)
    (Hd.fn_ c 4 85 86 rfl rfl rfl)
    (Hd.fn_ c 5 87 88 rfl rfl rfl)
    (Hd.fn_ c 6 89 90 rfl rfl rfl)
    (Hd.fn_ c 7 91 92 rfl rfl rfl)
    (Hd.fn_ c 8 93 94 rfl rfl rfl)
    (Hd.fn_ c 9 95 96 rfl rfl rfl)
    (Hd.fn_ c 10 97 98 rfl rfl rfl)
    (Hd.fn_ c 11 99 100 rfl rfl rfl)
    (Hd.fn_ c 12 101 102 rfl rfl rfl)
    (Hd.fn_ c 13 103 104 rfl rfl rfl)
    (Hd.fn_ c 14 105 106 rfl rfl rfl)
    (Hd.fn_ c 15 107 108 rfl rfl rfl)
    (Hd.fn_ c 16 109 110 rfl rfl rfl)
    (Hd.fn_ c 17 111 112 rfl rfl rfl)
    (Hd.fn_ c 18 113 114 rfl rfl rfl)
    (Hd.fn_ c 19 115 116 rfl rfl rfl)
    (Hd.fn_ c 20 117 118 rfl rfl rfl)
    (Hd.fn_ c 21 119 120 rfl rfl rfl)
    (Hd.fn_ c 22 121 122 rfl rfl rfl)
    (Hd.fn_ c 23 123 124 rfl rfl rfl)
    (Hd.fn_ c 24 125 126 rfl rfl rfl)
    (Hd.fn_ c 25 127 128 rfl rfl rfl)
    (Hd.fn_ c 26 129 130 rfl rfl rfl)
    (Hd.free_ (c.fact 131 rfl))
    (Hd.free_ (c.fact 132 rfl))
    (Hd.free_ (c.fact 133 rfl))
    (Hd.free_ (c.fact 134 rfl))
    (Hd.free_ (c.fact 135 rfl))
    (Hd.free_ (c.fact 136 rfl))
    (Hd.free_ (c.fact 137 rfl))
    (Hd.free_ (c.fact 138 rfl))
    (Hd.free_ (c.fact 139 rfl))
    (Hd.free_ (c.fact 140 rfl))
    (Hd.free_ (c.fact 141 rfl))
    (Hd.free_ (c.fact 142 rfl))
    (Hd.free_ (c.fact 143 rfl))
    (Hd.free_ (c.fact 144 rfl))
    (Hd.tup_get KX G (c.fact 145 rfl) (c.fact 146 rfl))
    (Hd.str_ (c.fact 147 rfl))
    (Hd.int_ (c.fact 148 rfl))
    (Hd.int_ (c.fact 149 rfl))
    (Hd.str_ (c.fact 150 rfl))
    (Hd.int_ (c.fact 151 rfl))
end My
open PySem PySem.W PySem.Calls PyProof.Rows
set_option maxRecDepth 100000 in
set_option maxHeartbeats 0 in
theorem PySem.Challenge.cw_livequill_k36_code_that_is_refused_holds : PySem.Challenge.rw_livequill_k36_code_that_is_refused.Holds := by
  w_on; o_law
  refine HandSHeadRun.head_any (r := OpenLaw.row PySem.Challenge.rw_livequill_k36_code_that_is_refused) (q := view (OpenLaw.row PySem.Challenge.rw_livequill_k36_code_that_is_refused).prog [43]) (H := My.hk) (ob := My.ob) (M := 300000) (loose := My.nms) (d := HandSHeadRun.topDef (OpenLaw.row PySem.Challenge.rw_livequill_k36_code_that_is_refused).prog 43) (kwd := []) My.ob_eq
    (by kernel_rfl) (fun s => by kernel_rfl) My.run (by kernel_rfl) (by kernel_rfl) (by kernel_rfl) (by rfl) (by first | assumption | decide +kernel) (by decide +kernel) ⟨rfl, rfl, rfl, rfl, rfl, by decide +kernel⟩ ?hw ?hc
  case hw => w_witness2
  case hc =>
    refine L2.walk_ofE (l := PySem.Challenge.rw_livequill_k36_code_that_is_refused) (n := 63) (k := 9) (x := "script") (CX := L2.CX0) rfl (by decide) (by kernel_rfl) ⟨rfl, by decide, by decide⟩ ?F (fun _ _ _ _ z => z)
    intro w mg fa h Y G hmg0
    obtain ⟨K, KX, c⟩ := Y
    have hmg : mg ("law" : PySem.Str) = some (.ref fa) := by
      have e : (HandSHeadRun.topDef (OpenLaw.row PySem.Challenge.rw_livequill_k36_code_that_is_refused).prog 43).name = ("law" : PySem.Str) := by kernel_rfl
      rw [← e]
      exact hmg0
    obtain ⟨fd, hb, hF⟩ := My.facts (P := (PySem.Challenge.rw_livequill_k36_code_that_is_refused).prog) (w := w) KX G hmg c
    exact ⟨K, fd, My.spLaw K, KX, hb, fun H a ns hl hO hS => ⟨a, ns, rfl, hS, hl, fun _ => rfl⟩, hF⟩
