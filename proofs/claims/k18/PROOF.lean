import PyProof.Rows.All
import Wide.All
import OpenK.AllK
import Wide.FinOn
import HandS.ForMost
import HandS.StrMore
import HandS.Wide
import HandS.IsInst
import HandS.Flow
import HandS.Codes
import HandS.Deep
import HandS.EndBits
import HandS.Walk
import KE.DataEq
import HandS.OwnEq
import HandS.Comp
import HandS.Property
import KE.KIsAll
import KE.KExcIs
import HandS.Exc
import HandS.ExcOwn
import HandS.ExcInit
import HandS.ExcField
import HandS.ExcIs
import HandS.TryOnly
import HandS.TryMany
import HandS.CallSlots
import HandS.WordsExc
import HandS.Small
import HandS.FStr
import HandS.More
import KE.KeyNested
import KE.KDictKeyed
import HandS.TupLen
import HandS.Iter
import HandS.DictComp
import HandS.List
import KE.GoesZip
import KE.GoesMore
import HandS.Zip
import HandS.Style
import KE.KStateDown
import HandS.Head0
import HandS.Head1
import HandS.Head2
import HandS.HeadEnd
import HandS.HeadHook1
import HandS.HeadHook2
import HandS.Replace
import HandS.ReplaceLit
import HandS.ReplaceDef
import HandS.ReplaceList
import HandS.HotCalls
import PySem.Challenge.RW_livequill_k18_operators_of_other_kinds
set_option Elab.async false
set_option linter.all false
set_option maxRecDepth 100000
/-! Fx: readings that compute: every operation is one function of its values, whatever their kinds. -/
namespace Fx
open PySem PySem.Spec PyProof.Rows L2

/-! ### weakening -/
section
variable {X : Cx}
theorem pe_wk {e : Expr} {t t' : TE} (h : PE X e t) (w : ∀ σ H Q, t' σ H Q → t σ H Q) : PE X e t' := ⟨fun pins s σ H Q I q => h.run pins s σ H Q I (w σ H Q q)⟩
theorem pt_wk {e : Expr} {t t' : TT} (h : PT X e t) (w : ∀ σ H Q, t' σ H Q → t σ H Q) : PT X e t' := ⟨fun pins s σ H Q I q => h.run pins s σ H Q I (w σ H Q q)⟩
theorem ps_wk {e : Stmt} {t t' : TS} (h : PS X e t) (w : ∀ D σ H, t' D σ H → t D σ H) : PS X e t' := ⟨fun pins s σ H D I q => h.run pins s σ H D I (w D σ H q)⟩
theorem op_wk {f : Value → Value → Sem Value} {r r' : R2} (h : OpR X f r) (w : ∀ x y H Q, r' x y H Q → r x y H Q) : OpR X f r' := fun pins s σ H x y v u Q I rx ry q => h pins s σ H x y v u Q I rx ry (w x y H Q q)
theorem call_wk {f : Value} {r r' : List V → Hp → VK → Prop} (h : CallR X f r) (w : ∀ xs H Q, r' xs H Q → r xs H Q) : CallR X f r' := fun pins s σ H xs us Q I rx q => h pins s σ H xs us Q I rx (w xs H Q q)

/-! ### names -/
def fVar (i : Nat) : TE := fun σ H Q => match σ[i]? with
  | some (some v) => Q v H
  | _ => False
theorem fe_var (i : Nat) {x : Str} {pos : Pos} (hN : X.N[i]? = some x := by rfl) (hv : Vis X.env.scope x := by first | exact Or.inl rfl | exact Or.inr (Or.inl rfl) | exact Or.inr (Or.inr rfl)) (hd : (x == ("__debug__" : Str)) = false := by decide)
    (hcd : (x == ("__classdict__" : Str)) = false := by decide) : PE X (.Name x pos) (fVar i) := pe_wk (pe_var hN hv hd hcd) fun σ H Q q => by
  unfold fVar at q
  split at q
  · exact ⟨_, by assumption, q⟩
  · exact q.elim

theorem same_new {H : Hp} {p : Addr} {o : HO} (h : H p = none) : Same H (upd H p o) := fun b x e => by
  rw [upd_ne (ne_of_none e h)]
  exact e
/-- a new tuple, a new list: behind it a heap that has it and keeps the rest -/
def fTup (t : TA) : TE := fun σ H Q => t σ H fun xs H1 => xs.length ≤ 100000 ∧ ∀ p H2, H1 p = none → Same H1 H2 → H2 p = some (.tup xs) → Q (.ref p) H2
def fLst (t : TA) : TE := fun σ H Q => t σ H fun xs H1 => xs.length ≤ 100000 ∧ ∀ p H2, H1 p = none → Same H1 H2 → H2 p = some (.lst xs) → Q (.ref p) H2
theorem line5 {n : Nat} (h : n ≤ 100000) : n ≤ sizeLine := Nat.le_trans h (by decide)
section
variable {es : List Expr} {t : TA} {pos : Pos}
theorem fe_tup {x1} (h : PA X es t) : PE X (.Tuple es x1 pos) (fTup t) := by
  refine ⟨fun pins s σ H Q I hq => ?_⟩
  refine wpAny_Tuple_spliced (thn (h.run pos pins s σ H _ I hq) fun us s1 ⟨xs, H1, I1, r, z, q⟩ => ⟨by rw [← r.length]; exact line5 z, ?_⟩)
  have hf : H1 s1.heap.objs.size = none := I1.hok.fresh (Nat.le_refl _)
  refine ⟨.ref s1.heap.objs.size, upd H1 s1.heap.objs.size (.tup xs), I1.laid (t' := s1.toks) (fun b u e => Heap.get?_push_of_some _ e) (Nat.le_refl _) ?_, rfl, q _ _ hf (same_new hf) upd_same⟩
  exact ⟨line5 z, us, r, ⟨_, Heap.get?_push_size _ rfl, rfl, _, rfl⟩⟩
theorem fe_lst (h : PA X es t) : PE X (.List es pos) (fLst t) := by
  refine ⟨fun pins s σ H Q I hq => ?_⟩
  refine wpAny_List_spliced (thn (h.run pos pins s σ H _ I hq) fun us s1 ⟨xs, H1, I1, r, z, q⟩ => ⟨by rw [← r.length]; exact line5 z, ?_⟩)
  have hf : H1 s1.heap.objs.size = none := I1.hok.fresh (Nat.le_refl _)
  refine ⟨.ref s1.heap.objs.size, upd H1 s1.heap.objs.size (.lst xs), I1.laid (t' := s1.toks) (fun b u e => Heap.get?_push_of_some _ e) (Nat.le_refl _) ?_, rfl, q _ _ hf (same_new hf) upd_same⟩
  exact ⟨line5 z, us, 0, r, Heap.get?_push_size _ rfl⟩
end
/-! ### a list or a tuple that is read -/
def Rl (K : PySem.W.Frag) (H : Hp) (a : Addr) (xs : List V) : Prop := SqL K H a xs ∨ SqT K H a xs
theorem rl_l {K : PySem.W.Frag} {H : Hp} {a : Addr} {xs : List V} (h : H a = some (.lst xs)) : Rl K H a xs := .inl (SqL.of h)
theorem rl_t {K : PySem.W.Frag} {H : Hp} {a : Addr} {xs : List V} (h : H a = some (.tup xs)) : Rl K H a xs := .inr (SqT.of h)

/-! ### operators by values -/
def fAdd (K : PySem.W.Frag) : R2 := fun x y H Q => match x, y with
  | .int i, .int j => Q (.int (i + j)) H
  | .str a, .str b => a.length + b.length ≤ sizeLine ∧ Q (.str (a ++ b)) H
  | .ref l, .ref b => match H l, H b with
    | some (.lst xs), some (.lst zs) => xs.length + zs.length ≤ sizeLine ∧ ∀ p H1, H p = none → Same H H1 → H1 p = some (.lst (xs ++ zs)) → Q (.ref p) H1
    | _, _ => False
  | _, _ => False
theorem op_fAdd : OpR X (binaryOp .Add) (fAdd X.K) := by
  intro pins s σ H x y v u Q I rx ry h
  cases x <;> cases y <;> first
    | exact False.elim h
    | exact op_add pins s σ H _ _ v u Q I rx ry ⟨_, _, rfl, rfl, h⟩
    | exact op_add_str pins s σ H _ _ v u Q I rx ry ⟨_, _, rfl, rfl, h⟩
    | (dsimp only [fAdd] at h
       split at h
       · exact op_cat pins s σ H _ _ v u Q I rx ry ⟨_, _, _, _, rfl, rfl, by assumption, by assumption, h.1, fun p np => h.2 p _ np (same_new np) upd_same⟩
       · exact h.elim)
def fSub : R2 := fun x y H Q => match x, y with
  | .int i, .int j => Q (.int (i - j)) H
  | _, _ => False
theorem op_fSub : OpR X (binaryOp .Sub) fSub := by
  intro pins s σ H x y v u Q I rx ry h
  cases x <;> cases y <;> first
    | exact False.elim h
    | exact op_sub pins s σ H _ _ v u Q I rx ry ⟨_, _, rfl, rfl, h⟩
def fMul : R2 := fun x y H Q => match x, y with
  | .int i, .int j => IntMulOk i j ∧ Q (.int (i * j)) H
  | .str a, .int j => MulOk a j ∧ Q (.str (Txt.mul a j)) H
  | .ref l, .int k => rRep (.ref l) (.int k) H Q
  | _, _ => False
theorem op_fMul : OpR X (binaryOp .Mult) fMul := by
  intro pins s σ H x y v u Q I rx ry h
  match x, y, rx, ry, h with
  | .int i, .int j, ⟨t, e⟩, ⟨t', e'⟩, ⟨hm, q⟩ =>
    subst e e'
    exact mul_int ⟨.int _, H, I.tok _, ⟨_, rfl⟩, q⟩ hm
  | .str a, .int j, ⟨t, e⟩, ⟨t', e'⟩, ⟨hm, q⟩ =>
    subst e e'
    exact SB.mul hm fun t' k => ⟨.str _, H, I.tok _, ⟨_, rfl⟩, q⟩
  | .ref l, .int k, rx, ry, h => exact op_rep pins s σ H _ _ v u Q I rx ry h
def fDiv : R2 := fun x y H Q => match x, y with
  | .int i, .int j => CDivW i j ∧ Q (.int (i / j)) H
  | _, _ => False
theorem op_fDiv : OpR X (binaryOp .FloorDiv) fDiv := by
  intro pins s σ H x y v u Q I rx ry h
  cases x <;> cases y <;> first
    | exact False.elim h
    | exact op_fdivW pins s σ H _ _ v u Q I rx ry ⟨_, _, rfl, rfl, h⟩
def fMod : R2 := fun x y H Q => match x, y with
  | .int i, .int j => 0 < j ∧ Q (.int (i % j)) H
  | _, _ => False
theorem op_fMod : OpR X (binaryOp .Mod) fMod := by
  intro pins s σ H x y v u Q I rx ry h
  cases x <;> cases y <;> first
    | exact False.elim h
    | exact op_mod pins s σ H _ _ v u Q I rx ry ⟨_, _, rfl, rfl, h⟩
def fNeg : V → Hp → VK → Prop := fun x H Q => match x with
  | .int i => Q (.int (-i)) H
  | _ => False
theorem un_fNeg : UnR X (unaryOp .USub) fNeg := by
  intro pins s σ H x v Q I rx h
  cases x <;> first
    | exact False.elim h
    | exact un_neg pins s σ H _ v Q I rx ⟨_, rfl, h⟩
/-- data that == may look at -/
def okd (d : PyData) : Bool := d.plain && decide (d.depth ≤ 64)
/-- == of scalars as such, of lists and tuples as data -/
def fEq (K : PySem.W.Frag) (neg : Bool) : R2 := fun x y H Q =>
  if scal x y = true then Q (.bl (if neg = true then !decide (x = y) else decide (x = y))) H
  else ∃ d e, Dp K H x d ∧ Dp K H y e ∧ okd d = true ∧ okd e = true ∧ Q (.bl (if neg = true then !PyData.eqv d e else PyData.eqv d e)) H
theorem op_fEq (hu : X.A.units + 64 < cLine) : OpR X (compareOp .Eq) (fEq X.K false) := by
  intro pins s σ H x y v u Q I rx ry h
  unfold fEq at h
  split at h
  · exact op_eq pins s σ H x y v u Q I rx ry ⟨by assumption, h⟩
  · obtain ⟨d, e, hd, he, sd, se, q⟩ := h
    obtain ⟨as, r1⟩ := Dp.reads I d x v hd rx
    obtain ⟨bs, r2⟩ := Dp.reads I e y u he ry
    have sd := Bool.and_eq_true_iff.mp sd
    have se := Bool.and_eq_true_iff.mp se
    have d1 := of_decide_eq_true sd.2
    exact SeqAt.eq_plain r1 r2 sd.1 se.1 (by omega) ⟨.bl _, H, I, rfl, q⟩
theorem op_fNe (hu : X.A.units + 64 < cLine) : OpR X (compareOp .NotEq) (fEq X.K true) := by
  intro pins s σ H x y v u Q I rx ry h
  unfold fEq at h
  split at h
  · exact op_ne pins s σ H x y v u Q I rx ry ⟨by assumption, h⟩
  · obtain ⟨d, e, hd, he, sd, se, q⟩ := h
    obtain ⟨as, r1⟩ := Dp.reads I d x v hd rx
    obtain ⟨bs, r2⟩ := Dp.reads I e y u he ry
    have sd := Bool.and_eq_true_iff.mp sd
    have se := Bool.and_eq_true_iff.mp se
    have d1 := of_decide_eq_true sd.2
    exact SeqAt.ne_plain r1 r2 sd.1 se.1 (by omega) ⟨.bl _, H, I, rfl, q⟩
def fLt : R2 := fun x y H Q => match x, y with
  | .int i, .int j => Q (.bl (decide (i < j))) H
  | .str i, .str j => Q (.bl (decide (i.cps.toList < j.cps.toList))) H
  | _, _ => False
theorem op_fLt : OpR X (compareOp .Lt) fLt := by
  intro pins s σ H x y v u Q I rx ry h
  cases x <;> cases y <;> first
    | exact False.elim h
    | exact op_lt pins s σ H _ _ v u Q I rx ry ⟨_, _, rfl, rfl, h⟩
    | exact op_lt_str pins s σ H _ _ v u Q I rx ry ⟨_, _, rfl, rfl, h⟩
def fLe : R2 := fun x y H Q => match x, y with
  | .int i, .int j => Q (.bl (decide (i ≤ j))) H
  | .str i, .str j => Q (.bl (!decide (j.cps.toList < i.cps.toList))) H
  | _, _ => False
theorem op_fLe : OpR X (compareOp .LtE) fLe := by
  intro pins s σ H x y v u Q I rx ry h
  cases x <;> cases y <;> first
    | exact False.elim h
    | exact op_le pins s σ H _ _ v u Q I rx ry ⟨_, _, rfl, rfl, h⟩
    | exact op_le_str pins s σ H _ _ v u Q I rx ry ⟨_, _, rfl, rfl, h⟩
def fGt : R2 := fun x y H Q => match x, y with
  | .int i, .int j => Q (.bl (decide (j < i))) H
  | .str i, .str j => Q (.bl (decide (j.cps.toList < i.cps.toList))) H
  | _, _ => False
theorem op_fGt : OpR X (compareOp .Gt) fGt := by
  intro pins s σ H x y v u Q I rx ry h
  cases x <;> cases y <;> first
    | exact False.elim h
    | exact op_gt pins s σ H _ _ v u Q I rx ry ⟨_, _, rfl, rfl, h⟩
    | exact op_gt_str pins s σ H _ _ v u Q I rx ry ⟨_, _, rfl, rfl, h⟩
def fGe : R2 := fun x y H Q => match x, y with
  | .int i, .int j => Q (.bl (decide (j ≤ i))) H
  | .str i, .str j => Q (.bl (!decide (i.cps.toList < j.cps.toList))) H
  | _, _ => False
theorem op_fGe : OpR X (compareOp .GtE) fGe := by
  intro pins s σ H x y v u Q I rx ry h
  cases x <;> cases y <;> first
    | exact False.elim h
    | exact op_ge pins s σ H _ _ v u Q I rx ry ⟨_, _, rfl, rfl, h⟩
    | exact op_ge_str pins s σ H _ _ v u Q I rx ry ⟨_, _, rfl, rfl, h⟩
/-- x in y: one sign in a text; a text in a text; a flat value in a list or tuple of flat values -/
def fIn (K : PySem.W.Frag) (neg : Bool) : R2 := fun x y H Q => match x, y with
  | .str a, .str b => match a.cps.toList with
    | [c] => Q (.bl (if neg = true then !decide (c ∈ b.cps.toList) else decide (c ∈ b.cps.toList))) H
    | _ => Q (.bl (if neg = true then !(!(Builtin.Str.occurrences b a 0 b.length 1).isEmpty) else !(Builtin.Str.occurrences b a 0 b.length 1).isEmpty)) H
  | x, .ref p => ∃ xs, Rl K H p xs ∧ flatV x = true ∧ xs.all flatV = true ∧ Q (.bl (if neg = true then !inV x xs else inV x xs)) H
  | _, _ => False
theorem str_one {a : Str} {c : Nat} (h : a.cps.toList = [c]) : a = ⟨#[c]⟩ := by
  obtain ⟨⟨l⟩⟩ := a
  have h' : l = [c] := h
  subst h'
  rfl
theorem op_fIn : OpR X (compareOp .In) (fIn X.K false) := by
  intro pins s σ H x y v u Q I rx ry h
  cases y with
  | str b =>
    cases x with
    | str a =>
      dsimp only [fIn] at h
      split at h
      · rename_i c e
        cases str_one e
        exact op_in_sign pins s σ H _ _ v u Q I rx ry ⟨_, _, rfl, rfl, h⟩
      · exact op_in_str pins s σ H _ _ v u Q I rx ry ⟨_, _, rfl, rfl, h⟩
    | _ => exact False.elim h
  | ref p =>
    have h' : ∃ xs, Rl X.K H p xs ∧ flatV x = true ∧ xs.all flatV = true ∧ Q (.bl (if false = true then !inV x xs else inV x xs)) H := by
      cases x <;> exact h
    obtain ⟨xs, h1, h2, h3, h4⟩ := h'
    exact op_in_seq pins s σ H _ _ v u Q I rx ry ⟨p, xs, rfl, h1, h2, h3, h4⟩
  | _ => cases x <;> exact False.elim h
theorem op_fNotIn : OpR X (compareOp .NotIn) (fIn X.K true) := by
  intro pins s σ H x y v u Q I rx ry h
  cases y with
  | str b =>
    cases x with
    | str a =>
      dsimp only [fIn] at h
      split at h
      · rename_i c e
        cases str_one e
        exact op_notIn_sign pins s σ H _ _ v u Q I rx ry ⟨_, _, rfl, rfl, h⟩
      · exact op_notin_str pins s σ H _ _ v u Q I rx ry ⟨_, _, rfl, rfl, h⟩
    | _ => exact False.elim h
  | ref p =>
    have h' : ∃ xs, Rl X.K H p xs ∧ flatV x = true ∧ xs.all flatV = true ∧ Q (.bl (if true = true then !inV x xs else inV x xs)) H := by
      cases x <;> exact h
    obtain ⟨xs, h1, h2, h3, h4⟩ := h'
    exact op_notIn_seq pins s σ H _ _ v u Q I rx ry ⟨p, xs, rfl, h1, h2, h3, h4⟩
  | _ => cases x <;> exact False.elim h
/-- is, with None on the right -/
def fIsN : R2 := fun x y H Q => y = .non ∧ Q (.bl (decide (x = .non))) H
def fNotN : R2 := fun x y H Q => y = .non ∧ Q (.bl (!decide (x = .non))) H
theorem op_fIsN : OpR X (compareOp .Is) fIsN := op_isN
theorem op_fNotN : OpR X (compareOp .IsNot) fNotN := op_notN
/-- x[i] -/
def fIx (K : PySem.W.Frag) : R2 := fun x y H Q => match x, y with
  | .str z, .int i => z.length ≤ sizeLine ∧ ∃ c, atI z.cps.toList i = some c ∧ Q (.str ⟨#[c]⟩) H
  | .ref p, .int i => ∃ xs, Rl K H p xs ∧ ∃ v, atI xs i = some v ∧ Q v H
  | _, _ => False
theorem ix_fx : IxR X (fIx X.K) := by
  intro e1 e2 pins s σ H x y v u Q I rx ry h hs
  cases x <;> cases y <;> first
    | exact False.elim h
    | (obtain ⟨h1, c, h2, h3⟩ := h
       exact ix_str e1 e2 pins s σ H _ _ v u Q I rx ry ⟨_, _, c, rfl, rfl, h1, h2, h3⟩ hs)
    | (obtain ⟨xs, h1, w, h2, h3⟩ := h
       rcases h1 with h1 | h1
       · exact ix_list e1 e2 pins s σ H _ _ v u Q I rx ry ⟨_, xs, _, w, rfl, rfl, h1, h2, h3⟩ hs
       · exact ix_tup e1 e2 pins s σ H _ _ v u Q I rx ry ⟨_, xs, _, w, rfl, rfl, h1, h2, h3⟩ hs)
/-- x[lo:hi] of a text, of a list -/
def fSl (K : PySem.W.Frag) : V → Option Int → Option Int → Hp → VK → Prop := fun x lo hi H Q => match x with
  | .str z => z.length ≤ sizeLine ∧ Q (.str (cutS z lo hi)) H
  | .ref a => ∃ xs, SqL K H a xs ∧ ∀ p H1, H p = none → Same H H1 → H1 p = some (.lst (cutV xs lo hi)) → Q (.ref p) H1
  | _ => False
theorem sl_fx : SlR X (fSl X.K) := by
  intro pins s σ H x v vl vu lo hi sl Q I rx hs pl pu h
  cases x <;> first
    | exact False.elim h
    | exact sl_str pins s σ H _ v vl vu lo hi sl Q I rx hs pl pu ⟨_, rfl, h⟩
    | (obtain ⟨xs, h1, h2⟩ := h
       exact sl_list pins s σ H _ v vl vu lo hi sl Q I rx hs pl pu ⟨_, xs, rfl, h1, fun p np => h2 p _ np (same_new np) upd_same⟩)
/-- o[i] = v of a list -/
def fSet : TSet := fun o i v H Q => match o, i with
  | .ref p, .int k => match H p with
    | some (.lst xs) => ∃ j, ixN xs.length k = some j ∧ Q (upd H p (.lst (xs.set j v)))
    | _ => False
  | _, _ => False
theorem set_fx : PSet X fSet := by
  intro pins s σ H o i v ov iv u Q I ro ri rv h
  cases o <;> cases i <;> first
    | exact False.elim h
    | (dsimp only [fSet] at h
       split at h
       · obtain ⟨j, h2, h3⟩ := h
         exact set_list pins s σ H _ _ v ov iv u Q I ro ri rv ⟨_, _, _, j, rfl, rfl, by assumption, h2, h3⟩
       · exact h.elim)
/-- name += e -/
def fIAdd : TIp := fun x y H Q => match x, y with
  | .int i, .int j => Q (.int (i + j)) H
  | .str a, .str b => a.length + b.length ≤ sizeLine ∧ Q (.str (a ++ b)) H
  | _, _ => False
theorem ip_fAdd : PIp X .Add fIAdd := by
  intro pins s σ H x y v u Q I rx ry h
  cases x <;> cases y <;> first
    | exact False.elim h
    | exact ip_add pins s σ H _ _ v u Q I rx ry ⟨_, _, rfl, rfl, h⟩
    | exact iop_add_str pins s σ H _ _ v u Q I rx ry ⟨_, _, rfl, rfl, h⟩
def fISub : TIp := fun x y H Q => match x, y with
  | .int i, .int j => Q (.int (i - j)) H
  | _, _ => False
theorem ip_fSub : PIp X .Sub fISub := by
  intro pins s σ H x y v u Q I rx ry h
  cases x <;> cases y <;> first
    | exact False.elim h
    | exact ip_sub pins s σ H _ _ v u Q I rx ry ⟨_, _, rfl, rfl, h⟩
/-! ### built-in calls -/
def fLen (K : PySem.W.Frag) : List V → Hp → VK → Prop := fun xs H Q => match xs with
  | [.str z] => z.length ≤ sizeLine ∧ Q (.int z.length) H
  | [.ref p] => ∃ ys, Rl K H p ys ∧ Q (.int ys.length) H
  | _ => False
theorem call_fLen : CallR X (.builtin "len") (fLen X.K) := by
  intro pins s σ H xs us Q I r h
  match xs, r, h with
  | [.str z], r, h => exact call_len_str pins s σ H _ us Q I r ⟨z, rfl, h⟩
  | [.ref p], r, h =>
    obtain ⟨ys, h1, h2⟩ := h
    exact call_len_seq pins s σ H _ us Q I r ⟨p, ys, rfl, h1, h2⟩
/-- len of a dict -/
def fLenD : List V → Hp → VK → Prop := fun xs H Q => match xs with
  | [.ref p] => ∃ kvs, H p = some (.dK kvs) ∧ Q (.int kvs.length) H
  | _ => False
theorem call_fLenD : CallR X (.builtin "len") fLenD := by
  intro pins s σ H xs us Q I r h
  match xs, r, h with
  | [.ref p], r, h =>
    obtain ⟨kvs, h1, h2⟩ := h
    exact call_lenD pins s σ H _ us Q I r ⟨p, kvs, rfl, h1, h2⟩
def fInt : List V → Hp → VK → Prop := fun xs H Q => match xs with
  | [.int i] => Q (.int i) H
  | [.bl k] => Q (.int (if k then 1 else 0)) H
  | [.str a] => ∃ n, PySem.intText? a = some n ∧ a.length ≤ 640 ∧ Q (.int n) H
  | _ => False
theorem call_fInt : CallR X (.type "int") fInt := by
  intro pins s σ H xs us Q I r h
  match xs, r, h with
  | [.int i], r, h => exact call_int1 pins s σ H _ us Q I r (.inl ⟨i, rfl, h⟩)
  | [.bl k], r, h => exact call_int1 pins s σ H _ us Q I r (.inr ⟨k, rfl, h⟩)
  | [.str a], r, h =>
    obtain ⟨n, h1, h2, h3⟩ := h
    exact call_int_str pins s σ H _ us Q I r ⟨a, n, rfl, h1, h2, h3⟩
def fStr : List V → Hp → VK → Prop := fun xs H Q => match xs with
  | [.int i] => i.natAbs.log2 < 1920 ∧ Q (.str (toString i)) H
  | _ => False
theorem call_fStr : CallR X (.type "str") fStr := by
  intro pins s σ H xs us Q I r h
  match xs, r, h with
  | [.int i], r, h => exact call_str_int pins s σ H _ us Q I r ⟨i, rfl, h⟩
def fAbs : List V → Hp → VK → Prop := fun xs H Q => match xs with
  | [.int i] => Q (.int (if i < 0 then -i else i)) H
  | _ => False
theorem call_fAbs : CallR X (.builtin "abs") fAbs := by
  intro pins s σ H xs us Q I r h
  match xs, r, h with
  | [.int i], r, h => exact call_abs pins s σ H _ us Q I r ⟨i, rfl, h⟩
def fMax : List V → Hp → VK → Prop := fun xs H Q => match xs with
  | [.int i, .int j] => Q (.int (if j > i then j else i)) H
  | _ => False
theorem call_fMax (hc : X.calm = true) : CallR X (.builtin "max") fMax := by
  intro pins s σ H xs us Q I r h
  match xs, r, h with
  | [.int i, .int j], r, h => exact call_max2 hc pins s σ H _ us Q I r ⟨i, j, rfl, h⟩
def fMin : List V → Hp → VK → Prop := fun xs H Q => match xs with
  | [.int i, .int j] => Q (.int (if j < i then j else i)) H
  | _ => False
theorem call_fMin (hc : X.calm = true) : CallR X (.builtin "min") fMin := by
  intro pins s σ H xs us Q I r h
  match xs, r, h with
  | [.int i, .int j], r, h => exact call_min2 hc pins s σ H _ us Q I r ⟨i, j, rfl, h⟩
def fOrd : List V → Hp → VK → Prop := fun xs H Q => match xs with
  | [.str x] => ∃ c, x.cps.toList = [c] ∧ Q (.int (c : Nat)) H
  | _ => False
theorem call_fOrd : CallR X (.builtin "ord") fOrd := by
  intro pins s σ H xs us Q I r h
  match xs, r, h with
  | [.str x], r, h =>
    obtain ⟨c, h1, h2⟩ := h
    cases str_one h1
    exact call_ord pins s σ H _ us Q I r ⟨_, rfl, rfl, h2⟩
def fChr : List V → Hp → VK → Prop := fun xs H Q => match xs with
  | [.int i] => (0 ≤ i ∧ i ≤ 1114111) ∧ Q (.str ⟨#[i.toNat]⟩) H
  | _ => False
theorem call_fChr : CallR X (.builtin "chr") fChr := by
  intro pins s σ H xs us Q I r h
  match xs, r, h with
  | [.int i], r, h => exact call_chr pins s σ H _ us Q I r ⟨i, rfl, h.1.1, h.1.2, h.2⟩
/-- list(x): a new list -/
def fListOf (K : PySem.W.Frag) : List V → Hp → VK → Prop := fun xs H Q => match xs with
  | [.ref p] => ∃ ys, Rl K H p ys ∧ ∀ l H1, H l = none → Same H H1 → H1 l = some (.lst ys) → Q (.ref l) H1
  | _ => False
theorem call_fListOf : CallR X (.type "list") (fListOf X.K) := by
  intro pins s σ H xs us Q I r h
  match xs, r, h with
  | [.ref p], r, h =>
    obtain ⟨ys, h1, h2⟩ := h
    exact call_list_of pins s σ H _ us Q I r ⟨p, ys, rfl, h1, fun l nl => h2 l _ nl (same_new nl) upd_same⟩
/-! ### isinstance of a built-in class -/
/-- a value's built-in class (by the abstract heap), where it is plain -/
def tyOf (H : Hp) : V → Option String
  | .non => some "NoneType"
  | .bl _ => some "bool"
  | .int _ => some "int"
  | .str _ => some "str"
  | .ref a => match H a with
    | some (.lst _) => some "list"
    | some (.tup _) => some "tuple"
    | some (.dK _) => some "dict"
    | some (.dT _) => some "dict"
    | _ => none
  | _ => none
theorem tyX_of {K : PySem.W.Frag} {H : Hp} {x : V} {t : String} (h : tyOf H x = some t) : TyX K H x (.type t) := by
  cases x with
  | non => cases h; exact .base .non
  | bl b => cases h; exact .base (.bl b)
  | int b => cases h; exact .base (.int b)
  | str b => cases h; exact .base (.str b)
  | ref a =>
    dsimp only [tyOf] at h
    split at h <;> first
      | (cases h; exact .base (.lst (by assumption)))
      | (cases h; exact .base (.tup (by assumption)))
      | (cases h; exact .base (.dK (by assumption)))
      | (cases h; exact .base (.dT (by assumption)))
      | cases h
  | _ => cases h
/-- one of some built-in classes -/
def kitBs (t : String) : List V → Option Bool
  | [] => some false
  | .ty n :: cs => match kitB t n, kitBs t cs with
    | some b, some r => some (b || r)
    | _, _ => none
  | _ => none
theorem kitBs_any {K : PySem.W.Frag} {t : String} : ∀ {cs : List V} {r : Bool}, kitBs t cs = some r → ∃ us, Paired ClsV cs us ∧ PySem.W.kitAny K (.type t) us = some r
  | [], r, h => by cases h; exact ⟨[], .nil, kitAny_nil⟩
  | c :: cs, r, h => by
    cases c <;> first
      | cases h
      | (rename_i n
         unfold kitBs at h
         split at h
         · rename_i b r' e e2
           cases h
           obtain ⟨us, p, q⟩ := kitBs_any e2
           refine ⟨_, .cons (.ty n) p, kitAny_cons (kit_ty e) (fun hb => ?_) fun hb => ?_⟩
           · rw [hb]; exact q
           · rw [hb]; rfl
         · cases h)
theorem kitBv : kitB "NoneType" "bool" = some false ∧ kitB "NoneType" "int" = some false ∧ kitB "NoneType" "str" = some false ∧ kitB "NoneType" "list" = some false ∧ kitB "NoneType" "tuple" = some false ∧ kitB "NoneType" "dict" = some false ∧ kitB "bool" "bool" = some true ∧ kitB "bool" "int" = some true ∧ kitB "bool" "str" = some false ∧ kitB "bool" "list" = some false ∧ kitB "bool" "tuple" = some false ∧ kitB "bool" "dict" = some false ∧ kitB "int" "bool" = some false ∧ kitB "int" "int" = some true ∧ kitB "int" "str" = some false ∧ kitB "int" "list" = some false ∧ kitB "int" "tuple" = some false ∧ kitB "int" "dict" = some false ∧ kitB "str" "bool" = some false ∧ kitB "str" "int" = some false ∧ kitB "str" "str" = some true ∧ kitB "str" "list" = some false ∧ kitB "str" "tuple" = some false ∧ kitB "str" "dict" = some false ∧ kitB "list" "bool" = some false ∧ kitB "list" "int" = some false ∧ kitB "list" "str" = some false ∧ kitB "list" "list" = some true ∧ kitB "list" "tuple" = some false ∧ kitB "list" "dict" = some false ∧ kitB "tuple" "bool" = some false ∧ kitB "tuple" "int" = some false ∧ kitB "tuple" "str" = some false ∧ kitB "tuple" "list" = some false ∧ kitB "tuple" "tuple" = some true ∧ kitB "tuple" "dict" = some false ∧ kitB "dict" "bool" = some false ∧ kitB "dict" "int" = some false ∧ kitB "dict" "str" = some false ∧ kitB "dict" "list" = some false ∧ kitB "dict" "tuple" = some false ∧ kitB "dict" "dict" = some true := by decide +kernel
/-- isinstance(x, T), T a built-in class, or a new tuple of such -/
def fIsi : List V → Hp → VK → Prop := fun xs H Q => match xs with
  | [x, .ty n] => ∃ t, tyOf H x = some t ∧ ∃ b, kitB t n = some b ∧ Q (.bl b) H
  | [x, .ref p] => match H p with
    | some (.tup cs) => ∃ t, tyOf H x = some t ∧ ∃ b, kitBs t cs = some b ∧ Q (.bl b) H
    | _ => False
  | _ => False
theorem call_fIsi : CallR X (.builtin "isinstance") fIsi := by
  intro pins s σ H xs us Q I r h
  match xs, r, h with
  | [x, .ty n], r, h =>
    obtain ⟨t, h1, b, h2, h3⟩ := h
    exact call_isi pins s σ H _ us Q I r ⟨x, .ty n, _, _, b, rfl, .ty n, tyX_of h1, kit_ty h2, h3⟩
  | [x, .ref p], r, h =>
    dsimp only [fIsi] at h
    split at h
    · obtain ⟨t, h1, b, h2, h3⟩ := h
      obtain ⟨ws, h4, h5⟩ := kitBs_any h2
      exact call_isiT pins s σ H _ us Q I r ⟨x, p, _, _, ws, b, rfl, by assumption, h4, tyX_of h1, h5, h3⟩
    · exact h.elim
/-! ### methods of built-in types -/
def isLst : V → Hp → Prop := fun x H => match x with
  | .ref p => match H p with
    | some (.lst _) => True
    | _ => False
  | _ => False
theorem isLst_ty {K : PySem.W.Frag} {x : V} {H : Hp} (h : isLst x H) : tyV K "list" x H := by
  unfold isLst at h
  split at h
  · split at h
    · exact .inl ⟨rfl, _, SqL.of (by assumption)⟩
    · exact h.elim
  · exact h.elim
def isDct : V → Hp → Prop := fun x H => match x with
  | .ref p => match H p with
    | some (.dK _) => True
    | _ => False
  | _ => False
theorem isDct_ty {K : PySem.W.Frag} {x : V} {H : Hp} (h : isDct x H) : tyV K "dict" x H := by
  unfold isDct at h
  split at h
  · split at h
    · exact .inr (.inr (.inl ⟨rfl, .inl ⟨_, by assumption⟩⟩))
    · exact h.elim
  · exact h.elim
def isStr : V → Hp → Prop := fun x _ => match x with
  | .str _ => True
  | _ => False
theorem isStr_ty {K : PySem.W.Frag} {x : V} {H : Hp} (h : isStr x H) : tyV K "str" x H := by
  cases x <;> first | exact rfl | exact False.elim h
section
variable {o e : Expr} {es : List Expr} {to te : TE} {t : TA} {apos cpos : Pos} {T id : String} {name : Str} {r : V → List V → Hp → VK → Prop} {ty : V → Hp → Prop}
def fBM0 (ty : V → Hp → Prop) (r : V → List V → Hp → VK → Prop) (to : TE) : TE := fun σ H Q => to σ H fun x H1 => ty x H1 ∧ r x [] H1 Q
def fBM (ty : V → Hp → Prop) (r : V → List V → Hp → VK → Prop) (to : TE) (t : TA) : TE := fun σ H Q => to σ H fun x H1 => ty x H1 ∧ t σ H1 fun xs H2 => r x xs H2 Q
theorem fe_bm0 (pa : PlainAttrs T) (slot : Slot T name id) (hty : typeOf (.builtin id) = pure (.type "method_descriptor")) (hT : ∀ {K : PySem.W.Frag} {x : V} {H : Hp}, ty x H → tyV K T x H) (hm : MtR X id r) (ho : PE X o to)
    (hbase : attributeBase o name X.env (eval o X.env) = eval o X.env := by rfl) (hline : (apos.endLine == cpos.line) = true := by rfl) : PE X (.Call (.Attribute o name apos) [] [] cpos) (fBM0 ty r to) := by
  refine ⟨fun pins s σ H Q I h => ?_⟩
  refine wpAny_Call_method0_late hbase hline (thn (ho.run pins s σ H _ I h) fun v s1 ⟨x, H1, I1, r1, tyx, q1⟩ => ?_)
  obtain ⟨h1, h2⟩ := tyV_is I1 r1 (hT tyx)
  exact ⟨T, id, pa, slot, hty, h1, h2, Calls.callWith_builtin rfl (PySem.evalArgs_none (hm pins s1 σ H1 x [] v [] Q I1 r1 .nil q1))⟩
theorem fe_bm (pa : PlainAttrs T) (slot : Slot T name id) (hty : typeOf (.builtin id) = pure (.type "method_descriptor")) (hT : ∀ {K : PySem.W.Frag} {x : V} {H : Hp}, ty x H → tyV K T x H) (hm : MtR X id r) (ho : PE X o to) (ha : PA X (e :: es) t)
    (hbase : attributeBase o name X.env (eval o X.env) = eval o X.env := by rfl)
    (hfew : ((backTo cpos (starEach (e :: es) X.env)).all (fun x => !x.1) && (backToKw cpos (keywordEach [] X.env)).all (fun x => x.1.isSome)
      && decide ((e :: es).length + ([] : List Keyword).length + (if ([] : List Keyword).isEmpty then 0 else 1) < 30)) = true := by rfl)
    (hline : (apos.endLine == cpos.line) = true := by rfl) (hs : starEach (e :: es) X.env = (false, eval e X.env) :: starEach es X.env := by rfl) (hplain : (backTo cpos (starEach es X.env)).any (·.1) = false := by rfl) :
    PE X (.Call (.Attribute o name apos) (e :: es) [] cpos) (fBM ty r to t) := by
  refine ⟨fun pins s σ H Q I h => ?_⟩
  refine wpAny_Call_method_late hbase hfew hline rfl (thn (ho.run pins s σ H _ I h) fun v s1 ⟨x, H1, I1, r1, tyx, q1⟩ => ?_)
  obtain ⟨h1, h2⟩ := tyV_is I1 r1 (hT tyx)
  refine ⟨T, id, pa, slot, hty, h1, h2, ?_⟩
  have hA := ha.run cpos pins s1 σ H1 _ I1 q1
  rw [hs] at hA ⊢
  refine Calls.callWith_builtin (by show (false || (backTo cpos (starEach es X.env)).any (·.1)) = false; rw [hplain] <;> rfl) (Calls.evalArgs_plain ?_)
  exact thn hA fun us s2 ⟨vs, H2, I2, r2, q2⟩ => hm pins s2 σ H2 x vs v us Q I2 r1 r2 q2
end
def fAppend : V → List V → Hp → VK → Prop := fun x vs H Q => match x, vs with
  | .ref l, [y] => match H l with
    | some (.lst xs) => xs.length < sizeLine ∧ Q .non (upd H l (.lst (xs ++ [y])))
    | _ => False
  | _, _ => False
theorem mt_fAppend : MtR X "list.append" fAppend := by
  intro pins s σ H x xs v us Q I rx rs h
  unfold fAppend at h
  split at h
  · split at h
    · exact mt_append pins s σ H _ _ v us Q I rx rs ⟨_, _, _, rfl, rfl, by assumption, h⟩
    · exact h.elim
  · exact h.elim
/-- a text's method with one text, by its function -/
def fS1 (g : Str → Str → V) : V → List V → Hp → VK → Prop := fun x vs H Q => match x, vs with
  | .str a, [.str b] => Q (g a b) H
  | _, _ => False
theorem mt_fS1 {id : String} {g : Str → Str → V} (h : MtR X id (fun x xs H Q => ∃ a b, x = .str a ∧ xs = [.str b] ∧ Q (g a b) H)) : MtR X id (fS1 g) := by
  intro pins s σ H x xs v us Q I rx rs q
  unfold fS1 at q
  split at q
  · exact h pins s σ H _ _ v us Q I rx rs ⟨_, _, rfl, rfl, q⟩
  · exact q.elim
theorem mt_fCount : MtR X "str.count" (fS1 fun a b => .int (Txt.count a b)) := mt_fS1 mt_count
theorem mt_fFind : MtR X "str.find" (fS1 fun a b => .int (Txt.find a b)) := mt_fS1 mt_find
theorem mt_fRfind : MtR X "str.rfind" (fS1 fun a b => .int (Txt.rfind a b)) := mt_fS1 mt_rfind
theorem mt_fStarts : MtR X "str.startswith" (fS1 fun a b => .bl (Txt.startswith a b)) := mt_fS1 mt_startswith
theorem mt_fEnds : MtR X "str.endswith" (fS1 fun a b => .bl (Txt.endswith a b)) := mt_fS1 mt_endswith

/-! ### statements, loops -/
theorem seq_ {t1 t2 : TS} {D : Ends} {σ : L2.St} {H : Hp} (h : ∀ N : L2.St → Hp → Prop, (∀ σ H, t2 D σ H → N σ H) → t1 { D with nx := N } σ H) : tSeq t1 t2 D σ H := h _ fun _ _ x => x
/-- what follows is a word of its own -/
theorem cut_ {t : TS} {D : Ends} {σ : L2.St} {H : Hp} (h : ∀ N : L2.St → Hp → Prop, (∀ σ H, D.nx σ H → N σ H) → t { D with nx := N } σ H) : t D σ H := h _ fun _ _ x => x
theorem ifs_ {c : TT} {t u : TS} {D : Ends} {σ : L2.St} {H : Hp} (h : c σ H fun b H1 => if b = true then t D σ H1 else u D σ H1) : tIfS c t u D σ H := h
/-- a loop that is at hand -/
def Loop (J : It) (g : TG) (tb : TS) (D : Ends) (σ : L2.St) (H : Hp) : Prop := ∃ W : Nat → Nat → L2.St → Hp → Prop, (∃ m, W 0 m σ H) ∧ ∀ i m σ H, W i m σ H →
  (J.stop i H ∧ D.nx σ H) ∨ (J.go i H ∧ ∃ N : L2.St → Hp → Prop, (∀ σ' H', N σ' H' → ∃ m', m' < m ∧ W (i + 1) m' σ' H') ∧ ∀ x H', J.yld i H x H' → g x σ H' fun σ2 H2 => tb { D with nx := N, ct := N, bk := D.nx } σ2 H2)
theorem for_eq (wi : TI) (g : TG) (tb : TS) (D : Ends) (σ : L2.St) (H : Hp) : tFor wi g tb D σ H = wi σ H fun J H1 => Loop J g tb D σ H1 := rfl
theorem for_ {wi : TI} {g : TG} {tb : TS} {D : Ends} {σ : L2.St} {H : Hp} (h : wi σ H fun J H1 => Loop J g tb D σ H1) : tFor wi g tb D σ H := h
theorem loop_range {lo : Int} {n : Nat} {g : TG} {tb : TS} {D : Ends} {σ : L2.St} {H : Hp} (Pv : Nat → L2.St → Hp → Prop) (h0 : Pv 0 σ H)
    (hs : ∀ i σ H, i < n → Pv i σ H → g (.int (lo + i)) σ H fun σ2 H2 => tb { D with nx := Pv (i + 1), ct := Pv (i + 1), bk := D.nx } σ2 H2) (hd : ∀ σ H, Pv n σ H → D.nx σ H) : Loop (Itr lo n) g tb D σ H := for_range Pv h0 hs hd
theorem loop_list {K : PySem.W.Frag} {a : Addr} {g : TG} {tb : TS} {D : Ends} {σ : L2.St} {H : Hp} (xs : List V) (Pv : Nat → L2.St → Hp → Prop) (h0 : Pv 0 σ H) (hl : ∀ i σ H, i ≤ xs.length → Pv i σ H → SqL K H a xs)
    (hs : ∀ i x σ H, xs[i]? = some x → Pv i σ H → g x σ H fun σ2 H2 => tb { D with nx := Pv (i + 1), ct := Pv (i + 1), bk := D.nx } σ2 H2) (hd : ∀ σ H, Pv xs.length σ H → D.nx σ H) : Loop (Itl K a) g tb D σ H := for_list Pv h0 hl hs hd
theorem loop_tup {K : PySem.W.Frag} {a : Addr} {g : TG} {tb : TS} {D : Ends} {σ : L2.St} {H : Hp} (xs : List V) (Pv : Nat → L2.St → Hp → Prop) (h0 : Pv 0 σ H) (hl : ∀ i σ H, i ≤ xs.length → Pv i σ H → SqT K H a xs)
    (hs : ∀ i x σ H, xs[i]? = some x → Pv i σ H → g x σ H fun σ2 H2 => tb { D with nx := Pv (i + 1), ct := Pv (i + 1), bk := D.nx } σ2 H2) (hd : ∀ σ H, Pv xs.length σ H → D.nx σ H) : Loop (Itt K a) g tb D σ H := for_tup Pv h0 hl hs hd
theorem loop_str {z : Str} {g : TG} {tb : TS} {D : Ends} {σ : L2.St} {H : Hp} (Pv : Nat → L2.St → Hp → Prop) (h0 : Pv 0 σ H)
    (hs : ∀ i c σ H, z.cps.toList[i]? = some c → Pv i σ H → g (.str ⟨#[c]⟩) σ H fun σ2 H2 => tb { D with nx := Pv (i + 1), ct := Pv (i + 1), bk := D.nx } σ2 H2) (hd : ∀ σ H, Pv z.length σ H → D.nx σ H) : Loop (Its z) g tb D σ H :=
  for_it walk_str Pv h0 (fun _ _ _ _ _ => trivial) (fun i x σ H H' hi p y => by
    obtain ⟨rfl, c, hc, rfl⟩ := y
    exact hs i c σ _ (by rw [Array.getElem?_toList]; exact hc) p) hd
end
end Fx

/-! ### defs by name -/
namespace Fx
open PySem PySem.Spec PyProof.Rows L2
/-- the def that stands at the module's name x keeps the promise sp -/
structure Has (P : Program) (w : World) (K : PySem.W.Frag) (mg : Str → Option Value) (base : Heap) (CX : CXT) (x : Str) (k : Nat) (ps : List Str) (sp : Sp) : Prop where
  ex : ∃ (f : Addr) (fd : FuncData), FnOk P w K mg base CX k f fd ps sp ∧ Binds K fd ps [] ∧ mg x = some (.ref f) ∧ PySem.W.keepIn K (.ref f) = true
/-- what the top has written of a def -/
structure FnFact (K : PySem.W.Frag) (x qual : Str) (st : Stmt) : Prop where
  ex : ∃ (f : Addr) (oc : Value) (od an : Option Addr) (sl : Array (Option Value)) (kV dc pm cd ct : Value),
    PySem.W.nsIn K mainGlobals x = some (some (.ref f)) ∧ K.lookup f = some ⟨oc, od, .func (PySem.W.fnOf x qual (defArgs st) (defBody st) (defScope st) .none kV dc pm an cd ct), sl⟩ ∧
    PySem.W.codeIn K cd qual = true ∧ PySem.W.keepIn K (.ref f) = true
theorem FnFact.of {K : PySem.W.Frag} {x qual : Str} {st : Stmt} {f : Addr} {oc : Value} {od an : Option Addr} {sl : Array (Option Value)} {kV dc pm cd ct : Value}
    (a : PySem.W.nsIn K mainGlobals x = some (some (.ref f))) (l : K.lookup f = some ⟨oc, od, .func (PySem.W.fnOf x qual (defArgs st) (defBody st) (defScope st) .none kV dc pm an cd ct), sl⟩)
    (c : PySem.W.codeIn K cd qual = true) (k : PySem.W.keepIn K (.ref f) = true) : FnFact K x qual st := ⟨f, oc, od, an, sl, kV, dc, pm, cd, ct, a, l, c, k⟩
/-- a def as it stands -/
structure At (K : PySem.W.Frag) (mg : Str → Option Value) (x qual : Str) (st : Stmt) (ps : List Str) : Prop where
  ex : ∃ (f : Addr) (fd : FuncData), Fun K x qual st f fd ∧ Binds K fd ps [] ∧ mg x = some (.ref f)
theorem At.of {K : PySem.W.Frag} {mg : Str → Option Value} {x qual : Str} {st : Stmt} {ps : List Str} {h : Heap} (X : K.In h) (G : h.Ns mainGlobals mg) (F : FnFact K x qual st)
    (hb : ∀ (kV doc pm : Value) (an : Option Addr) (cdv ct : Value) (us : List Value), us.length = ps.length → bindArgs (PySem.W.fnOf x qual (defArgs st) (defBody st) (defScope st) .none kV doc pm an cdv ct) ⟨us, []⟩ = pure (ps.zip us)) : At K mg x qual st ps := by
  obtain ⟨f, oc, od, an, sl, kV, dc, pm, cd, ct, a, l, c, k⟩ := F.ex
  have F1 := fun_mk (st := st) l c k
  exact ⟨_, _, F1, F1.binds hb, PySem.W.mg_of X G a⟩
section
variable {P : Program} {w : World} {K : PySem.W.Frag} {mg : Str → Option Value} {base : Heap}
theorem has_of {x qual : Str} {st : Stmt} {N ps : List Str} {k : Nat} {sp : Sp} (A : At K mg x qual st ps) (S : FnScope N ps (defScope st)) (len : ∀ vs H Q E, sp vs H Q E → vs.length = ps.length)
    (hbody : ∀ (cdv : Value) (f : Addr) (A : Around) (outer : List Env) (s : Shared) (H : Hp) (vs : List V) (Q : VK) (E : XK), Room k (A.deeper (envOfC qual (defScope st) s.heap.objs.size f cdv)) → sp vs H Q E →
      ∃ t, PSs (cxOf CX0 P w K mg base N qual (defScope st) f cdv A outer s H E).nox (defBody st) t ∧ t { nx := fun _ H' => Q .non H', rt := Q } (start N vs) H) : Has P w K mg base CX0 x (k + 1) ps sp := by
  obtain ⟨f, fd, F, B, G⟩ := A.ex
  exact ⟨f, fd, F.ok S len fun cdv A outer s H vs Q E hr h => hbody cdv f A outer s H vs Q E hr h, B, G, F.kp⟩
def spNone : Sp := fun _ _ _ _ => False
/-- a def of which nothing is promised -/
theorem At.never {x qual : Str} {st : Stmt} {ps : List Str} (A : At K mg x qual st ps) : Has P w K mg base CX0 x 0 ps spNone := by
  obtain ⟨f, fd, F, B, G⟩ := A.ex
  exact ⟨f, fd, ⟨fun _ _ _ _ h => h.elim, fun _ _ _ _ _ _ _ _ _ _ _ _ _ h => h.elim⟩, B, G, F.kp⟩
theorem Has.mono {CX : CXT} {x : Str} {j k : Nat} {ps : List Str} {sp : Sp} (h : Has P w K mg base CX x j ps sp) (hk : j ≤ k) : Has P w K mg base CX x k ps sp := by
  obtain ⟨f, fd, F, B, G, kp⟩ := h.ex
  exact ⟨f, fd, F.mono hk, B, G, kp⟩
end
section
variable {X : Cx} {CX : CXT} {k : Nat} {x : Str} {p pos : Pos} {e : Expr} {es : List Expr} {t : TA} {ps : List Str} {sp : Sp} {E : XK}
theorem fe_call (h : Has X.prog X.w X.K X.mg X.base CX x k ps sp) (hr : Room k X.A) (hg : Gl X x) (hx : Passes CX X E) (ha : PA X (e :: es) t) (hd : (x == ("__debug__" : Str)) = false := by decide)
    (hs : starEach (e :: es) X.env = (false, eval e X.env) :: starEach es X.env := by rfl) (hplain : (backTo pos (starEach es X.env)).any (·.1) = false := by rfl) : PE X (.Call (.Name x p) (e :: es) [] pos) (tCall sp [] E t) := by
  obtain ⟨f, fd, F, B, G, kp⟩ := h.ex
  exact pe_call F hr hg G kp B .nil hx ha hd hs hplain
theorem fe_call0 (h : Has X.prog X.w X.K X.mg X.base CX x k ps sp) (hr : Room k X.A) (hg : Gl X x) (hx : Passes CX X E) (hd : (x == ("__debug__" : Str)) = false := by decide) : PE X (.Call (.Name x p) [] [] pos) (tCall sp [] E tNil) := by
  obtain ⟨f, fd, F, B, G, kp⟩ := h.ex
  exact pe_call0 F hr hg G kp B .nil hx hd
end
end Fx

namespace Fx
open PySem PySem.Spec PyProof.Rows L2
section
variable {X : Cx}
/-- a built-in class as a value -/
theorem fe_ty {x : Str} {n : String} {pos : Pos} (hg : Gl X x) (hm : X.mg x = none) (hv : bootBuiltins x = some (.type n)) (hn : x ≠ "__name__" := by decide) (hd : (x == ("__debug__" : Str)) = false := by decide) : PE X (.Name x pos) (tC (.ty n)) := pe_bltn hg hm hv rfl hn hd
end
/-! ### texts as lists -/
def S (l : List Nat) : Str := ⟨l.toArray⟩
def L (z : Str) : List Nat := z.cps.toList
theorem S_L (z : Str) : S (L z) = z := by
  obtain ⟨⟨l⟩⟩ := z
  rfl
theorem L_S (l : List Nat) : L (S l) = l := rfl
theorem S_len (l : List Nat) : (S l).length = l.length := by simp [S, Str.length]
theorem L_len (z : Str) : (L z).length = z.length := by simp [L, Str.length]
theorem S_app (a b : List Nat) : S a ++ S b = S (a ++ b) := by
  show (⟨a.toArray ++ b.toArray⟩ : Str) = ⟨(a ++ b).toArray⟩
  simp
theorem S_cps (l : List Nat) : (S l).cps.toList = l := by simp [S]
theorem S_one (c : Nat) : (⟨#[c]⟩ : Str) = S [c] := rfl
theorem S_inj {a b : List Nat} (h : S a = S b) : a = b := by
  have := congrArg L h
  exact this
theorem cut_take (l : List Nat) {o : Int} (h0 : 0 ≤ o) (h1 : o ≤ l.length) : cutS (S l) none (some o) = S (l.take o.toNat) := by
  unfold cutS
  obtain ⟨k, rfl⟩ := Int.eq_ofNat_of_zero_le h0
  have e : HT.sIx (S l).length (S l).length (some (k : Int)) = min k (S l).length := HT.sIx_nat _ _ _
  rw [HT.sIx_none, e, S_len, S_cps]
  have : min k l.length = k := by omega
  rw [this]
  simp [S]
theorem cut_drop (l : List Nat) {o : Int} (h0 : 0 ≤ o) (h1 : o ≤ l.length) : cutS (S l) (some o) none = S (l.drop o.toNat) := by
  unfold cutS
  obtain ⟨k, rfl⟩ := Int.eq_ofNat_of_zero_le h0
  have e : HT.sIx (S l).length 0 (some (k : Int)) = min k (S l).length := HT.sIx_nat _ _ _
  rw [HT.sIx_none, e, S_len, S_cps]
  have : min k l.length = k := by omega
  rw [this]
  have : (l.drop k).take (l.length - k) = l.drop k := List.take_of_length_le (by rw [List.length_drop]; omega)
  simp [S, this]
theorem cut_mid (l : List Nat) {a b : Int} (h0 : 0 ≤ a) (h1 : a ≤ b) (h2 : b ≤ l.length) : cutS (S l) (some a) (some b) = S ((l.drop a.toNat).take (b.toNat - a.toNat)) := by
  unfold cutS
  obtain ⟨k, rfl⟩ := Int.eq_ofNat_of_zero_le h0
  obtain ⟨m, rfl⟩ := Int.eq_ofNat_of_zero_le (Int.le_trans h0 h1)
  have e1 : HT.sIx (S l).length 0 (some (k : Int)) = min k (S l).length := HT.sIx_nat _ _ _
  have e2 : HT.sIx (S l).length (S l).length (some (m : Int)) = min m (S l).length := HT.sIx_nat _ _ _
  rw [e1, e2, S_len, S_cps]
  have q1 : min k l.length = k := by omega
  have q2 : min m l.length = m := by omega
  rw [q1, q2]
  rfl
theorem len_line {n : Nat} (h : n ≤ 100000) : n ≤ sizeLine := Nat.le_trans h (by decide)
theorem len_line' {n : Nat} (h : n < 100000) : n < sizeLine := Nat.lt_of_lt_of_le h (by decide)
theorem small_div {i j : Int} (h : 0 < j) (h2 : j < 1073741824) : CDivW i j := wide_div (b := 30) h (by omega) (by decide) (by decide)
theorem mul_left {i j : Int} (h : -(2 ^ 64) < i) (h2 : i < 2 ^ 64) : IntMulOk i j := CMul.ok (.inl ⟨h, h2⟩)
theorem mul_right {i j : Int} (h : -(2 ^ 64) < j) (h2 : j < 2 ^ 64) : IntMulOk i j := CMul.ok (.inr ⟨h, h2⟩)
theorem same_mut {H H' : Hp} {p : Addr} {o : HO} (s : Same H H') (h : H p = none) : Same H (upd H' p o) := fun b x e => by
  rw [upd_ne (ne_of_none e h)]
  exact s b x e
theorem ex2 {α β : Type} {a : α} {b : β} {P : α → β → Prop} : (∃ i j, (a = i ∧ b = j) ∧ P i j) ↔ P a b := ⟨fun ⟨_, _, ⟨e1, e2⟩, h⟩ => e1 ▸ e2 ▸ h, fun h => ⟨a, b, ⟨rfl, rfl⟩, h⟩⟩
theorem at_ints {ns : List Int} {i : Int} (h0 : 0 ≤ i) (h1 : i < ns.length) : ∃ z, atI (ns.map V.int) i = some (.int z) := by
  obtain ⟨k, rfl⟩ := Int.eq_ofNat_of_zero_le h0
  have hk : k < ns.length := by omega
  exact ⟨ns[k], atI_nat (by rw [List.getElem?_map, List.getElem?_eq_getElem hk]; rfl)⟩
theorem at_strs {ns : List Str} {i : Int} (h0 : 0 ≤ i) (h1 : i < ns.length) : ∃ z, z ∈ ns ∧ atI (ns.map V.str) i = some (.str z) := by
  obtain ⟨k, rfl⟩ := Int.eq_ofNat_of_zero_le h0
  have hk : k < ns.length := by omega
  exact ⟨ns[k], List.getElem_mem hk, atI_nat (by rw [List.getElem?_map, List.getElem?_eq_getElem hk]; rfl)⟩
theorem getD_eq {α : Type} {ns : List α} {i : Nat} (d : α) (h : i < ns.length) : ns.getD i d = ns[i] := by
  simp [List.getD, List.getElem?_eq_getElem h]
theorem at_getD {ns : List Str} {i : Int} (d : Str) (h0 : 0 ≤ i) (h1 : i < ns.length) : atI (ns.map V.str) i = some (.str (ns.getD i.toNat d)) := by
  obtain ⟨k, rfl⟩ := Int.eq_ofNat_of_zero_le h0
  have hk : k < ns.length := by omega
  refine atI_nat ?_
  rw [List.getElem?_map, List.getElem?_eq_getElem hk, Int.toNat_natCast, getD_eq _ hk]
  rfl
theorem at_getN {ns : List Nat} {i : Int} (d : Nat) (h0 : 0 ≤ i) (h1 : i < ns.length) : atI ns i = some (ns.getD i.toNat d) := by
  obtain ⟨k, rfl⟩ := Int.eq_ofNat_of_zero_le h0
  have hk : k < ns.length := by omega
  refine atI_nat ?_
  rw [List.getElem?_eq_getElem hk, Int.toNat_natCast, getD_eq _ hk]
theorem getD_mem {α : Type} {ns : List α} {i : Nat} (d : α) (h : i < ns.length) : ns.getD i d ∈ ns := by
  rw [getD_eq _ h]
  exact List.getElem_mem h
theorem at_ints_mem {ns : List Int} {i : Int} (h0 : 0 ≤ i) (h1 : i < ns.length) : ∃ z, z ∈ ns ∧ atI (ns.map V.int) i = some (.int z) := by
  obtain ⟨k, rfl⟩ := Int.eq_ofNat_of_zero_le h0
  have hk : k < ns.length := by omega
  exact ⟨ns[k], List.getElem_mem hk, atI_nat (by rw [List.getElem?_map, List.getElem?_eq_getElem hk]; rfl)⟩
theorem emod_lo (r : Int) {m : Int} (h : 0 < m) : 0 ≤ r % m := Int.emod_nonneg _ (by omega)
theorem emod_hi (r : Int) {m : Int} (h : 0 < m) : r % m < m := Int.emod_lt_of_pos _ h
theorem at_vs {xs : List V} {i : Int} (h0 : 0 ≤ i) (h1 : i < xs.length) : ∃ z, z ∈ xs ∧ atI xs i = some z := by
  obtain ⟨k, rfl⟩ := Int.eq_ofNat_of_zero_le h0
  have hk : k < xs.length := by omega
  exact ⟨xs[k], List.getElem_mem hk, atI_nat (List.getElem?_eq_getElem hk)⟩
end Fx

/-! ### constants of the module, more of texts -/
namespace Fx
open PySem PySem.Spec PyProof.Rows L2
theorem one_list (c : Nat) : (⟨#[c]⟩ : Str).cps.toList = [c] := rfl
theorem absV_rel {u : Value} {x : V} (h : absV u = some x) : RelV x u := by
  cases u <;> first
    | (cases h; rfl)
    | (cases h; exact ⟨_, rfl⟩)
    | cases h
def absVs : List Value → Option (List V)
  | [] => some []
  | u :: us => match absV u, absVs us with
    | some x, some xs => some (x :: xs)
    | _, _ => none
theorem absVs_rel : ∀ {us : List Value} {xs : List V}, absVs us = some xs → Vals xs us
  | [], xs, h => by cases h; exact .nil
  | u :: us, xs, h => by
    unfold absVs at h
    split at h
    · rename_i x ys h1 h2
      cases h
      exact .cons (absV_rel h1) (absVs_rel h2)
    · cases h
/-- a tuple of the module -/
structure TupFact (K : PySem.W.Frag) (x : Str) (xs : List V) : Prop where
  ex : ∃ (a : Addr) (od : Option Addr) (its : Array Value) (n : Nat) (sl : Array (Option Value)), PySem.W.nsIn K mainGlobals x = some (some (.ref a)) ∧ K.lookup a = some ⟨.type "tuple", od, .seq its n, sl⟩ ∧ absVs its.toList = some xs ∧ its.size ≤ 1000
theorem TupFact.of {K : PySem.W.Frag} {x : Str} {xs : List V} {a : Addr} {od : Option Addr} {its : Array Value} {n : Nat} {sl : Array (Option Value)} (h1 : PySem.W.nsIn K mainGlobals x = some (some (.ref a))) (h2 : K.lookup a = some ⟨.type "tuple", od, .seq its n, sl⟩)
    (h3 : absVs its.toList = some xs) (h4 : its.size ≤ 1000) : TupFact K x xs := ⟨a, od, its, n, sl, h1, h2, h3, h4⟩
theorem gstr_of {K : PySem.W.Frag} {x z : Str} {t : Tok} (h : PySem.W.nsIn K mainGlobals x = some (some (.str z t))) : ∃ t, PySem.W.nsIn K mainGlobals x = some (some (.str z t)) := ⟨t, h⟩
theorem gint_of {K : PySem.W.Frag} {x : Str} {z : Int} {t : Tok} (h : PySem.W.nsIn K mainGlobals x = some (some (.int z t))) : ∃ t, PySem.W.nsIn K mainGlobals x = some (some (.int z t)) := ⟨t, h⟩
def GTup (K : PySem.W.Frag) (mg : Str → Option Value) (x : Str) (xs : List V) : Prop := ∃ a, mg x = some (.ref a) ∧ ∀ H, SqT K H a xs
theorem TupFact.get {K : PySem.W.Frag} {mg : Str → Option Value} {x : Str} {xs : List V} {h : Heap} (X : K.In h) (G : h.Ns mainGlobals mg) (F : TupFact K x xs) : GTup K mg x xs := by
  obtain ⟨a, od, its, n, sl, h1, h2, h3, h4⟩ := F.ex
  exact ⟨a, PySem.W.mg_of X G h1, fun H => .inr ⟨_, its, n, h2, rfl, rfl, Nat.le_trans h4 (by decide), absVs_rel h3⟩⟩
def fGt_ (K : PySem.W.Frag) (xs : List V) : TE := fun _ H Q => ∀ a, (∀ H', SqT K H' a xs) → Q (.ref a) H
section
variable {X : Cx} {x : Str} {pos : Pos}
theorem fe_gstr {z : Str} (hg : Gl X x) (h : ∃ t, X.mg x = some (.str z t)) (hd : (x == ("__debug__" : Str)) = false := by decide) : PE X (.Name x pos) (tC (.str z)) := by
  obtain ⟨t, h⟩ := h
  exact pe_glob hg h ⟨t, rfl⟩ hd
theorem fe_gint {z : Int} (hg : Gl X x) (h : ∃ t, X.mg x = some (.int z t)) (hd : (x == ("__debug__" : Str)) = false := by decide) : PE X (.Name x pos) (tC (.int z)) := by
  obtain ⟨t, h⟩ := h
  exact pe_glob hg h ⟨t, rfl⟩ hd
theorem fe_gtup {xs : List V} (hg : Gl X x) (h : GTup X.K X.mg x xs) (hd : (x == ("__debug__" : Str)) = false := by decide) : PE X (.Name x pos) (fGt_ X.K xs) := by
  obtain ⟨a, h, hs⟩ := h
  exact pe_wk (pe_glob hg h (v := .ref a) rfl hd) fun σ H Q q => q a hs
/-- ''.join(list or tuple of texts) -/
def fJoin (K : PySem.W.Frag) : V → List V → Hp → VK → Prop := fun x vs H Q => match x, vs with
  | .str a, [.ref p] => ∃ ys : List Str, Rl K H p (ys.map V.str) ∧ (ys.map (·.length)).sum + ys.length * a.length ≤ 16777216 ∧ Q (.str (Txt.join a ys)) H
  | _, _ => False
theorem mt_fJoin : MtR X "str.join" (fJoin X.K) := by
  intro pins s σ H x xs v us Q I rx rs q
  unfold fJoin at q
  split at q
  · obtain ⟨ys, h1, h2, h3⟩ := q
    exact mt_join pins s σ H _ _ v us Q I rx rs ⟨_, _, ys, rfl, rfl, h1, h2, h3⟩
  · exact q.elim
def fLstripC : V → List V → Hp → VK → Prop := fun x vs H Q => match x, vs with
  | .str a, [.str b] => a.length ≤ sizeLine ∧ Q (.str (Txt.lstripChars a b)) H
  | _, _ => False
theorem mt_fLstripC : MtR X "str.lstrip" fLstripC := by
  intro pins s σ H x xs v us Q I rx rs q
  unfold fLstripC at q
  split at q
  · exact mt_lstripChars pins s σ H _ _ v us Q I rx rs ⟨_, _, rfl, rfl, q⟩
  · exact q.elim
end
theorem join_ones : ∀ cs : List Nat, Txt.join (S []) (cs.map fun c => S [c]) = S cs := by
  intro cs
  show (⟨_⟩ : Str) = ⟨_⟩
  congr 1
  cases cs with
  | nil => rfl
  | cons c r =>
    have go : ∀ (r : List Nat) (acc : List Nat), ((r.map fun c => S [c]).foldl (fun (acc : Array Nat) (p : Str) => acc ++ (S []).cps ++ p.cps) acc.toArray) = (acc ++ r).toArray := by
      intro r
      induction r with
      | nil => intro acc; simp
      | cons d r ih =>
        intro acc
        rw [List.map_cons, List.foldl_cons]
        have e : acc.toArray ++ (S []).cps ++ (S [d]).cps = (acc ++ [d]).toArray := by simp [S]
        rw [e, ih, List.append_assoc]
        rfl
    have := go r [c]
    simpa [S] using this
theorem drop_tw (p : Nat → Bool) : ∀ l : List Nat, l.drop (l.takeWhile p).length = l.dropWhile p
  | [] => rfl
  | c :: r => by
    rw [List.takeWhile_cons, List.dropWhile_cons]
    by_cases h : p c = true
    · rw [if_pos h, if_pos h, List.length_cons, List.drop_succ_cons, drop_tw p r]
    · rw [if_neg h, if_neg h, List.length_nil, List.drop_zero]
theorem lstrip_zero (l : List Nat) (b : Nat) : Txt.lstripChars (S l) (S [b]) = S (l.dropWhile (· == b)) := by
  have hp : ((S [b]).cps.contains : Nat → Bool) = (· == b) := by
    funext c
    simp only [S, List.contains_toArray, List.contains_cons, List.contains_nil, Bool.or_false]
  unfold Txt.lstripChars
  rw [hp]
  have ht : (stripLo (· == b) true (S l)) = (l.takeWhile (· == b)).length := rfl
  unfold Txt.stripBy
  split
  · rename_i h
    unfold stripSame at h
    have h0 : stripLo (· == b) true (S l) = 0 := by
      have := (Bool.and_eq_true_iff.mp h).1
      exact eq_of_beq this
    rw [ht] at h0
    rw [← drop_tw, h0, List.drop_zero]
  · unfold stripped
    rw [ht]
    have e : stripHi (· == b) false (S l) (l.takeWhile (· == b)).length = (S l).length := rfl
    rw [e, ← drop_tw]
    have := StrLaws.strSub_toList (S l) (l.takeWhile (· == b)).length (S l).length
    rw [← S_L (Builtin.Str.strSub _ _ _)]
    congr 1
    show (Builtin.Str.strSub _ _ _).cps.toList = _
    rw [this, S_cps, S_len]
    exact List.take_of_length_le (by rw [List.length_drop]; exact Nat.le_refl _)
end Fx

set_option Elab.async false
set_option linter.all false
set_option maxRecDepth 100000
/-! Ox: objects of the program's own classes, over Fx. -/
namespace Fx
open PySem PySem.Spec PyProof.Rows L2
/-! ### weakening within -/
section
variable {X : Cx}
/-- whatever follows may be weaker -/
def clos (t : TE) : TE := fun σ H Q => ∃ Q0 : VK, t σ H Q0 ∧ ∀ v H1, Q0 v H1 → Q v H1
def closA (t : TA) : TA := fun σ H Q => ∃ Q0, t σ H Q0 ∧ ∀ v H1, Q0 v H1 → Q v H1
theorem pe_clos {e : Expr} {t : TE} (h : PE X e t) : PE X e (clos t) := ⟨fun pins s σ H Q I ⟨Q0, h0, w⟩ => wpAny_mono (h.run pins s σ H Q0 I h0) (fun u s' ⟨v, H', I', r, q⟩ => ⟨v, H', I', r, w v H' q⟩) fun _ _ x => x⟩
theorem pa_clos {es : List Expr} {t : TA} (h : PA X es t) : PA X es (closA t) := ⟨fun pos pins s σ H Q I ⟨Q0, h0, w⟩ => wpAny_mono (h.run pos pins s σ H Q0 I h0) (fun u s' ⟨v, H', I', r, q⟩ => ⟨v, H', I', r, w v H' q⟩) fun _ _ x => x⟩
end
/-! ### heaps but for some places -/
def Keep (ps : List Addr) (H H' : Hp) : Prop := ∀ a o, a ∉ ps → H a = some o → H' a = some o
theorem Keep.refl {ps : List Addr} {H : Hp} : Keep ps H H := fun _ _ _ h => h
theorem Keep.trans {ps : List Addr} {H H1 H2 : Hp} (h : Keep ps H H1) (k : Keep ps H1 H2) : Keep ps H H2 := fun a o n e => k a o n (h a o n e)
theorem Keep.of {ps : List Addr} {H H' : Hp} (s : Same H H') : Keep ps H H' := fun a o _ e => s a o e
theorem Keep.mono {ps qs : List Addr} {H H' : Hp} (h : Keep ps H H') (m : ∀ a ∈ ps, a ∈ qs) : Keep qs H H' := fun a o n e => h a o (fun z => n (m a z)) e
theorem Keep.same {H H' : Hp} (h : Keep [] H H') : Same H H' := fun a o e => h a o (by simp) e
theorem Keep.upd {ps : List Addr} {H H' : Hp} {p : Addr} {o : HO} (h : Keep ps H H') (m : p ∈ ps) : Keep ps H (L2.upd H' p o) := fun a x n e => by
  rw [upd_ne (fun q => n (by rw [q]; exact m))]
  exact h a x n e
theorem Keep.updN {ps : List Addr} {H H' : Hp} {p : Addr} {o : HO} (h : Keep ps H H') (m : H p = none) : Keep ps H (L2.upd H' p o) := fun a x n e => by
  rw [upd_ne (ne_of_none e m)]
  exact h a x n e
/-- what the caller does not know -/
theorem Keep.drop {p : Addr} {ps : List Addr} {H H' : Hp} (h : Keep (p :: ps) H H') (m : H p = none) : Keep ps H H' := fun a x n e => h a x (by
  intro q
  rcases List.mem_cons.mp q with rfl | q
  · rw [m] at e; cases e
  · exact n q) e
/-- the new object's heap, when only it has been changed since -/
theorem mk_same {H H0 : Hp} {y : Addr} {o : HO} (s : Same H H0) (n : H y = none) : Same H (L2.upd H0 y o) := same_mut s n
theorem mk_same2 {H H0 : Hp} {y : Addr} {o o' : HO} (s : Same H H0) (n : H y = none) : Same H (L2.upd (L2.upd H0 y o) y o') := same_mut (same_mut s n) n
theorem upd2 {H : Hp} {y : Addr} {o o' : HO} : L2.upd (L2.upd H y o) y o' = L2.upd H y o' := by
  funext a
  by_cases h : a = y
  · subst h; rw [upd_same, upd_same]
  · rw [upd_ne h, upd_ne h, upd_ne h]
theorem SqL.keep {K : PySem.W.Frag} {ps : List Addr} {H H' : Hp} {a : Addr} {xs : List V} (k : Keep ps H H') (n : a ∉ ps) (h : SqL K H a xs) : SqL K H' a xs :=
  h.elim (fun h => .inl (h.elim (fun h => .inl (k _ _ n h)) fun ⟨o, h⟩ => .inr ⟨o, k _ _ n h⟩)) fun h => .inr h
/-! ### fields -/
def fFld (cs : List Addr) (f : Str) (ta : TE) : TE := fun σ H Q => ta σ H fun x H1 => match x with
  | .ref a => match H1 a with
    | some (.ins C _ fs) => C ∈ cs ∧ match fs.lookup f with
      | some v => Q v H1
      | none => False
    | _ => False
  | _ => False
def fSetF (cs : List Addr) (f : Str) (ta tv : TE) : TS := fun D σ H => tv σ H fun y H1 => ta σ H1 fun x H2 => match x with
  | .ref a => match H2 a with
    | some (.ins C dx fs) => C ∈ cs ∧ fs.length < 1000 ∧ D.nx σ (upd H2 a (.ins C dx (putF f y fs)))
    | _ => False
  | _ => False
/-- the classes that know an attribute only by their instances -/
def Plain (K : PySem.W.Frag) (cs : List Addr) (f : Str) : Prop := ∀ C ∈ cs, Cls K C ∧ NoAttr K C f
section
variable {X : Cx} {o e value : Expr} {f : Str} {pos pos' : Pos} {ta tv : TE} {cs : List Addr}
theorem fe_fld (he : PE X e ta) (hc : Plain X.K cs f) (hb : attributeBase e f X.env (eval e X.env) = eval e X.env) : PE X (.Attribute e f pos) (fFld cs f ta) := by
  refine pe_wk (pe_fld (pe_clos he) hb) fun σ H Q q => ⟨_, q, fun x H1 q => ?_⟩
  split at q
  · split at q
    · obtain ⟨m, q⟩ := q
      split at q
      · exact ⟨_, _, _, _, _, rfl, by assumption, (hc _ m).1, (hc _ m).2, by assumption, q⟩
      · exact q.elim
    · exact q.elim
  · exact q.elim
theorem fs_fld (ha : PE X o ta) (hv : PE X value tv) (hc : Plain X.K cs f) (hs : swapsWith value (some (.Attribute o f pos')) pos.line X.env = pure false) : PS X (.Assign [.Attribute o f pos'] value pos) (fSetF cs f ta tv) := by
  refine ps_wk (ps_fld (pe_clos ha) (pe_clos hv) hs) fun D σ H q => ⟨_, q, fun y H1 q => ⟨_, q, fun x H2 q => ?_⟩⟩
  split at q
  · split at q
    · exact ⟨_, _, _, _, rfl, by assumption, (hc _ q.1).1, (hc _ q.1).2, q.2.1, q.2.2⟩
    · exact q.elim
  · exact q.elim
end
/-- {} -/
def fDnew : TE := fun _ H Q => ∀ p H2, H p = none → Same H H2 → H2 p = some (.dK []) → Q (.ref p) H2
theorem fe_dnew {X : Cx} {pos : Pos} : PE X (.Dict [] [] pos) fDnew := pe_wk pe_dnewK fun σ H Q q => fun p np => q p _ np (same_new np) upd_same
theorem rl_keep {K : PySem.W.Frag} {H H' : Hp} {a : Addr} {xs : List V} (s : Same H H') (h : Rl K H a xs) : Rl K H' a xs := h.elim (fun h => .inl (s.seq h)) fun h => .inr (SqT.ext h s)
/-! ### methods, making -/
/-- a method as it stands in its class -/
structure AtM (K : PySem.W.Frag) (C : Addr) (x qual : Str) (st : Stmt) (ps : List Str) : Prop where
  ex : ∃ (f : Addr) (fd : FuncData), Fun K x qual st f fd ∧ Binds K fd ps [] ∧ Meth K C x f
structure MFact (K : PySem.W.Frag) (C : Addr) (x qual : Str) (st : Stmt) : Prop where
  ex : ∃ (f : Addr) (oc : Value) (od an : Option Addr) (sl : Array (Option Value)) (kV dc pm cd ct : Value),
    PySem.W.findIn K (.ref C) x = some (some (.ref f)) ∧ K.lookup f = some ⟨oc, od, .func (PySem.W.fnOf x qual (defArgs st) (defBody st) (defScope st) .none kV dc pm an cd ct), sl⟩ ∧
    PySem.W.codeIn K cd qual = true ∧ PySem.W.keepIn K (.ref f) = true ∧ PySem.W.isFn K (.ref f) = true
theorem MFact.of {K : PySem.W.Frag} {C : Addr} {x qual : Str} {st : Stmt} {f : Addr} {oc : Value} {od an : Option Addr} {sl : Array (Option Value)} {kV dc pm cd ct : Value}
    (a : PySem.W.findIn K (.ref C) x = some (some (.ref f))) (l : K.lookup f = some ⟨oc, od, .func (PySem.W.fnOf x qual (defArgs st) (defBody st) (defScope st) .none kV dc pm an cd ct), sl⟩)
    (c : PySem.W.codeIn K cd qual = true) (k : PySem.W.keepIn K (.ref f) = true) (i : PySem.W.isFn K (.ref f) = true) : MFact K C x qual st := ⟨f, oc, od, an, sl, kV, dc, pm, cd, ct, a, l, c, k, i⟩
theorem AtM.of {K : PySem.W.Frag} {C : Addr} {x qual : Str} {st : Stmt} {ps : List Str} (F : MFact K C x qual st)
    (hb : ∀ (kV doc pm : Value) (an : Option Addr) (cdv ct : Value) (us : List Value), us.length = ps.length → bindArgs (PySem.W.fnOf x qual (defArgs st) (defBody st) (defScope st) .none kV doc pm an cdv ct) ⟨us, []⟩ = pure (ps.zip us)) : AtM K C x qual st ps := by
  obtain ⟨f, oc, od, an, sl, kV, dc, pm, cd, ct, a, l, c, k, i⟩ := F.ex
  have F1 := fun_mk (st := st) l c k
  exact ⟨_, _, F1, F1.binds hb, ⟨a, i, k⟩⟩
/-- a method that keeps a promise (of the object and the arguments) -/
structure HasM (P : Program) (w : World) (K : PySem.W.Frag) (mg : Str → Option Value) (base : Heap) (CX : CXT) (C : Addr) (x : Str) (k : Nat) (ps : List Str) (sp : Sp) : Prop where
  ex : ∃ (f : Addr) (fd : FuncData), FnOk P w K mg base CX k f fd ps sp ∧ Binds K fd ps [] ∧ Meth K C x f
/-- a class whose making keeps a promise (of the arguments) -/
structure HasC (P : Program) (w : World) (K : PySem.W.Frag) (mg : Str → Option Value) (base : Heap) (CX : CXT) (C : Addr) (x : Str) (k : Nat) (ps : List Str) (sp : Sp) : Prop where
  ex : ∃ (f : Addr) (fd : FuncData) (sp' : Sp), FnOk P w K mg base CX k f fd ps sp' ∧ Binds K fd ps [] ∧ Mk K C f ∧ mg x = some (.ref C) ∧
    ∀ vs H Q E, sp vs H Q E → ∀ y dx H0, H y = none → Same H H0 → H0 y = some (.ins C dx []) → sp' (.ref y :: vs) H0 (fun v H2 => v = .non ∧ Q (.ref y) H2) E
section
variable {P : Program} {w : World} {K : PySem.W.Frag} {mg : Str → Option Value} {base : Heap}
theorem hasM_of {C : Addr} {x qual : Str} {st : Stmt} {N ps : List Str} {k : Nat} {sp : Sp} (A : AtM K C x qual st ps) (S : FnScope N ps (defScope st)) (len : ∀ vs H Q E, sp vs H Q E → vs.length = ps.length)
    (hbody : ∀ (cdv : Value) (f : Addr) (A : Around) (outer : List Env) (s : Shared) (H : Hp) (vs : List V) (Q : VK) (E : XK), Room k (A.deeper (envOfC qual (defScope st) s.heap.objs.size f cdv)) → sp vs H Q E →
      ∃ t, PSs (cxOf CX0 P w K mg base N qual (defScope st) f cdv A outer s H E).nox (defBody st) t ∧ t { nx := fun _ H' => Q .non H', rt := Q } (start N vs) H) : HasM P w K mg base CX0 C x (k + 1) ps sp := by
  obtain ⟨f, fd, F, B, G⟩ := A.ex
  exact ⟨f, fd, F.ok S len fun cdv A outer s H vs Q E hr h => hbody cdv f A outer s H vs Q E hr h, B, G⟩
/-- what a class is for making -/
structure MkAt (K : PySem.W.Frag) (mg : Str → Option Value) (x : Str) (C : Addr) : Prop where
  makes : PySem.W.makesIn K C = true
  kp : PySem.W.keepIn K (.ref C) = true
  at_ : mg x = some (.ref C)
theorem hasC_of {C : Addr} {x qual : Str} {st : Stmt} {N ps : List Str} {k : Nat} {sp : Sp} (M : MkAt K mg x C) (A : AtM K C "__init__" qual st ps) (S : FnScope N ps (defScope st)) (len : ∀ vs H Q E, sp vs H Q E → vs.length + 1 = ps.length)
    (hbody : ∀ (cdv : Value) (f : Addr) (A : Around) (outer : List Env) (s : Shared) (H : Hp) (vs : List V) (Q : VK) (E : XK) (y dx : Addr) (H0 : Hp), Room k (A.deeper (envOfC qual (defScope st) s.heap.objs.size f cdv)) → sp vs H Q E → H y = none → Same H H0 → H0 y = some (.ins C dx []) →
      ∃ t, PSs (cxOf CX0 P w K mg base N qual (defScope st) f cdv A outer s H0 E).nox (defBody st) t ∧ t { nx := fun _ H' => Q (.ref y) H', rt := fun v H' => v = .non ∧ Q (.ref y) H' } (start N (.ref y :: vs)) H0) : HasC P w K mg base CX0 C x (k + 1) ps sp := by
  obtain ⟨f, fd, F, B, G⟩ := A.ex
  refine ⟨f, fd, fun ws H0 Q' E => ∃ y vs H Q dx, ws = .ref y :: vs ∧ sp vs H Q E ∧ H y = none ∧ Same H H0 ∧ H0 y = some (.ins C dx []) ∧ Q' = fun v H2 => v = .non ∧ Q (.ref y) H2, ?_, B, ⟨M.makes, G.at_, G.fn, M.kp⟩, M.at_, ?_⟩
  · refine F.ok S (fun ws H0 Q' E h => ?_) fun cdv A outer s H0 ws Q' E hr h => ?_
    · obtain ⟨y, vs, H, Q, dx, rfl, h, _⟩ := h
      exact len vs H Q E h
    · obtain ⟨y, vs, H, Q, dx, rfl, h, hy, hs, h0, rfl⟩ := h
      obtain ⟨t, h1, h2⟩ := hbody cdv f A outer s H vs Q E y dx H0 hr h hy hs h0
      refine ⟨t, h1, ?_⟩
      have e : (fun (_ : L2.St) (H' : Hp) => (fun v H2 => v = V.non ∧ Q (.ref y) H2) V.non H') = fun _ H' => Q (.ref y) H' := by
        funext _ H'
        exact propext ⟨fun h => h.2, fun h => ⟨rfl, h⟩⟩
      rw [e]
      exact h2
  · intro vs H Q E h y dx H0 hy hs h0
    exact ⟨y, vs, H, Q, dx, rfl, h, hy, hs, h0, rfl⟩
end
section
variable {X : Cx} {CX : CXT} {k : Nat} {C : Addr} {x m : Str} {p pos apos : Pos} {o e : Expr} {es : List Expr} {t : TA} {ta : TE} {ps : List Str} {sp : Sp} {E : XK}
theorem fe_make (h : HasC X.prog X.w X.K X.mg X.base CX C x k ps sp) (hr : Room (k + 1) X.A) (hg : Gl X x) (hx : Passes CX X E) (ha : PA X (e :: es) t) (hd : (x == ("__debug__" : Str)) = false := by decide)
    (hs : starEach (e :: es) X.env = (false, eval e X.env) :: starEach es X.env := by rfl) (hplain : (backTo pos (starEach es X.env)).any (·.1) = false := by rfl) : PE X (.Call (.Name x p) (e :: es) [] pos) (tCall sp [] E t) := by
  obtain ⟨f, fd, sp', F, B, M, G, h⟩ := h.ex
  refine pe_wk (pe_make M F hr hg G B .nil hx (pa_clos ha) hd hs hplain) fun σ H Q q => ⟨_, q, fun vs H1 q y dx n1 n2 n3 => ?_⟩
  rw [List.append_nil] at q ⊢
  refine h vs H1 Q E q y dx _ n1 (fun b z ez => ?_) upd_same
  rw [upd_ne (ne_of_none ez n1), upd_ne (ne_of_none ez n2)]
  exact ez
theorem fe_make0 (h : HasC X.prog X.w X.K X.mg X.base CX C x k ps sp) (hr : Room (k + 1) X.A) (hg : Gl X x) (hx : Passes CX X E) (hd : (x == ("__debug__" : Str)) = false := by decide) : PE X (.Call (.Name x p) [] [] pos) (tCall sp [] E tNil) := by
  obtain ⟨f, fd, sp', F, B, M, G, h⟩ := h.ex
  refine pe_wk (pe_make0 M F hr hg G B .nil hx hd) fun σ H Q q => ?_
  show tNil σ H _
  intro y dx n1 n2 n3
  refine h [] H Q E q y dx _ n1 (fun b z ez => ?_) upd_same
  rw [upd_ne (ne_of_none ez n1), upd_ne (ne_of_none ez n2)]
  exact ez
/-- an instance of the class, without an attribute of the name -/
def isOb (C : Addr) (m : Str) : V → Hp → Prop := fun x H => match x with
  | .ref a => match H a with
    | some (.ins D _ fs) => D = C ∧ fs.lookup m = none
    | _ => False
  | _ => False
def fMeth (C : Addr) (m : Str) (sp : Sp) (E : XK) (ta : TE) (t : TA) : TE := fun σ H Q => ta σ H fun x H1 => isOb C m x H1 ∧ t σ H1 fun vs H2 => sp (x :: vs) H2 Q E
theorem fMeth_to {σ : L2.St} {H : Hp} {Q : VK} (q : fMeth C m sp E ta t σ H Q) : tMeth C m sp [] E (clos ta) t σ H Q := by
  refine ⟨_, q, fun x H1 ⟨q1, q2⟩ => ?_⟩
  unfold isOb at q1
  split at q1
  · split at q1
    · obtain ⟨rfl, q1⟩ := q1
      refine ⟨_, _, _, rfl, by assumption, q1, ?_⟩
      simp only [List.append_nil]
      exact q2
    · exact q1.elim
  · exact q1.elim
theorem fe_meth {pl : Sem Bool} (h : HasM X.prog X.w X.K X.mg X.base CX C m k ps sp) (c : Cls X.K C) (hr : Room k X.A) (hx : Passes CX X E) (he : PE X o ta) (ha : PA X (e :: es) t)
    (hst : starEach (e :: es) X.env = (false, eval e X.env) :: starEach es X.env := by rfl) (hpl : (backTo pos (starEach es X.env)).any (·.1) = false := by rfl)
    (ht : eval (.Call (.Attribute o m apos) (e :: es) [] pos) X.env = (do
      let ov ← eval o X.env
      standAt apos.atName
      let (f, first) ← holding [ov] (getMethod ov m pl)
      callWith pos f first (backTo pos (starEach (e :: es) X.env)) (backToKw pos (keywordEach [] X.env))) := by rfl) :
    PE X (.Call (.Attribute o m apos) (e :: es) [] pos) (fMeth C m sp E ta t) := by
  obtain ⟨f, fd, F, B, M⟩ := h.ex
  exact pe_wk (pe_meth (pe_clos he) c M F hr B .nil hx ha hst hpl ht) fun σ H Q q => fMeth_to q
theorem fe_meth0 {pl : Sem Bool} (h : HasM X.prog X.w X.K X.mg X.base CX C m k ps sp) (c : Cls X.K C) (hr : Room k X.A) (hx : Passes CX X E) (he : PE X o ta)
    (ht : eval (.Call (.Attribute o m apos) [] [] pos) X.env = (do
      let ov ← eval o X.env
      standAt apos.atName
      let (f, first) ← holding [ov] (getMethod ov m pl)
      callWith pos f first (backTo pos (starEach [] X.env)) (backToKw pos (keywordEach [] X.env))) := by rfl) :
    PE X (.Call (.Attribute o m apos) [] [] pos) (fMeth C m sp E ta tNil) := by
  obtain ⟨f, fd, F, B, M⟩ := h.ex
  exact pe_wk (pe_meth0 (pe_clos he) c M F hr B .nil hx ht) fun σ H Q q => fMeth_to q
end
/-! ### isinstance of own classes -/
/-- what isinstance asks of a class of the program -/
structure OCls (K : PySem.W.Frag) (C : Addr) : Prop where
  cl : Cls K C
  ci : PySem.W.findIn K (.ref C) "__class__" = some (some (.builtin "object.__class__"))
  gd : PySem.W.specialIn K (.builtin "object.__class__") "__get__" = some (some (.builtin "getset_descriptor.__get__"))
  tk : PySem.W.takesIn K (.builtin "object.__class__") = some true
  mr : PySem.W.mroIn K C (.type "object") = some true
/-- the answers of isinstance for instances of cs and plain values, at the classes ds -/
structure Kit (K : PySem.W.Frag) (cs ds : List Addr) : Prop where
  ow : ∀ C ∈ cs, OCls K C
  oo : ∀ C ∈ cs, ∀ D ∈ ds, PySem.W.kitOne K (.ref C) (.ref D) = some (decide (C = D))
  bo : ∀ n ∈ ["NoneType", "bool", "int", "str", "list", "tuple", "dict"], ∀ D ∈ ds, PySem.W.kitOne K (.type n) (.ref D) = some false
  ob : ∀ C ∈ cs, ∀ n ∈ ["bool", "int", "str", "list", "tuple", "dict"], PySem.W.kitOne K (.ref C) (.type n) = some false
/-- a value's class -/
def tyV2 (H : Hp) : V → Option Value
  | .ref a => match H a with
    | some (.ins C _ _) => some (.ref C)
    | some (.lst _) => some (.type "list")
    | some (.tup _) => some (.type "tuple")
    | some (.dK _) => some (.type "dict")
    | some (.dT _) => some (.type "dict")
    | _ => none
  | .non => some (.type "NoneType")
  | .bl _ => some (.type "bool")
  | .int _ => some (.type "int")
  | .str _ => some (.type "str")
  | _ => none
def okT (cs : List Addr) : Value → Prop
  | .ref C => C ∈ cs
  | _ => True
def kit2 (D : Addr) : Value → Bool
  | .ref C => decide (C = D)
  | _ => false
theorem ty2_kit {K : PySem.W.Frag} {cs ds : List Addr} (k : Kit K cs ds) {H : Hp} {x : V} {t : Value} (h : tyV2 H x = some t) (ok : okT cs t) : TyX K H x t ∧ ∀ D ∈ ds, PySem.W.kitOne K t (.ref D) = some (kit2 D t) := by
  unfold tyV2 at h
  split at h <;> first
    | (cases h; exact ⟨.base .non, fun D hD => k.bo "NoneType" (by decide) D hD⟩)
    | (cases h; exact ⟨.base (.bl _), fun D hD => k.bo "bool" (by decide) D hD⟩)
    | (cases h; exact ⟨.base (.int _), fun D hD => k.bo "int" (by decide) D hD⟩)
    | (cases h; exact ⟨.base (.str _), fun D hD => k.bo "str" (by decide) D hD⟩)
    | (split at h <;> first
        | (cases h; exact ⟨.base (.lst (by assumption)), fun D hD => k.bo "list" (by decide) D hD⟩)
        | (cases h; exact ⟨.base (.tup (by assumption)), fun D hD => k.bo "tuple" (by decide) D hD⟩)
        | (cases h; exact ⟨.base (.dK (by assumption)), fun D hD => k.bo "dict" (by decide) D hD⟩)
        | (cases h; exact ⟨.base (.dT (by assumption)), fun D hD => k.bo "dict" (by decide) D hD⟩)
        | (cases h
           have O := k.ow _ ok
           exact ⟨.base (.ins (by assumption) O.cl O.ci O.gd O.tk O.mr), fun D hD => k.oo _ ok D hD⟩)
        | cases h)
    | cases h
/-- isinstance(x, C), C an own class -/
def fIsiO (cs ds : List Addr) : List V → Hp → VK → Prop := fun xs H Q => match xs with
  | [x, .ref D] => ∃ t, tyV2 H x = some t ∧ okT cs t ∧ D ∈ ds ∧ Q (.bl (kit2 D t)) H
  | _ => False
theorem call_fIsiO {X : Cx} {cs ds : List Addr} (k : Kit X.K cs ds) : CallR X (.builtin "isinstance") (fIsiO cs ds) := by
  intro pins s σ H xs us Q I r h
  match xs, r, h with
  | [x, .ref D], r, h =>
    obtain ⟨t, h1, h2, h3, h4⟩ := h
    obtain ⟨g1, g2⟩ := ty2_kit k h1 h2
    exact call_isi pins s σ H _ us Q I r ⟨x, .ref D, _, _, _, rfl, .own D, g1, g2 D h3, h4⟩
/-- isinstance(x, (C, D, ..)), own classes, the tuple just made -/
def kits2 (t : Value) : List V → Bool
  | .ref D :: r => kit2 D t || kits2 t r
  | _ => false
def allIn (ds : List Addr) : List V → Prop
  | [] => True
  | .ref D :: r => D ∈ ds ∧ allIn ds r
  | _ :: _ => False
theorem kits2_any {K : PySem.W.Frag} {ds : List Addr} {t : Value} (k : ∀ D ∈ ds, PySem.W.kitOne K t (.ref D) = some (kit2 D t)) : ∀ {vs : List V}, allIn ds vs → ∃ us, Paired ClsV vs us ∧ PySem.W.kitAny K t us = some (kits2 t vs)
  | [], _ => ⟨[], .nil, kitAny_nil⟩
  | v :: r, ha => by
    cases v <;> first
      | exact ha.elim
      | (rename_i D
         obtain ⟨us, p, q⟩ := kits2_any k ha.2
         refine ⟨_, .cons (.own D) p, kitAny_cons (k D ha.1) (fun hb => ?_) (fun hb => ?_)⟩
         · rw [q, kits2, hb]; rfl
         · rw [kits2, hb]; rfl)
def fIsiP (cs ds : List Addr) : List V → Hp → VK → Prop := fun xs H Q => match xs with
  | [x, .ref p] => match H p with
    | some (.tup vs) => ∃ t, tyV2 H x = some t ∧ okT cs t ∧ allIn ds vs ∧ Q (.bl (kits2 t vs)) H
    | _ => False
  | _ => False
theorem call_fIsiP {X : Cx} {cs ds : List Addr} (k : Kit X.K cs ds) : CallR X (.builtin "isinstance") (fIsiP cs ds) := by
  intro pins s σ H xs us Q I r h
  match xs, r, h with
  | [x, .ref p], r, h =>
    dsimp only [fIsiP] at h
    split at h
    · obtain ⟨t, h1, h2, h3, h4⟩ := h
      obtain ⟨g1, g2⟩ := ty2_kit k h1 h2
      obtain ⟨ws, g3, g4⟩ := kits2_any g2 h3
      exact call_isiT pins s σ H _ us Q I r ⟨x, p, _, _, ws, _, rfl, by assumption, g3, g1, g4, h4⟩
    · exact h.elim
/-- isinstance(x, T), T a built-in class, x an instance too -/
def fIsiA (cs : List Addr) : List V → Hp → VK → Prop := fun xs H Q => match xs with
  | [x, .ty n] => ∃ t, tyV2 H x = some t ∧ match t with
    | .ref C => C ∈ cs ∧ n ∈ ["bool", "int", "str", "list", "tuple", "dict"] ∧ Q (.bl false) H
    | .type s => ∃ b, kitB s n = some b ∧ Q (.bl b) H
    | _ => False
  | _ => False
theorem call_fIsiA {X : Cx} {cs ds : List Addr} (k : Kit X.K cs ds) : CallR X (.builtin "isinstance") (fIsiA cs) := by
  intro pins s σ H xs us Q I r h
  match xs, r, h with
  | [x, .ty n], r, h =>
    obtain ⟨t, h1, h2⟩ := h
    match t, h1, h2 with
    | .ref C, h1, h2 =>
      obtain ⟨g1, _⟩ := ty2_kit k h1 (show okT cs (.ref C) from h2.1)
      exact call_isi pins s σ H _ us Q I r ⟨x, .ty n, _, _, _, rfl, .ty n, g1, k.ob C h2.1 n h2.2.1, h2.2.2⟩
    | .type s', h1, h2 =>
      obtain ⟨b, h3, h4⟩ := h2
      obtain ⟨g1, _⟩ := ty2_kit k h1 (show okT cs (.type s') from trivial)
      exact call_isi pins s σ H _ us Q I r ⟨x, .ty n, _, _, _, rfl, .ty n, g1, kit_ty h3, h4⟩
/-- x is True, x is False; x is not .. -/
def fIsB (neg : Bool) : R2 := fun x y H Q => match y with
  | .bl b => (match x with | .non => Q (.bl neg) H | .bl c => Q (.bl (if neg = true then !decide (c = b) else decide (c = b))) H | .int _ => Q (.bl neg) H | .str _ => Q (.bl neg) H | .ref _ => Q (.bl neg) H | _ => False)
  | _ => False
theorem same_bool {M : Model} {A : Around} {E : Value → Shared → Prop} {s : Shared} {x : V} {u : Value} {b : Bool} {R : Bool → Shared → Prop} (r : RelV x u)
    (h : match x with | .non => R false s | .bl c => R (decide (c = b)) s | .int _ => R false s | .str _ => R false s | .ref _ => R false s | _ => False) : wpAny M A (isSame u (.bool b)) R E s := by
  cases x <;> first
    | exact h.elim
    | (cases r
       refine wpAny_isSame_plain rfl ?_
       exact h)
    | (obtain ⟨t, rfl⟩ := r
       refine wpAny_isSame_plain rfl ?_
       exact h)
    | (cases r
       rename_i c
       refine wpAny_isSame_plain rfl ?_
       have e : (Value.bool c == Value.bool b) = decide (c = b) := by cases c <;> cases b <;> rfl
       rw [e]
       exact h)
theorem op_fIsB {X : Cx} : OpR X (compareOp .Is) (fIsB false) := by
  intro pins s σ H x y v u Q I rx ry h
  cases y <;> first
    | exact False.elim h
    | (cases ry
       show wpAny _ _ ((isSame v (Value.bool _)) >>= fun z => pure (Value.bool z)) _ _ s
       refine wpAny_bind (same_bool rx ?_)
       cases x <;> first
         | exact False.elim h
         | exact wpAny_pure (fin_bl I h rfl))
theorem op_fNotB {X : Cx} : OpR X (compareOp .IsNot) (fIsB true) := by
  intro pins s σ H x y v u Q I rx ry h
  cases y <;> first
    | exact False.elim h
    | (cases ry
       show wpAny _ _ ((isSame v (Value.bool _)) >>= fun z => pure (Value.bool (!z))) _ _ s
       refine wpAny_bind (same_bool rx ?_)
       cases x <;> first
         | exact False.elim h
         | exact wpAny_pure (fin_bl I h rfl))
/-- one of two ways -/
def fOr (r1 r2 : R2) : R2 := fun x y H Q => r1 x y H Q ∨ r2 x y H Q
theorem op_fOr {X : Cx} {f : Value → Value → Sem Value} {r1 r2 : R2} (h1 : OpR X f r1) (h2 : OpR X f r2) : OpR X f (fOr r1 r2) := fun pins s σ H x y v u Q I rx ry q => q.elim (h1 pins s σ H x y v u Q I rx ry) (h2 pins s σ H x y v u Q I rx ry)
theorem all_nil {α : Type} {P : α → Prop} : ∀ x ∈ ([] : List α), P x := fun _ h => by cases h
theorem all_cons {α : Type} {P : α → Prop} {a : α} {l : List α} (h : P a) (t : ∀ x ∈ l, P x) : ∀ x ∈ a :: l, P x := fun x m => by
  rcases List.mem_cons.mp m with rfl | m
  · exact h
  · exact t x m
/-! ### == by an own __eq__ -/
def fEqO (C : Addr) (sp : Sp) (E : XK) : R2 := fun x y H Q => match x, y with
  | .ref a, .ref b => (match H a with | some (.ins D _ _) => D = C | _ => False) ∧ (match H b with | some (.ins D _ _) => D = C | _ => False) ∧ sp [x, y] H (fun v H' => match v with | .bl _ => Q v H' | _ => False) E
  | _, _ => False
theorem op_fEqO {X : Cx} {CX : CXT} {C : Addr} {n : Nat} {ps : List Str} {sp : Sp} {E : XK} (h : HasM X.prog X.w X.K X.mg X.base CX C "__eq__" n ps sp) (hr : Room n X.A) (hx : Passes CX X E) : OpR X (compareOp .Eq) (fEqO C sp E) := by
  intro pins s σ H x y v u Q I rx ry q
  obtain ⟨f, fd, F, B, M⟩ := h.ex
  cases x <;> cases y <;> first
    | exact False.elim q
    | skip
  rename_i a b
  dsimp only [fEqO] at q
  obtain ⟨qa, qb, q⟩ := q
  split at qa
  · rename_i D1 dx1 fs1 ea
    split at qb
    · rename_i D2 dx2 fs2 eb
      subst qa
      subst qb
      cases rx
      cases ry
      obtain ⟨mA, J, _⟩ := ins_get I.hok ea
      obtain ⟨mB, J', _⟩ := ins_get I.hok eb
      obtain ⟨od, J, _⟩ := J.look
      obtain ⟨od', J', _⟩ := J'.look
      obtain ⟨m, hF⟩ := I.fr
      show wpAny (model X.prog X.w) X.A (richCompare .Eq (.ref a) (.ref b)) (EP X pins σ Q) X.xe s
      refine PySem.W.cmp_K (op := .Eq) (tb := .ref D2) hr.units0 hF I.ok.mod.kin J J'.type (by simp [PySem.W.notFirst]) M.at_ M.fn ?_
      refine wpAny_mono (run_fn (vs := [.ref a, .ref b]) F hr B .nil hx I (.cons rfl (.cons rfl .nil)) q) (fun w s' z => ?_) fun _ _ x => x
      obtain ⟨y, H', I', r, z⟩ := z
      cases y <;> first
        | exact z.elim
        | (cases r; exact ⟨.bl _, H', I', rfl, z⟩)
    · exact qb.elim
  · exact qa.elim
/-! ### what the top has written of a class -/
structure ClsFact (K : PySem.W.Frag) (C : Addr) : Prop where
  pg : PySem.W.plainGet K C Str.empty = true
  hd : PySem.W.hasDictIn K C = true
  po : PySem.W.plainOver K C = true
  sa : PySem.W.findIn K (.ref C) "__setattr__" = some (some (.builtin "object.__setattr__"))
  ci : PySem.W.findIn K (.ref C) "__class__" = some (some (.builtin "object.__class__"))
  mr : PySem.W.mroIn K C (.type "object") = some true
  mks : PySem.W.makesIn K C = true
  kp : PySem.W.keepIn K (.ref C) = true
theorem ClsFact.cls {K : PySem.W.Frag} {C : Addr} (x : ClsFact K C) : Cls K C := ⟨x.pg, x.hd, x.po, x.sa⟩
/-- what every class has of object -/
structure ObjFact (K : PySem.W.Frag) : Prop where
  gd : PySem.W.specialIn K (.builtin "object.__class__") "__get__" = some (some (.builtin "getset_descriptor.__get__"))
  tk : PySem.W.takesIn K (.builtin "object.__class__") = some true
theorem ClsFact.ocls {K : PySem.W.Frag} {C : Addr} (x : ClsFact K C) (o : ObjFact K) : OCls K C := ⟨x.cls, x.ci, o.gd, o.tk, x.mr⟩
/-! ### comprehensions -/
def Lc (J : It) (g : TG) (tt : TT) (te : TE) (vs : List Nat) (σ : L2.St) (H1 : Hp) (D : Addr) (Q : VK) : Prop := ∃ W : Nat → Nat → Hp → Prop, (∃ m, W 0 m (upd H1 D (.lst []))) ∧ ∀ i m H, W i m H →
  (J.stop i H ∧ Q (.ref D) H) ∨ (J.go i H ∧ ∃ Nx : Hp → Prop, (∀ H', Nx H' → ∃ m', m' < m ∧ W (i + 1) m' H') ∧ ∀ x H', J.yld i H x H' → g x (wipe σ vs) H' fun σ2 H2 => wipe σ2 vs = wipe σ vs ∧ tt σ2 H2 fun b H3 =>
    if b = true then te σ2 H3 fun y H4 => ∃ acc, H4 D = some (.lst acc) ∧ acc.length < sizeLine ∧ Nx (upd H4 D (.lst (acc ++ [y]))) else Nx H3)
theorem lc_ {wi : TI} {g : TG} {tt : TT} {te : TE} {vs : List Nat} {σ : L2.St} {H : Hp} {Q : VK} (h : wi σ H fun J H1 => ∀ D, H1 D = none → Lc J g tt te vs σ H1 D Q) : tLc wi g tt te vs σ H Q := h
theorem lcx_range {lo : Int} {n : Nat} {g : TG} {tt : TT} {te : TE} {vs : List Nat} {σ : L2.St} {H1 : Hp} {D : Addr} {Q : VK} (Pv : Nat → Hp → Prop) (h0 : Pv 0 (upd H1 D (.lst [])))
    (hs : ∀ i H, i < n → Pv i H → g (.int (lo + i)) (wipe σ vs) H fun σ2 H2 => wipe σ2 vs = wipe σ vs ∧ tt σ2 H2 fun b H3 =>
      if b = true then te σ2 H3 fun y H4 => ∃ acc, H4 D = some (.lst acc) ∧ acc.length < sizeLine ∧ Pv (i + 1) (upd H4 D (.lst (acc ++ [y]))) else Pv (i + 1) H3) (hd : ∀ H, Pv n H → Q (.ref D) H) : Lc (Itr lo n) g tt te vs σ H1 D Q :=
  lc_it walk_range Pv h0 (fun _ _ _ _ => trivial) (fun i x H H' hi p y => by
    obtain ⟨rfl, rfl⟩ := y
    exact hs i _ hi p) hd
theorem lcx_list {K : PySem.W.Frag} {a : Addr} {xs : List V} {g : TG} {tt : TT} {te : TE} {vs : List Nat} {σ : L2.St} {H1 : Hp} {D : Addr} {Q : VK} (Pv : Nat → Hp → Prop) (h0 : Pv 0 (upd H1 D (.lst []))) (hl : ∀ i H, i ≤ xs.length → Pv i H → SqL K H a xs)
    (hs : ∀ i x H, xs[i]? = some x → Pv i H → g x (wipe σ vs) H fun σ2 H2 => wipe σ2 vs = wipe σ vs ∧ tt σ2 H2 fun b H3 =>
      if b = true then te σ2 H3 fun y H4 => ∃ acc, H4 D = some (.lst acc) ∧ acc.length < sizeLine ∧ Pv (i + 1) (upd H4 D (.lst (acc ++ [y]))) else Pv (i + 1) H3) (hd : ∀ H, Pv xs.length H → Q (.ref D) H) : Lc (Itl K a) g tt te vs σ H1 D Q :=
  lc_it walk_list Pv h0 hl (fun i x H H' hi p y => by
    obtain ⟨rfl, e⟩ := y
    exact hs i x _ e p) hd
end Fx

set_option Elab.async false
set_option linter.all false
set_option maxRecDepth 100000
/-! Ex: exceptions of the program's own classes, over Ox. -/
namespace Fx
open PySem PySem.Spec PyProof.Rows L2
/-! ### defs that may raise -/
/-- what leaves a def, as its promise says -/
abbrev wOf (E : XK) : WX := fun cls d _ H => E cls d H
section
variable {P : Program} {w : World} {K : PySem.W.Frag} {mg : Str → Option Value} {base : Heap}
theorem tk_of {N : List Str} {qual : Str} {sc : Scope} {f : Addr} {cd : Value} {A : Around} {outer : List Env} {s : Shared} {H : Hp} {E : XK} : Takes (cxOf (L2.CX P w) P w K mg base N qual sc f cd A outer s H E) (wOf E) := takes_of rfl rfl rfl rfl
theorem hasX_of {x qual : Str} {st : Stmt} {N ps : List Str} {k : Nat} {sp : Sp} (A : At K mg x qual st ps) (S : FnScope N ps (defScope st)) (len : ∀ vs H Q E, sp vs H Q E → vs.length = ps.length)
    (hbody : ∀ (cdv : Value) (f : Addr) (A : Around) (outer : List Env) (s : Shared) (H : Hp) (vs : List V) (Q : VK) (E : XK), Room k (A.deeper (envOfC qual (defScope st) s.heap.objs.size f cdv)) → sp vs H Q E →
      ∃ t, PSs (cxOf (L2.CX P w) P w K mg base N qual (defScope st) f cdv A outer s H E) (defBody st) t ∧ t { nx := fun _ H' => Q .non H', rt := Q } (start N vs) H) : Has P w K mg base (L2.CX P w) x (k + 1) ps sp := by
  obtain ⟨f, fd, F, B, G⟩ := A.ex
  exact ⟨f, fd, F.okX S len fun cdv A outer s H vs Q E hr h => hbody cdv f A outer s H vs Q E hr h, B, G, F.kp⟩
theorem hasMX_of {C : Addr} {x qual : Str} {st : Stmt} {N ps : List Str} {k : Nat} {sp : Sp} (A : AtM K C x qual st ps) (S : FnScope N ps (defScope st)) (len : ∀ vs H Q E, sp vs H Q E → vs.length = ps.length)
    (hbody : ∀ (cdv : Value) (f : Addr) (A : Around) (outer : List Env) (s : Shared) (H : Hp) (vs : List V) (Q : VK) (E : XK), Room k (A.deeper (envOfC qual (defScope st) s.heap.objs.size f cdv)) → sp vs H Q E →
      ∃ t, PSs (cxOf (L2.CX P w) P w K mg base N qual (defScope st) f cdv A outer s H E) (defBody st) t ∧ t { nx := fun _ H' => Q .non H', rt := Q } (start N vs) H) : HasM P w K mg base (L2.CX P w) C x (k + 1) ps sp := by
  obtain ⟨f, fd, F, B, G⟩ := A.ex
  exact ⟨f, fd, F.okX S len fun cdv A outer s H vs Q E hr h => hbody cdv f A outer s H vs Q E hr h, B, G⟩
end
section
variable {X : Cx} {CX : CXT} {k : Nat} {C : Addr} {x m : Str} {p pos apos : Pos} {o e : Expr} {es : List Expr} {t : TA} {ta : TE} {ps : List Str} {sp : Sp} {W : WX}
theorem fe_callX (h : Has X.prog X.w X.K X.mg X.base (L2.CX X.prog X.w) x k ps sp) (hr : Room k X.A) (hg : Gl X x) (tk : Takes X W) (ha : PA X (e :: es) t) (hd : (x == ("__debug__" : Str)) = false := by decide)
    (hs : starEach (e :: es) X.env = (false, eval e X.env) :: starEach es X.env := by rfl) (hplain : (backTo pos (starEach es X.env)).any (·.1) = false := by rfl) : PE X (.Call (.Name x p) (e :: es) [] pos) (tCallS sp (WE W) t) := by
  obtain ⟨f, fd, F, B, G, kp⟩ := h.ex
  exact pe_callS F hr hg G kp B (fun σ => passAt tk σ) ha hd hs hplain
theorem fe_callX0 (h : Has X.prog X.w X.K X.mg X.base (L2.CX X.prog X.w) x k ps sp) (hr : Room k X.A) (hg : Gl X x) (tk : Takes X W) (hd : (x == ("__debug__" : Str)) = false := by decide) : PE X (.Call (.Name x p) [] [] pos) (tCallS sp (WE W) tNil) := by
  obtain ⟨f, fd, F, B, G, kp⟩ := h.ex
  refine ⟨fun pins s σ H Q I h => ?_⟩
  refine wpAny_Call_Name_kw (ld_glob I hg G ?_ hd)
  exact PySem.W.callWith_K0 I.kIn kp (run_fnS (us := []) F hr B (passAt tk σ) I .nil h)
theorem isOb_some {a : Addr} {H : Hp} (h : isOb C m (.ref a) H) : ∃ dx fs, H a = some (.ins C dx fs) ∧ fs.lookup m = none := by
  unfold isOb at h
  dsimp only at h
  split at h
  · obtain ⟨rfl, l⟩ := h
    exact ⟨_, _, by assumption, l⟩
  · exact h.elim
def fMethS (C : Addr) (m : Str) (sp : Sp) (E : L2.St → XK) (ta : TE) (t : TA) : TE := fun σ H Q => ta σ H fun x H1 => isOb C m x H1 ∧ t σ H1 fun vs H2 => sp (x :: vs) H2 Q (E σ)
theorem fe_methX {pl : Sem Bool} (h : HasM X.prog X.w X.K X.mg X.base (L2.CX X.prog X.w) C m k ps sp) (c : Cls X.K C) (hr : Room k X.A) (tk : Takes X W) (he : PE X o ta) (ha : PA X (e :: es) t)
    (hst : starEach (e :: es) X.env = (false, eval e X.env) :: starEach es X.env := by rfl) (hpl : (backTo pos (starEach es X.env)).any (·.1) = false := by rfl)
    (ht : eval (.Call (.Attribute o m apos) (e :: es) [] pos) X.env = (do
      let ov ← eval o X.env
      standAt apos.atName
      let (f, first) ← holding [ov] (getMethod ov m pl)
      callWith pos f first (backTo pos (starEach (e :: es) X.env)) (backToKw pos (keywordEach [] X.env))) := by rfl) :
    PE X (.Call (.Attribute o m apos) (e :: es) [] pos) (fMethS C m sp (WE W) ta t) := by
  obtain ⟨f, fd, F, B, M⟩ := h.ex
  refine ⟨fun pins s σ H Q I h => ?_⟩
  refine PySem.W.methodCall_KW (pl := pl) (thn (he.run pins s σ H _ I h) fun u s1 ⟨x, H1, I1, rx, q1, q2⟩ => ?_) ht
  match x, q1, rx, q2 with
  | .ref a, q1, rx, q2 =>
    obtain ⟨dx, fs, ea, l⟩ := isOb_some q1
    · obtain rfl : u = Value.ref a := rx
      refine getmeth_ok I1 ea c M l ?_
      refine PySem.W.callWith_K (first := [.ref a]) (h₀ := X.base) I.ok.mod.kin M.kp (thn (ha.run pos pins s1 σ H1 _ I1 q2) fun us s2 ⟨vs, H2, I2, r, q3⟩ => ⟨I2.kIn, ?_⟩) hst hpl
      exact run_fnS (us := .ref a :: us) (vs := .ref a :: vs) F hr B (passAt tk σ) I2 (.cons rfl r) q3
theorem fe_methX0 {pl : Sem Bool} (h : HasM X.prog X.w X.K X.mg X.base (L2.CX X.prog X.w) C m k ps sp) (c : Cls X.K C) (hr : Room k X.A) (tk : Takes X W) (he : PE X o ta)
    (ht : eval (.Call (.Attribute o m apos) [] [] pos) X.env = (do
      let ov ← eval o X.env
      standAt apos.atName
      let (f, first) ← holding [ov] (getMethod ov m pl)
      callWith pos f first (backTo pos (starEach [] X.env)) (backToKw pos (keywordEach [] X.env))) := by rfl) :
    PE X (.Call (.Attribute o m apos) [] [] pos) (fMethS C m sp (WE W) ta tNil) := by
  obtain ⟨f, fd, F, B, M⟩ := h.ex
  refine ⟨fun pins s σ H Q I h => ?_⟩
  refine PySem.W.methodCall_KW (pl := pl) (thn (he.run pins s σ H _ I h) fun u s1 ⟨x, H1, I1, rx, q1, q2⟩ => ?_) ht
  match x, q1, rx, q2 with
  | .ref a, q1, rx, q2 =>
    obtain ⟨dx, fs, ea, l⟩ := isOb_some q1
    · obtain rfl : u = Value.ref a := rx
      refine getmeth_ok I1 ea c M l ?_
      exact PySem.W.callWith_K0 (first := [.ref a]) I1.kIn M.kp (run_fnS (us := [.ref a]) (vs := [.ref a]) F hr B (passAt tk σ) I1 (.cons rfl .nil) q2)
end
/-! ### exception classes -/
structure ExcFact (K : PySem.W.Frag) (C : Addr) : Prop where
  cls : ∃ nm q N bs bm sn sub ab col dd k0 k1 k2 k3 k5, K.lookup C = some (excClassObj nm q C N bs bm true sn sub ab col dd k0 k1 k2 k3 k5 "ValueError.__new__") ∧ PySem.HandSPX.refsVE bm = true
  sa : PySem.W.findIn K (.ref C) "__setattr__" = some (some (.builtin "object.__setattr__"))
  ga : PySem.W.findIn K (.ref C) "__getattribute__" = some (some (.builtin "BaseException.__getattribute__"))
  gg : PySem.W.findIn K (.ref C) "__getattr__" = some none
  exC : PySem.W.subIn K (.ref C) (.type "BaseException") = some true
  tyC : PySem.W.typeIn K (.ref C) = some (.type "type")
  kC : PySem.W.keepIn K (.ref C) = true
  hdC : PySem.W.hasDictIn K C = true
  ci : PySem.W.findIn K (.ref C) "__class__" = some (some (.builtin "object.__class__"))
  mr : PySem.W.mroIn K C (.type "object") = some true
theorem ExcFact.of {K : PySem.W.Frag} {C : Addr} {nm q N bs bm sn sub ab col dd k0 k1 k2 k3 k5} (l : K.lookup C = some (excClassObj nm q C N bs bm true sn sub ab col dd k0 k1 k2 k3 k5 "ValueError.__new__")) (r : PySem.HandSPX.refsVE bm = true)
    (sa : PySem.W.findIn K (.ref C) "__setattr__" = some (some (.builtin "object.__setattr__"))) (ga : PySem.W.findIn K (.ref C) "__getattribute__" = some (some (.builtin "BaseException.__getattribute__"))) (gg : PySem.W.findIn K (.ref C) "__getattr__" = some none)
    (exC : PySem.W.subIn K (.ref C) (.type "BaseException") = some true) (tyC : PySem.W.typeIn K (.ref C) = some (.type "type")) (kC : PySem.W.keepIn K (.ref C) = true) (hdC : PySem.W.hasDictIn K C = true)
    (ci : PySem.W.findIn K (.ref C) "__class__" = some (some (.builtin "object.__class__"))) (mr : PySem.W.mroIn K C (.type "object") = some true) : ExcFact K C :=
  ⟨⟨nm, q, N, bs, bm, sn, sub, ab, col, dd, k0, k1, k2, k3, k5, l, r⟩, sa, ga, gg, exC, tyC, kC, hdC, ci, mr⟩
theorem ExcFact.oex {K : PySem.W.Frag} {C : Addr} (F : ExcFact K C) : OexC K C := ⟨F.cls, F.sa, F.exC, F.tyC, F.kC⟩
theorem ExcFact.xf {K : PySem.W.Frag} {C : Addr} (F : ExcFact K C) : XfC K C := ⟨F.ga, F.gg, F.exC, F.hdC⟩
/-- __init__ of an exception class as it stands -/
structure AtE (K : PySem.W.Frag) (C : Addr) (qual : Str) (st : Stmt) (ps : List Str) : Prop where
  ex : ∃ (f : Addr) (fd : FuncData), Fun K "__init__" qual st f fd ∧ Binds K fd ps [] ∧ PySem.W.findIn K (.ref C) "__init__" = some (some (.ref f)) ∧ PySem.W.typeIn K (.ref f) = some (.type "function")
structure EFact (K : PySem.W.Frag) (C : Addr) (qual : Str) (st : Stmt) : Prop where
  ex : ∃ (f : Addr) (oc : Value) (od an : Option Addr) (sl : Array (Option Value)) (kV dc pm cd ct : Value),
    PySem.W.findIn K (.ref C) "__init__" = some (some (.ref f)) ∧ K.lookup f = some ⟨oc, od, .func (PySem.W.fnOf "__init__" qual (defArgs st) (defBody st) (defScope st) .none kV dc pm an cd ct), sl⟩ ∧
    PySem.W.codeIn K cd qual = true ∧ PySem.W.keepIn K (.ref f) = true ∧ PySem.W.typeIn K (.ref f) = some (.type "function")
theorem EFact.of {K : PySem.W.Frag} {C : Addr} {qual : Str} {st : Stmt} {f : Addr} {oc : Value} {od an : Option Addr} {sl : Array (Option Value)} {kV dc pm cd ct : Value}
    (a : PySem.W.findIn K (.ref C) "__init__" = some (some (.ref f))) (l : K.lookup f = some ⟨oc, od, .func (PySem.W.fnOf "__init__" qual (defArgs st) (defBody st) (defScope st) .none kV dc pm an cd ct), sl⟩)
    (c : PySem.W.codeIn K cd qual = true) (k : PySem.W.keepIn K (.ref f) = true) (i : PySem.W.typeIn K (.ref f) = some (.type "function")) : EFact K C qual st := ⟨f, oc, od, an, sl, kV, dc, pm, cd, ct, a, l, c, k, i⟩
theorem AtE.of {K : PySem.W.Frag} {C : Addr} {qual : Str} {st : Stmt} {ps : List Str} (F : EFact K C qual st)
    (hb : ∀ (kV doc pm : Value) (an : Option Addr) (cdv ct : Value) (us : List Value), us.length = ps.length → bindArgs (PySem.W.fnOf "__init__" qual (defArgs st) (defBody st) (defScope st) .none kV doc pm an cdv ct) ⟨us, []⟩ = pure (ps.zip us)) : AtE K C qual st ps := by
  obtain ⟨f, oc, od, an, sl, kV, dc, pm, cd, ct, a, l, c, k, i⟩ := F.ex
  have F1 := fun_mk (st := st) l c k
  exact ⟨_, _, F1, F1.binds hb, a, i⟩
/-- what __init__ keeps: two fields -/
def spInitE (C : Addr) (n : Nat) (flds : List V → List (Str × V)) : Sp := fun ws H0 Q _ => ∃ a vs H1, ws = .ref a :: vs ∧ vs.length = n ∧ H1 a = none ∧ H0 = upd H1 a (exo a C none) ∧
  ∀ d H2, H1 d = none → d ≠ a → (∀ b o, H1 b = some o → H2 b = some o) → H2 a = some (exo a C (some d)) → H2 d = some (exd d (flds vs)) → Q .non H2
/-- an exception class whose __init__ keeps its fields -/
structure HasE (P : Program) (w : World) (K : PySem.W.Frag) (mg : Str → Option Value) (base : Heap) (C : Addr) (x : Str) (n : Nat) (flds : List V → List (Str × V)) : Prop where
  ex : ∃ (f : Addr) (fd : FuncData) (ps : List Str), FnOk P w K mg base CX0 1 f fd ps (spInitE C n flds) ∧ Binds K fd ps [] ∧ PySem.W.findIn K (.ref C) "__init__" = some (some (.ref f)) ∧ PySem.W.typeIn K (.ref f) = some (.type "function") ∧ mg x = some (.ref C) ∧ OexC K C
def two (f1 f2 : Str) : List V → List (Str × V)
  | [a, b] => [(f2, b), (f1, a)]
  | _ => []
theorem hasE2 {P : Program} {w : World} {K : PySem.W.Frag} {mg : Str → Option Value} {base : Heap} {C : Addr} {x qual f1 f2 : Str} {st : Stmt} {q1 q2 q3 q4 r1 r2 r3 r4 : Pos} (A : AtE K C qual st ["self", f1, f2]) (S : FnScope ["self", f1, f2] ["self", f1, f2] (defScope st))
    (hb : defBody st = [.Assign [.Attribute (.Name "self" q1) f1 q2] (.Name f1 q3) q4, .Assign [.Attribute (.Name "self" r1) f2 r2] (.Name f2 r3) r4])
    (F : ExcFact K C) (n1 : PySem.W.findIn K (.ref C) f1 = some none) (n2 : PySem.W.findIn K (.ref C) f2 = some none) (g : mg x = some (.ref C)) (d1 : (f1 == ("__debug__" : Str)) = false) (d2 : (f2 == ("__debug__" : Str)) = false)
    (c1 : (f1 == ("__classdict__" : Str)) = false) (c2 : (f2 == ("__classdict__" : Str)) = false) : HasE P w K mg base C x 2 (two f1 f2) := by
  obtain ⟨f, fd, Fn, B, I, Ty⟩ := A.ex
  refine ⟨f, fd, _, ?_, B, I, Ty, g, F.oex⟩
  refine Fn.ok S (fun ws H Q E h => ?_) (fun cdv A outer s H ws Q E hr h => ?_)
  · obtain ⟨a, vs, H1, rfl, hl, _⟩ := h
    show vs.length + 1 = 3
    rw [hl]
  · obtain ⟨a, vs, H1, rfl, hl, na, rfl, k⟩ := h
    match vs, hl, k with
    | [v1, v2], hl, k =>
      have v0 : Vis (defScope st) "self" := (S.par "self" (List.Mem.head _)).elim (fun z => .inl z) (fun z => .inr (.inl z))
      have vis1 : Vis (defScope st) f1 := (S.par f1 (List.Mem.tail _ (List.Mem.head _))).elim (fun z => .inl z) (fun z => .inr (.inl z))
      have vis2 : Vis (defScope st) f2 := (S.par f2 (List.Mem.tail _ (List.Mem.tail _ (List.Mem.head _)))).elim (fun z => .inl z) (fun z => .inr (.inl z))
      rw [hb]
      refine ⟨_, pss_cons (ps_ost (fe_var 0 rfl v0) (fe_var 1 rfl vis1 d1 c1)) (pss_one (ps_ost (fe_var 0 rfl v0) (fe_var 2 rfl vis2 d2 c2))), ?_⟩
      refine ⟨a, C, rfl, F.oex, n1, .inl ⟨upd_same, fun dx ndx nea => ?_⟩⟩
      have hdx : H1 dx = none := by rw [upd_ne nea] at ndx; exact ndx
      refine ⟨a, C, rfl, F.oex, n2, .inr ⟨dx, [(f1, v1)], upd_same, (upd_ne nea).trans upd_same, (show 1 ≤ 900 by decide), ?_⟩⟩
      refine k dx _ hdx nea (fun b o e => ?_) ?_ upd_same
      · rw [upd_ne (ne_of_none e hdx), upd_ne (ne_of_none e na), upd_ne (ne_of_none e hdx), upd_ne (ne_of_none e na)]
        exact e
      · rw [upd_ne (Ne.symm nea)]
        exact upd_same
/-- C(e, ..) -/
def fMkE (C : Addr) (n : Nat) (flds : List V → List (Str × V)) (ta : TA) : L2.St → Hp → XK → Prop := fun σ H Q => ta σ H fun vs H1 => vs.length = n ∧ ∀ d H2, H1 d = none → Same H1 H2 → H2 d = some (.xd (flds vs)) → Q (.ref C) (some d) H2
section
variable {X : Cx} {C : Addr} {x : Str} {n : Nat} {flds : List V → List (Str × V)} {p pos : Pos} {e : Expr} {es : List Expr} {ta : TA}
def closAX (t : TA) : TA := closA t
theorem fmk_e (h : HasE X.prog X.w X.K X.mg X.base C x n flds) (hn : n ≤ 1000) (hr : Room 2 X.A) (hg : Gl X x) (ha : PA X (e :: es) ta) (hdb : (x == ("__debug__" : Str)) = false := by decide)
    (he : starEach (e :: es) X.env = (false, eval e X.env) :: starEach es X.env := by rfl) (hpl : (backTo pos (starEach es X.env)).any (·.1) = false := by rfl) : PMk X (.Call (.Name x p) (e :: es) [] pos) (fMkE C n flds ta) := by
  obtain ⟨f, fd, ps, F, B, I, Ty, g, O⟩ := h.ex
  intro pins s σ H Q Iv q
  refine pmk_oex O I Ty F hr B .nil (fun _ _ _ _ _ _ _ h => h.elim) hg g (pa_clos ha) hdb he hpl pins s σ H Q Iv ⟨_, q, fun vs H1 q => ?_⟩
  obtain ⟨hl, q⟩ := q
  refine ⟨by omega, fun a na => ⟨a, vs, H1, by rw [List.append_nil], hl, na, rfl, fun d H2 nd ne keep ea ed => ⟨rfl, d, flds vs, ea, ed, nd, q d _ nd (fun b o eb => ?_) upd_same⟩⟩⟩
  rw [upd_ne (ne_of_none eb nd), del_ne (ne_of_none eb na)]
  exact keep b o eb
/-- raise C(e, ..) -/
def fRaise (C : Addr) (n : Nat) (flds : List V → List (Str × V)) (W : WX) (ta : TA) : TS := fun _ σ H => ta σ H fun vs H1 => vs.length = n ∧ ∀ d H2, H1 d = none → Same H1 H2 → H2 d = some (.xd (flds vs)) → W (.ref C) (some d) σ H2
theorem fs_raise {W : WX} {pos2 : Pos} (hc : X.calm = true) (tk : Takes X W) (h : HasE X.prog X.w X.K X.mg X.base C x n flds) (hn : n ≤ 1000) (hr : Room 2 X.A) (hg : Gl X x) (ha : PA X (e :: es) ta) (hdb : (x == ("__debug__" : Str)) = false := by decide)
    (he : starEach (e :: es) X.env = (false, eval e X.env) :: starEach es X.env := by rfl) (hpl : (backTo pos (starEach es X.env)).any (·.1) = false := by rfl) : PS X (.Raise (some (.Call (.Name x p) (e :: es) [] pos)) none pos2) (fRaise C n flds W ta) :=
  ps_raise hc tk (fmk_e h hn hr hg ha hdb he hpl)
end
/-- the way out of a def: an exception of class C with two fields -/
def Out (C : Addr) (H : Hp) (fs : List (Str × V)) (E : XK) : Prop := ∀ d H2, H d = none → Same H H2 → H2 d = some (.xd fs) → E (.ref C) (some d) H2
theorem Out.same {C : Addr} {H H1 : Hp} {fs : List (Str × V)} {E : XK} (h : Out C H fs E) (s : Same H H1) : Out C H1 fs E := fun d H2 nd s2 e => h d H2 (by
  cases q : H d with
  | none => rfl
  | some o => rw [s _ _ q] at nd; cases nd) (s.trans s2) e
/-! ### the suite -/
/-- e.f, e the caught one -/
def fXf (a : Addr) (cls : Value) (d : Option Addr) (cs : List Addr) (f : Str) (te : TE) : TE := fun σ H Q => te σ H fun x H1 => x = .ref a ∧ match cls, d with
  | .ref C, some dd => C ∈ cs ∧ match H1 dd with
    | some (.xd fs) => match fs.lookup f with
      | some v => Q v H1
      | none => False
    | _ => False
  | _, _ => False
def XPlain (K : PySem.W.Frag) (cs : List Addr) (f : Str) : Prop := ∀ C ∈ cs, XfC K C ∧ PySem.W.findIn K (.ref C) f = some none
theorem fe_xf {X : Cx} {a : Addr} {cs : List Addr} {oe : Obj} {cls : Value} {d : Option Addr} {pn : List (Addr × Obj)} {e : Expr} {te : TE} {pos : Pos} {n : Str} (T : XPlain X.K cs n)
    (hz : Zc cls d oe) (hf : ∃ vs, oe.data = .fields vs) (he : PE (X.suite a ((a, oe) :: pn)) e te) (hb : attributeBase e n X.env (eval e X.env) = eval e X.env) :
    PE (X.suite a ((a, oe) :: pn)) (.Attribute e n pos) (fXf a cls d cs n te) := by
  refine ⟨fun pins s σ H Q I h => ?_⟩
  refine attr_of hb (thn (he.run pins s σ H _ I h) fun u s1 hh => ?_)
  obtain ⟨x, H1, I1, rx, ex, q⟩ := hh
  subst ex
  obtain rfl : u = Value.ref a := rx
  split at q
  · rename_i C dd
    obtain ⟨m, q⟩ := q
    split at q
    · rename_i fs ea
      split at q
      · rename_i v l
        obtain ⟨ha, _⟩ := I1.pin (a, oe) (List.mem_append_left _ List.mem_cons_self)
        obtain ⟨vs, hd⟩ := hf
        have hx : ObjOk X.prog X.w H1 s1.heap dd (.xd fs) := I1.hok dd _ ea
        obtain ⟨mA, hns, hr⟩ := hx
        obtain ⟨od, ho, hl⟩ := lookIn_ns hns
        obtain ⟨u, hu, ru⟩ := RelO.some_of (v := v) (o := mA n) (by rw [← l]; exact hr n)
        have J : PySem.W.InstAt s1.heap a oe C (some od) := ⟨ha, hz.1, by unfold PySem.W.notCls; rw [hd] <;> rfl, by rw [hz.2]; exact ho⟩
        exact HandSPX.exc_get I1.kIn J (T C m).1.ga (T C m).1.gg (T C m).1.exC (PySem.W.findObj_own (T C m).1.hdC (T C m).2 rfl (by rw [hl, hu])) (handed_of ru) ⟨v, H1, I1.tok _, ru, q⟩
      · exact q.elim
    · exact q.elim
  · exact q.elim
/-- isinstance(e, C), e the caught one -/
structure XKit (K : PySem.W.Frag) (cs ds : List Addr) : Prop where
  f : ∀ C ∈ cs, ExcFact K C
  ob : ObjFact K
  k : ∀ C ∈ cs, ∀ D ∈ ds, ∃ b, PySem.W.kitOne K (.ref C) (.ref D) = some b
def fIsE (K : PySem.W.Frag) (a : Addr) (cls : Value) (d : Option Addr) (cs : List Addr) : List V → Hp → VK → Prop := fun xs H Q => match xs with
  | [x, .ref D] => x = .ref a ∧ (match cls with | .ref C => C ∈ cs | _ => False) ∧ (match d with | none => True | some dd => match H dd with | some (.xd _) => True | _ => False) ∧ ∃ b, PySem.W.kitOne K cls (.ref D) = some b ∧ Q (.bl b) H
  | _ => False
theorem call_fIsE {X : Cx} {a : Addr} {cls : Value} {d : Option Addr} {cs : List Addr} {oe : Obj} {pn : List (Addr × Obj)} (F : ∀ C ∈ cs, ExcFact X.K C) (ob : ObjFact X.K) (hz : Zc cls d oe) (hf : ∃ vs, oe.data = .fields vs) :
    CallR (X.suite a ((a, oe) :: pn)) (.builtin "isinstance") (fIsE X.K a cls d cs) := by
  intro pins s σ H xs us Q I r h
  match xs, r, h with
  | [x, .ref D], r, h =>
    obtain ⟨rfl, hc, hd, b, e, q⟩ := h
    match cls, hc, hz, e with
    | .ref C, hc, hz, e =>
      cases r with
      | cons rx rr =>
        cases rr with
        | cons rt rr =>
          cases rr
          cases rx
          cases rt
          obtain ⟨hget, _⟩ := I.pin (a, oe) (List.mem_append.mpr (.inl List.mem_cons_self))
          obtain ⟨vs, hv⟩ := hf
          have FC := F C hc
          have hcl : (PySem.W.clsIn X.K C).isSome = true := by
            obtain ⟨cd, hcd, _⟩ := PySem.W.any_some FC.hdC
            rw [hcd]; rfl
          have hJ : ∃ od, PySem.W.InstAt s.heap a oe C od := by
            cases d with
            | none =>
              refine ⟨none, hget, hz.1, ?_, ?_⟩
              · unfold PySem.W.notCls; rw [hv] <;> rfl
              · rw [hz.2]; trivial
            | some dd =>
              dsimp only at hd
              split at hd
              · rename_i fs ea
                have hx : ObjOk X.prog X.w H s.heap dd (.xd fs) := I.hok dd _ ea
                obtain ⟨mA, hns, hr⟩ := hx
                obtain ⟨od, ho, hl⟩ := lookIn_ns hns
                exact ⟨some od, hget, hz.1, by unfold PySem.W.notCls; rw [hv] <;> rfl, by rw [hz.2]; exact ho⟩
              · exact hd.elim
          obtain ⟨od, J⟩ := hJ
          exact PySem.W.kia_one (PySem.W.kitx_exc hcl FC.ga FC.gg FC.exC FC.ci ob.gd ob.tk FC.mr) I.kIn J e (fun z => nomatch z) fun tk => ⟨.bl b, H, I.kept (t' := tk) fun _ _ z => z, rfl, q⟩
/-! ### parts that are never reached -/
section
variable {X : Cx}
def fDead : TE := fun _ _ _ => False
def sDead : TS := fun _ _ _ => False
theorem pe_dead {e : Expr} : PE X e fDead := ⟨fun _ _ _ _ _ _ h => h.elim⟩
theorem ps_dead {st : Stmt} : PS X st sDead := ⟨fun _ _ _ _ _ _ h => h.elim⟩
/-! ### truth by value -/
def fTru (K : PySem.W.Frag) (ta : TE) : TT := fun σ H Q => ta σ H fun x H1 => match x with
  | .non => Q false H1
  | .bl b => Q b H1
  | .int i => Q (!decide (i = 0)) H1
  | .str z => z.length ≤ sizeLine ∧ Q (!decide (z.length = 0)) H1
  | .ref p => ∃ xs, Rl K H1 p xs ∧ Q (!xs.isEmpty) H1
  | _ => False
theorem pt_fTru {a : Expr} {ta : TE} (ha : PE X a ta) (he : ∀ whole, isTrue a X.env whole = (do let v ← whole; standAt a.pos; holding [v] (truthy v))) : PT X a (fTru X.K ta) := by
  refine pt_wk (pt_truth (pe_clos ha) he) fun σ H Q q => ⟨_, q, fun x H1 q => ?_⟩
  split at q
  · exact ⟨_, rfl, q⟩
  · exact ⟨_, rfl, q⟩
  · refine ⟨_, rfl, ?_⟩
    rename_i i
    have e : (i != 0) = !decide (i = 0) := by by_cases h : i = 0 <;> simp [h]
    rw [e]; exact q
  · refine ⟨_, ⟨q.1, rfl⟩, ?_⟩
    rename_i z
    have e : ((z.length : Int) != 0) = !decide (z.length = 0) := by by_cases h : z.length = 0 <;> simp [h]
    rw [e]; exact q.2
  · obtain ⟨xs, r, q⟩ := q
    rcases r with r | r
    · exact ⟨_, .inl ⟨xs, r, rfl⟩, q⟩
    · exact ⟨_, .inr (.inl ⟨xs, r, rfl⟩), q⟩
  · exact q.elim
/-! ### f-strings -/
def fFmt (te : TE) : TE := fun σ H Q => te σ H fun x H1 => match x with
  | .str y => y.length ≤ sizeLine ∧ Q (.str y) H1
  | .int i => i.natAbs.log2 < 1920 ∧ Q (.str (toString i)) H1
  | _ => False
theorem fe_fmt {e : Expr} {te : TE} {pos : Pos} (he : PE X e te) : PE X (.FormattedValue e (-1) none pos) (fFmt te) := pe_wk (pe_fmt (pe_clos he)) fun σ H Q q => ⟨_, q, fun x H1 q => by
  split at q
  · exact .inl ⟨_, rfl, q⟩
  · exact .inr ⟨_, rfl, q⟩
  · exact q.elim⟩
inductive PF (X : Cx) : List Expr → List TE → Prop where
  | nil : PF X [] []
  | cons {e : Expr} {t : TE} {es : List Expr} {ts : List TE} (h : PE X e t) (r : PF X es ts) : PF X (e :: es) (t :: ts)
theorem PF_nil : PF X [] [] := .nil
theorem pf_cons {e : Expr} {t : TE} {es : List Expr} {ts : List TE} (h : PE X e t) (r : PF X es ts) : PF X (e :: es) (t :: ts) := .cons h r
def fJs : List TE → Str → L2.St → Hp → (Str → Hp → Prop) → Prop
  | [], acc, _, H, Q => Q acc H
  | t :: ts, acc, σ, H, Q => t σ H fun x H1 => match x with
    | .str y => (acc ++ y).length ≤ sizeLine ∧ fJs ts (acc ++ y) σ H1 Q
    | _ => False
theorem pf_pj {es : List Expr} {ts : List TE} (h : PF X es ts) : PJ X es (ts.map clos) := by
  induction h with
  | nil => exact .nil
  | cons h r ih => exact .cons (pe_clos h) ih
theorem fJs_to : ∀ {ts : List TE} {acc : Str} {σ : L2.St} {H : Hp} {Q : Str → Hp → Prop}, fJs ts acc σ H Q → tJs (ts.map clos) acc σ H Q
  | [], _, _, _, _, h => h
  | t :: ts, acc, σ, H, Q, h => ⟨_, h, fun x H1 q => by
    split at q
    · exact ⟨_, rfl, q.1, fJs_to q.2⟩
    · exact q.elim⟩
def fJoined (ts : List TE) : TE := fun σ H Q => fJs ts Str.empty σ H fun out H1 => Q (.str out) H1
theorem fe_joined {v1 v2 : Expr} {rest : List Expr} {ts : List TE} {pos : Pos} (h : PF X (v1 :: v2 :: rest) ts) : PE X (.JoinedStr (v1 :: v2 :: rest) pos) (fJoined ts) := by
  have h2 := pf_pj h
  exact pe_wk (pe_joined h2) fun σ H Q q => fJs_to q
/-- // by any divisor but 0 -/
def fDivZ : R2 := fun x y H Q => match x, y with
  | .int i, .int j => (j ≠ 0 ∧ j.natAbs.log2 < 9000) ∧ Q (.int (Int.fdiv i j)) H
  | _, _ => False
theorem op_fDivZ : OpR X (binaryOp .FloorDiv) fDivZ := by
  intro pins s σ H x y v u Q I rx ry h
  match x, y, rx, ry, h with
  | .int i, .int j, ⟨t, e⟩, ⟨t', e'⟩, ⟨hc, q⟩ =>
    subst e e'
    exact floordiv_int hc.1 ⟨.int _, H, I.tok _, ⟨_, rfl⟩, q⟩ (.inl (PyProof.noPylong_of_log2 hc.2))
end
theorem WE_wOf {E : XK} {σ : L2.St} : WE (wOf E) σ = E := rfl
/-! ### dicts of the module, text keys -/
def EntOk (K : PySem.W.Frag) (d : Addr) : Str × Option V → Prop
  | (z, none) => PySem.W.nsIn K d z = some none
  | (z, some v) => ∃ u, PySem.W.nsIn K d z = some (some u) ∧ RelV v u
theorem ent_none {K : PySem.W.Frag} {d : Addr} {z : Str} (h : PySem.W.nsIn K d z = some none) : EntOk K d (z, none) := h
theorem ent_str {K : PySem.W.Frag} {d : Addr} {z x : Str} {t : Tok} (h : PySem.W.nsIn K d z = some (some (.str x t))) : EntOk K d (z, some (.str x)) := ⟨_, h, _, rfl⟩
theorem ent_int {K : PySem.W.Frag} {d : Addr} {z : Str} {x : Int} {t : Tok} (h : PySem.W.nsIn K d z = some (some (.int x t))) : EntOk K d (z, some (.int x)) := ⟨_, h, _, rfl⟩
structure DAt (K : PySem.W.Frag) (w : World) (d : Addr) (ks : List (Str × Option V)) : Prop where
  ex : ∃ es n, KDict K w d es n
  en : ∀ p ∈ ks, EntOk K d p
def GDict (K : PySem.W.Frag) (w : World) (mg : Str → Option Value) (x : Str) (ks : List (Str × Option V)) : Prop := ∃ d, mg x = some (.ref d) ∧ DAt K w d ks
structure GDictF (K : PySem.W.Frag) (w : World) (x : Str) (ks : List (Str × Option V)) : Prop where
  ex : ∃ d, PySem.W.nsIn K mainGlobals x = some (some (.ref d)) ∧ DAt K w d ks
theorem GDictF.of {K : PySem.W.Frag} {w : World} {x : Str} {ks : List (Str × Option V)} {d : Addr} {es : Array DictEntry} {n : Nat} (h1 : PySem.W.nsIn K mainGlobals x = some (some (.ref d))) (h2 : K.lookup d = some ⟨.type "dict", none, .dict es n, #[]⟩)
    (h3 : PySem.W.KeysLit w.params es.toList) (h4 : (d == sysModules) = false) (h5 : ∀ p ∈ ks, EntOk K d p) : GDictF K w x ks := ⟨d, h1, ⟨es, n, h2, h3, h4⟩, h5⟩
theorem GDictF.get {K : PySem.W.Frag} {w : World} {mg : Str → Option Value} {x : Str} {ks : List (Str × Option V)} {h : Heap} (X : K.In h) (G : h.Ns mainGlobals mg) (F : GDictF K w x ks) : GDict K w mg x ks := by
  obtain ⟨d, h1, h2⟩ := F.ex
  exact ⟨d, PySem.W.mg_of X G h1, h2⟩
theorem ent_at {K : PySem.W.Frag} {w : World} {d : Addr} {z : Str} {o : Option V} : ∀ {ks : List (Str × Option V)}, (∀ p ∈ ks, EntOk K d p) → ks.lookup z = some o → EntOk K d (z, o)
  | [], _, h => by cases h
  | (y, p) :: ks, hk, h => by
    rw [List.lookup_cons] at h
    split at h
    · rename_i e
      cases h
      have e' := eq_of_beq e
      subst e'
      exact hk _ (List.mem_cons_self ..)
    · exact ent_at (w := w) (fun q hq => hk q (List.mem_cons_of_mem _ hq)) h
def fGd_ (K : PySem.W.Frag) (w : World) (ks : List (Str × Option V)) : TE := fun _ H Q => ∀ d, DAt K w d ks → Q (.ref d) H
section
variable {X : Cx}
theorem fe_gdict {x : Str} {pos : Pos} {ks : List (Str × Option V)} (hg : Gl X x) (h : GDict X.K X.w X.mg x ks) (hd : (x == ("__debug__" : Str)) = false := by decide) : PE X (.Name x pos) (fGd_ X.K X.w ks) := by
  obtain ⟨d, h, hs⟩ := h
  exact pe_wk (pe_glob hg h (v := .ref d) rfl hd) fun σ H Q q => q d hs
/-- z in D, D a dict of the module -/
def fInD (K : PySem.W.Frag) (w : World) (neg : Bool) : R2 := fun x y H Q => match x, y with
  | .str z, .ref d => ∃ ks o, DAt K w d ks ∧ ks.lookup z = some o ∧ Q (.bl (if neg = true then !o.isSome else o.isSome)) H
  | _, _ => False
theorem op_fInD : OpR X (compareOp .In) (fInD X.K X.w false) := by
  intro pins s σ H x y v u Q I rx ry h
  match x, y, rx, ry, h with
  | .str z, .ref d, rx, ry, ⟨ks, o, D, e, q⟩ =>
    obtain ⟨es, n, kd⟩ := D.ex
    have en := ent_at (w := X.w) D.en e
    cases o with
    | none => exact op_in_kd kd pins s σ H _ _ v u Q I rx ry ⟨z, none, rfl, rfl, en, q⟩
    | some v =>
      obtain ⟨u0, e0, _⟩ := en
      exact op_in_kd kd pins s σ H _ _ _ u Q I rx ry ⟨z, some u0, rfl, rfl, e0, q⟩
theorem op_fNotInD : OpR X (compareOp .NotIn) (fInD X.K X.w true) := by
  intro pins s σ H x y v u Q I rx ry h
  match x, y, rx, ry, h with
  | .str z, .ref d, rx, ry, ⟨ks, o, D, e, q⟩ =>
    obtain ⟨es, n, kd⟩ := D.ex
    have en := ent_at (w := X.w) D.en e
    cases o with
    | none => exact op_notIn_kd kd pins s σ H _ _ v u Q I rx ry ⟨z, none, rfl, rfl, en, q⟩
    | some v =>
      obtain ⟨u0, e0, _⟩ := en
      exact op_notIn_kd kd pins s σ H _ _ _ u Q I rx ry ⟨z, some u0, rfl, rfl, e0, q⟩
/-- D[z], D a dict of the module -/
def fIxD (K : PySem.W.Frag) (w : World) : R2 := fun x y H Q => match x, y with
  | .ref d, .str z => ∃ ks v, DAt K w d ks ∧ ks.lookup z = some (some v) ∧ Q v H
  | _, _ => False
theorem ix_fxD : IxR X (fIxD X.K X.w) := by
  intro e1 e2 pins s σ H x y v u Q I rx ry h hs
  match x, y, rx, ry, h with
  | .ref d, .str z, rx, ry, ⟨ks, r, D, e, q⟩ =>
    obtain ⟨es, n, kd⟩ := D.ex
    obtain ⟨u0, e0, r0⟩ := ent_at (w := X.w) D.en e
    exact ix_kdict e1 e2 pins s σ H (.ref d) (.str z) v u Q I rx ry ⟨d, z, r, rfl, rfl, ⟨es, n, u0, kd.at_, kd.lit, e0, r0⟩, q⟩ hs
end
/-! ### scalars as data -/
def dV : V → PyData
  | .non => .none
  | .bl b => .bool b
  | .int i => .int i
  | .str z => .str z
  | _ => .none
def scV : V → Bool
  | .non => true
  | .bl _ => true
  | .int _ => true
  | .str _ => true
  | _ => false
theorem dpAll_sc {K : PySem.W.Frag} {H : Hp} : ∀ {xs : List V}, xs.all scV = true → DpAll K H xs (xs.map dV)
  | [], _ => .nil
  | x :: xs, h => by
    rw [List.all_cons, Bool.and_eq_true] at h
    refine .cons ?_ (dpAll_sc h.2)
    obtain ⟨h1, _⟩ := h
    cases x <;> first
      | exact .non
      | exact .bl _
      | exact .int _
      | exact .str _
      | (exact absurd h1 (by decide))
      | (cases h1)
theorem all_okd {xs : List V} (h : xs.all scV = true) : PyData.plainAll (xs.map dV) = true ∧ PyData.depthAll (xs.map dV) = 0 := by
  induction xs with
  | nil => exact ⟨rfl, rfl⟩
  | cons x xs ih =>
    rw [List.all_cons, Bool.and_eq_true] at h
    obtain ⟨i1, i2⟩ := ih h.2
    obtain ⟨h1, _⟩ := h
    have : (dV x).plain = true ∧ (dV x).depth = 0 := by cases x <;> first | exact ⟨rfl, rfl⟩ | cases h1
    rw [List.map_cons, PyData.plainAll, PyData.depthAll, this.1, this.2, i1, i2]
    exact ⟨rfl, rfl⟩
theorem tup_okd {xs : List V} (h : xs.all scV = true) : okd (.tuple (xs.map dV)) = true := by
  obtain ⟨h1, h2⟩ := all_okd h
  unfold okd
  rw [Bool.and_eq_true]
  exact ⟨by rw [PyData.plain]; exact h1, decide_eq_true (by rw [PyData.depth, h2]; decide)⟩
theorem lst_okd {xs : List V} (h : xs.all scV = true) : okd (.list (xs.map dV)) = true := by
  obtain ⟨h1, h2⟩ := all_okd h
  unfold okd
  rw [Bool.and_eq_true]
  exact ⟨by rw [PyData.plain]; exact h1, decide_eq_true (by rw [PyData.depth, h2]; decide)⟩
theorem tup_eqv {xs : List V} (h : xs.all scV = true) : PyData.eqv (.tuple (xs.map dV)) (.tuple (xs.map dV)) = true := SeqAt.eqv_refl_plain _ (by rw [PyData.plain]; exact (all_okd h).1)
theorem lst_eqv {xs : List V} (h : xs.all scV = true) : PyData.eqv (.list (xs.map dV)) (.list (xs.map dV)) = true := SeqAt.eqv_refl_plain _ (by rw [PyData.plain]; exact (all_okd h).1)
/-- two tuples of the same scalars are equal -/
theorem tup_same {K : PySem.W.Frag} {H : Hp} {p q : Addr} {xs : List V} (hp : SqT K H p xs) (hq : SqT K H q xs) (h : xs.all scV = true) {R : Bool → Prop} (k : R true) :
    ∃ d, Dp K H (.ref p) d ∧ ∃ e, Dp K H (.ref q) e ∧ okd d = true ∧ okd e = true ∧ R (PyData.eqv d e) :=
  ⟨_, .tup hp (dpAll_sc h), _, .tup hq (dpAll_sc h), tup_okd h, tup_okd h, by rw [tup_eqv h]; exact k⟩
theorem lst_same {K : PySem.W.Frag} {H : Hp} {p q : Addr} {xs : List V} (hp : SqL K H p xs) (hq : SqL K H q xs) (h : xs.all scV = true) {R : Bool → Prop} (k : R true) :
    ∃ d, Dp K H (.ref p) d ∧ ∃ e, Dp K H (.ref q) e ∧ okd d = true ∧ okd e = true ∧ R (PyData.eqv d e) :=
  ⟨_, .lst hp (dpAll_sc h), _, .lst hq (dpAll_sc h), lst_okd h, lst_okd h, by rw [lst_eqv h]; exact k⟩
end Fx

set_option Elab.async false
set_option linter.all false
set_option maxRecDepth 100000
/-! Tb: dicts whose keys are tuples of scalars (None and truth values among them), over Ex. -/
namespace Fx
open PySem PySem.Spec PyProof.Rows L2
def leafK : V → NestedKey
  | .bl b => .num (if b = true then 1 else 0)
  | .int i => .num i
  | .str z => .text z
  | _ => .none
/-- a tuple of scalars as a key -/
def tupK (xs : List V) : NestedKey := .tup (xs.map leafK)
abbrev NEnt := NestedKey × Addr × V
abbrev PU : List NEnt → List (NestedKey × Addr × Value) → Prop := Paired fun e u => e.1 = u.1 ∧ e.2.1 = u.2.1 ∧ RelV e.2.2 u.2.2
def atN (es : List NEnt) (k : NestedKey) : Option V := (es.find? fun e => decide (e.1 = k)).map (·.2.2)
def putN (es : List NEnt) (k : NestedKey) (a : Addr) (v : V) : List NEnt := if (atN es k).isSome = true then es.map (fun e => if e.1 = k then (e.1, e.2.1, v) else e) else es ++ [(k, a, v)]
def dropN (es : List NEnt) (k : NestedKey) : List NEnt := es.filter fun e => decide (e.1 ≠ k)
theorem PU.at {es : List NEnt} {us : List (NestedKey × Addr × Value)} (h : PU es us) (k : NestedKey) : RelO (atN es k) ((atKey us k).map (·.2)) := by
  induction h with
  | nil => exact True.intro
  | @cons p q ps qs h t ih =>
    obtain ⟨h1, h2, h3⟩ := h
    by_cases e : p.1 = k
    · have e' : q.1 = k := h1.symm.trans e
      have a : atN (p :: ps) k = some p.2.2 := by simp [atN, List.find?_cons, e]
      have b : atKey (q :: qs) k = some q.2 := by simp [atKey, List.find?_cons, e']
      rw [a, b]; exact h3
    · have e' : ¬ q.1 = k := fun z => e (h1.trans z)
      have a : atN (p :: ps) k = atN ps k := by simp [atN, List.find?_cons, e]
      have b : atKey (q :: qs) k = atKey qs k := by simp [atKey, List.find?_cons, e']
      rw [a, b]; exact ih
theorem PU.put {es : List NEnt} {us : List (NestedKey × Addr × Value)} (h : PU es us) (k : NestedKey) (a : Addr) {v : V} {u : Value} (rv : RelV v u) : PU (putN es k a v) (storedH us k a u) := by
  have e : (atN es k).isSome = (atKey us k).isSome := by rw [(h.at k).isSome_eq, Option.isSome_map]
  unfold putN storedH
  rw [e]
  by_cases q : (atKey us k).isSome = true
  · rw [if_pos q, if_pos q]
    clear q e
    induction h with
    | nil => exact .nil
    | @cons p q ps qs h t ih =>
      rw [List.map_cons, List.map_cons]
      refine .cons ?_ ih
      obtain ⟨h1, h2, h3⟩ := h
      unfold putAt
      by_cases e : p.1 = k
      · rw [if_pos e, if_pos (h1.symm.trans e)]; exact ⟨h1, h2, rv⟩
      · rw [if_neg e, if_neg (fun z => e (h1.trans z))]; exact ⟨h1, h2, h3⟩
  · rw [if_neg q, if_neg q]
    exact Paired.snoc h ⟨rfl, rfl, rv⟩
theorem PU.drop {es : List NEnt} {us : List (NestedKey × Addr × Value)} (h : PU es us) (k : NestedKey) : PU (dropN es k) (withoutH us k) := by
  unfold dropN withoutH
  induction h with
  | nil => exact .nil
  | @cons p q ps qs h t ih =>
    obtain ⟨h1, h2, h3⟩ := h
    rw [List.filter_cons, List.filter_cons]
    by_cases e : p.1 = k
    · have a : ¬ decide (p.1 ≠ k) = true := by simp [e]
      have b : ¬ decide (q.1 ≠ k) = true := by simp [h1.symm.trans e]
      rw [if_neg a, if_neg b]; exact ih
    · have e' : ¬ q.1 = k := fun z => e (h1.trans z)
      have a : decide (p.1 ≠ k) = true := by simp [e]
      have b : decide (q.1 ≠ k) = true := by simp [e']
      rw [if_pos a, if_pos b]; exact .cons ⟨h1, h2, h3⟩ ih
theorem putN_len (es : List NEnt) (k : NestedKey) (a : Addr) (v : V) : (putN es k a v).length ≤ es.length + 1 := by
  unfold putN
  split
  · rw [List.length_map]; omega
  · rw [List.length_append, List.length_cons, List.length_nil]; omega
/-- such a dict -/
def nkO (w : World) (d : Addr) (es : List NEnt) : HO := .ext fun h => es.length ≤ sizeLine ∧ (d == sysModules) = false ∧ ∃ us, PU es us ∧ ∃ o en ep, h.get? d = some o ∧ o.ExactDict ∧ o.data = .dict en ep ∧
  en.toList = us.map (fun u => (⟨u.1.hash w, .ref u.2.1, u.2.2⟩ : DictEntry)) ∧ (us.map (·.1)).Nodup
theorem nkO_ne_tup {w : World} {d : Addr} {es : List NEnt} {xs : List V} : nkO w d es ≠ .tup xs := fun z => by
  have z' : HO.ext _ = HO.tup xs := z
  cases z'
/-- the key's own tuple -/
def KeyT (H : Hp) (k : NestedKey) (a : Addr) : Prop := ∃ xs, H a = some (.tup xs) ∧ xs.all scV = true ∧ k = tupK xs
structure DN (w : World) (H : Hp) (d : Addr) (es : List NEnt) : Prop where
  rd : Rd H d (nkO w d es)
  ks : ∀ e ∈ es, KeyT H e.1 e.2.1
theorem KeyT.mono {H H' : Hp} {k : NestedKey} {a : Addr} (h : KeyT H k a) (s : ∀ b xs, H b = some (.tup xs) → H' b = some (.tup xs)) : KeyT H' k a := h.imp fun _ ⟨e, r⟩ => ⟨s _ _ e, r⟩
section
variable {P : Program} {w : World} {H : Hp} {h : Heap} {a d : Addr} {es : List NEnt}
theorem nested_leaf {x : V} {u : Value} (r : RelV x u) (hs : scV x = true) : NestedIs h (leafK x) u := by
  cases x <;> first
    | (cases r; exact .none)
    | (cases r; exact .bool rfl)
    | (obtain ⟨t, rfl⟩ := r; exact .int _ t)
    | (obtain ⟨t, rfl⟩ := r; exact .text _ t)
    | cases hs
theorem nested_all : ∀ {xs : List V} {us : List Value}, Vals xs us → xs.all scV = true → NestedAll h (xs.map leafK) us
  | _, _, .nil, _ => .nil
  | _, _, .cons r t, hs => by
    rw [List.all_cons, Bool.and_eq_true] at hs
    exact .cons (nested_leaf r hs.1) (nested_all t hs.2)
theorem leaf_depth (x : V) : (leafK x).depth = 0 := by cases x <;> rfl
theorem leaf_depths : ∀ xs : List V, NestedKey.depthAll (xs.map leafK) = 0
  | [] => rfl
  | x :: xs => by rw [List.map_cons, NestedKey.depthAll, leaf_depth, leaf_depths xs]; rfl
theorem KeyT.is {k : NestedKey} (ok : HOk P w H h) (e : KeyT H k a) : (nestedKind P w).is h k a := by
  obtain ⟨xs, e, hs, rfl⟩ := e
  obtain ⟨_, its, r, o, h1, h2, n, h3⟩ := (show ObjOk P w H h a (.tup xs) from ok a _ e)
  refine ⟨.tup h1 h2 h3 (by simpa using nested_all r hs), ?_⟩
  show NestedKey.depthAll (xs.map leafK) + 1 ≤ 8
  rw [leaf_depths]; decide
theorem DN.of (D : DN w H d es) (ok : HOk P w H h) : es.length ≤ sizeLine ∧ (d == sysModules) = false ∧ ∃ us, PU es us ∧ h.DictOfH (nestedKind P w) d us := by
  have x : ObjOk P w H h d (nkO w d es) := D.rd.ok ok
  obtain ⟨⟨z, hd, us, r, o, en, ep, h1, h2, h3, h4, h5⟩, _⟩ := x
  refine ⟨z, hd, us, r, o, en, ep, h1, h2, h3, h4, ?_, h5⟩
  intro x hx
  have all : ∀ {l : List NEnt} {m : List (NestedKey × Addr × Value)}, PU l m → (∀ e ∈ l, KeyT H e.1 e.2.1) → ∀ x ∈ m, (nestedKind P w).is h x.1 x.2.1 := by
    intro l m q
    induction q with
    | nil => intro _ x hx; exact nomatch hx
    | @cons p q ps qs hq t ih =>
      intro hk x hx
      rcases List.mem_cons.mp hx with e | hx
      · subst e
        have := (hk p (List.mem_cons_self ..)).is ok
        rw [hq.1, hq.2.1] at this
        exact this
      · exact ih (fun e he => hk e (List.mem_cons_of_mem _ he)) x hx
  exact all r D.ks x hx
theorem nkO_ok {us : List (NestedKey × Addr × Value)} (z : es.length ≤ sizeLine) (hd : (d == sysModules) = false) (r : PU es us) (dd : h.DictOfH (nestedKind P w) d us) : ObjOk P w H h d (nkO w d es) := by
  obtain ⟨o, en, ep, h1, h2, h3, h4, _, h5⟩ := dd
  exact ⟨⟨z, hd, us, r, o, en, ep, h1, h2, h3, h4, h5⟩, ⟨o, h1⟩, fun g1 g2 ⟨_, _, us', r', o', en', ep', k1, k2, k3, k4, k5⟩ k => ⟨z, hd, us', r', o', en', ep', k _ k1, k2, k3, k4, k5⟩⟩
end
section
variable {X : Cx} {pins : List (Addr × Obj)} {σ : L2.St} {H : Hp} {s : Shared} {d q : Addr} {es : List NEnt} {xs : List V} {A : Around} {E : Value → Shared → Prop}
theorem room_n (hu : A.units + 64 < cLine) : (nestedKind X.prog X.w).room A.in1 := by
  show A.units + 1 + 8 < cLine
  omega
theorem n_getItem {v : V} {Q : Value → Shared → Prop} (hu : A.units + 64 < cLine) (I : Inv X pins σ H s) (D : DN X.w H d es) (hq : KeyT H (tupK xs) q) (e : atN es (tupK xs) = some v) (h : ∀ w' s', Inv X pins σ H s' → RelV v w' → Q w' s') :
    wpAny (model X.prog X.w) A (getItem (.ref d) (.ref q)) Q E s := by
  obtain ⟨z, hd, us, r, dd⟩ := D.of I.hok
  obtain ⟨w', hw, rw'⟩ := RelO.some_of (v := v) (o := (atKey us (tupK xs)).map (·.2)) (by rw [← e]; exact r.at _)
  obtain ⟨p, hp, hp2⟩ := Option.map_eq_some_iff.mp hw
  refine wpAny_getItem_heap (room_n hu) (hq.is I.hok) dd hp ?_
  rw [hp2]
  exact h w' _ (I.tok _) rw'
theorem n_in {Q : Value → Shared → Prop} (hu : A.units + 64 < cLine) (I : Inv X pins σ H s) (D : DN X.w H d es) (hq : KeyT H (tupK xs) q) (h : ∀ s', Inv X pins σ H s' → Q (.bool (atN es (tupK xs)).isSome) s') :
    wpAny (model X.prog X.w) A (compareOp .In (.ref q) (.ref d)) Q E s := by
  obtain ⟨z, hd, us, r, dd⟩ := D.of I.hok
  refine wpAny_in_heap (room_n hu) (hq.is I.hok) hd dd ?_
  have qq := (r.at (tupK xs)).isSome_eq
  rw [Option.isSome_map] at qq
  rw [← qq]
  exact h _ (I.tok _)
theorem n_setItem {v : V} {u : Value} {Q : Unit → Shared → Prop} (hu : A.units + 64 < cLine) (I : Inv X pins σ H s) (D : DN X.w H d es) (e0 : H d = some (nkO X.w d es)) (hq : KeyT H (tupK xs) q) (hl : es.length < sizeLine) (rv : RelV v u)
    (h : ∀ s', Inv X pins σ (upd H d (nkO X.w d (putN es (tupK xs) q v))) s' → Q () s') : wpAny (model X.prog X.w) A (setItem (.ref d) (.ref q) u) Q E s := by
  obtain ⟨z, hd, us, r, dd⟩ := D.of I.hok
  have hz : us.length ≤ sizeLine := by rw [← Paired.length r]; exact z
  refine wpAny_setItem_heap (hsz := hz) (room_n hu) (hq.is I.hok) dd fun h' dd' hs => h _ ?_
  have he : ∃ q, h'.get? d = some q := let ⟨q, _, _, hq, _⟩ := dd'; ⟨q, hq⟩
  exact d_write I (by rw [e0]; exact True.intro) hs he (nkO_ok (Nat.le_trans (putN_len ..) hl) hd (r.put _ _ rv) dd')
theorem n_delItem {Q : Unit → Shared → Prop} (hu : A.units + 64 < cLine) (I : Inv X pins σ H s) (D : DN X.w H d es) (e0 : H d = some (nkO X.w d es)) (hq : KeyT H (tupK xs) q) (e : (atN es (tupK xs)).isSome = true)
    (h : ∀ s', Inv X pins σ (upd H d (nkO X.w d (dropN es (tupK xs)))) s' → Q () s') : wpAny (model X.prog X.w) A (delItem (.ref d) (.ref q)) Q E s := by
  obtain ⟨z, hd, us, r, dd⟩ := D.of I.hok
  have hz : us.length ≤ sizeLine := by rw [← Paired.length r]; exact z
  have qq := (r.at (tupK xs)).isSome_eq
  rw [Option.isSome_map, e] at qq
  obtain ⟨p, hp⟩ := Option.isSome_iff_exists.mp qq.symm
  refine wpAny_delItem_heap (hsz := hz) (room_n hu) (hq.is I.hok) hd dd hp fun h' dd' hs => h _ ?_
  have he : ∃ q, h'.get? d = some q := let ⟨q, _, _, hq, _⟩ := dd'; ⟨q, hq⟩
  exact d_write I (by rw [e0]; exact True.intro) hs he (nkO_ok (Nat.le_trans (List.length_filter_le _ _) z) hd (r.drop _) dd')
end
/-! ### readings and rules -/
def isKey (H : Hp) (q : Addr) (xs : List V) : Prop := H q = some (.tup xs) ∧ xs.all scV = true
theorem isKey.t {H : Hp} {q : Addr} {xs : List V} (h : isKey H q xs) : KeyT H (tupK xs) q := ⟨xs, h.1, h.2, rfl⟩
def fGetN (w : World) (td ty : TE) : TE := fun σ H Q => td σ H fun x H1 => ty σ H1 fun y H2 => match x, y with
  | .ref d, .ref q => ∃ es xs v, DN w H2 d es ∧ isKey H2 q xs ∧ atN es (tupK xs) = some v ∧ Q v H2
  | _, _ => False
def fInN (w : World) (ty td : TE) : TE := fun σ H Q => ty σ H fun y H1 => td σ H1 fun x H2 => match x, y with
  | .ref d, .ref q => ∃ es xs, DN w H2 d es ∧ isKey H2 q xs ∧ Q (.bl (atN es (tupK xs)).isSome) H2
  | _, _ => False
def sPutN (w : World) (td ty tv : TE) : TS := fun D σ H => tv σ H fun v H1 => td σ H1 fun x H2 => ty σ H2 fun y H3 => match x, y with
  | .ref d, .ref q => ∃ es xs, DN w H3 d es ∧ H3 d = some (nkO w d es) ∧ isKey H3 q xs ∧ es.length < sizeLine ∧ D.nx σ (upd H3 d (nkO w d (putN es (tupK xs) q v)))
  | _, _ => False
def sDelN (w : World) (td ty : TE) : TS := fun D σ H => td σ H fun x H1 => ty σ H1 fun y H2 => match x, y with
  | .ref d, .ref q => ∃ es xs, DN w H2 d es ∧ H2 d = some (nkO w d es) ∧ isKey H2 q xs ∧ (atN es (tupK xs)).isSome = true ∧ D.nx σ (upd H2 d (nkO w d (dropN es (tupK xs))))
  | _, _ => False
def fNewN (w : World) : TE := fun _ H Q => ∀ p H2, H p = none → Same H H2 → H2 p = some (nkO w p []) → Q (.ref p) H2
def fLenN (w : World) : List V → Hp → VK → Prop := fun xs H Q => match xs with
  | [.ref d] => ∃ es, DN w H d es ∧ Q (.int es.length) H
  | _ => False
section
variable {X : Cx} {o i e value : Expr} {pos pos' tpos : Pos} {td ty tv : TE}
theorem pe_getN {w : World} (hw : X.w = w) (hu : X.A.units + 64 < cLine) (ho : PE X o td) (hi : PE X i ty) (hs : NoSl i) : PE X (.Subscript o i pos) (fGetN w td ty) := by
  subst hw
  refine ⟨fun pins s σ H Q I h => ?_⟩
  refine subD_of PySem.F.slot_dict_getitem.lookup hs (thn (ho.run pins s σ H _ I h) fun u s1 ⟨x, H1, I1, rx, q1⟩ => thn (hi.run pins s1 σ H1 _ I1 q1) fun iv s2 ⟨y, H2, I2, ry, q2⟩ => ?_)
  match x, y, rx, ry, q2 with
  | .ref d, .ref q, rx, ry, ⟨es, xs, v, D, kq, ev, q2⟩ =>
    obtain rfl : u = Value.ref d := rx
    obtain rfl : iv = Value.ref q := ry
    obtain ⟨_, _, us, _, dd⟩ := D.of I2.hok
    exact ⟨dd.typeIs, n_getItem hu I2 D kq.t ev fun w' s3 I3 rw' => ⟨v, H2, I3, rw', q2⟩⟩
theorem pc_inN {w : World} (hw : X.w = w) (hu : X.A.units + 64 < cLine) (hi : PE X i ty) (ho : PE X o td) : PC X .In i o (fInN w ty td) := by
  subst hw
  refine ⟨fun pins s σ H Q I h => ?_⟩
  refine thn (hi.run pins s σ H _ I h) fun iv s1 ⟨y, H1, I1, ry, q1⟩ => thn (ho.run pins s1 σ H1 _ I1 q1) fun u s2 ⟨x, H2, I2, rx, q2⟩ => ?_
  match x, y, rx, ry, q2 with
  | .ref d, .ref q, rx, ry, ⟨es, xs, D, kq, q2⟩ =>
    obtain rfl : u = Value.ref d := rx
    obtain rfl : iv = Value.ref q := ry
    exact n_in hu I2 D kq.t fun s3 I3 => ⟨.bl _, H2, I3, rfl, q2⟩
theorem ps_putN {w : World} (hw : X.w = w) (hu : X.A.units + 64 < cLine) (ho : PE X o td) (hi : PE X i ty) (hv : PE X value tv) (hs : swapsWith value (some (.Subscript o i pos')) pos.line X.env = pure false) :
    PS X (.Assign [.Subscript o i pos'] value pos) (sPutN w td ty tv) := by
  subst hw
  refine ⟨fun pins s σ H D I h => ?_⟩
  refine wpAny_Assign_Subscript (thn (hv.run pins s σ H _ I h) fun r s1 ⟨v, H1, I1, rv, q1⟩ => thn (ho.run pins s1 σ H1 _ I1 q1) fun u s2 ⟨x, H2, I2, rx, q2⟩ => thn (hi.run pins s2 σ H2 _ I2 q2) fun iv s3 ⟨y, H3, I3, ry, q3⟩ => ?_) hs
  match x, y, rx, ry, q3 with
  | .ref d, .ref q, rx, ry, ⟨es, xs, Dn, e0, kq, hl, q3⟩ =>
    obtain rfl : u = Value.ref d := rx
    obtain rfl : iv = Value.ref q := ry
    exact n_setItem hu I3 Dn e0 kq.t hl rv fun s4 I4 => ⟨σ, _, I4, q3⟩
theorem ps_delN {w : World} (hw : X.w = w) (hu : X.A.units + 64 < cLine) (ho : PE X o td) (hi : PE X i ty) : PS X (.Delete [.Subscript o i tpos] pos) (sDelN w td ty) := by
  subst hw
  refine ⟨fun pins s σ H D I h => ?_⟩
  refine wpAny_Delete (wpAny_deleteEach_cons (wpAny_delete_Subscript (thn (ho.run pins s σ H _ I h) fun u s1 ⟨x, H1, I1, rx, q1⟩ => thn (hi.run pins s1 σ H1 _ I1 q1) fun iv s2 ⟨y, H2, I2, ry, q2⟩ => ?_)))
  match x, y, rx, ry, q2 with
  | .ref d, .ref q, rx, ry, ⟨es, xs, Dn, e0, kq, l, q2⟩ =>
    obtain rfl : u = Value.ref d := rx
    obtain rfl : iv = Value.ref q := ry
    exact n_delItem hu I2 Dn e0 kq.t l fun s3 I3 => wpAny_deleteEach_nil ⟨σ, _, I3, q2⟩
theorem pe_newN {w : World} (hw : X.w = w) : PE X (.Dict [] [] pos) (fNewN w) := by
  subst hw
  refine ⟨fun pins s σ H Q I h => ?_⟩
  refine wpAny_Dict_empty ?_
  have hf : H s.heap.objs.size = none := I.hok.fresh (Nat.le_refl _)
  refine ⟨.ref s.heap.objs.size, upd H s.heap.objs.size (nkO X.w s.heap.objs.size []), I.laid (t' := s.toks) (fun b u e => Heap.get?_push_of_some _ e) (Nat.le_refl _) ?_, rfl, h _ _ hf (same_new hf) upd_same⟩
  exact nkO_ok (us := []) (Nat.zero_le _) (beq_eq_false_iff_ne.mpr (Ne.symm (Nat.ne_of_lt I.big))) .nil (Heap.DictOfH.new _)
theorem call_fLenN {w : World} (hw : X.w = w) : CallR X (.builtin "len") (fLenN w) := by
  subst hw
  intro pins s σ H xs us Q I r h
  match xs, r, h with
  | [.ref d], r, ⟨es, D, q⟩ =>
    obtain ⟨u, rfl, rx⟩ := vals1 r
    obtain rfl : u = .ref d := rx
    obtain ⟨z, hd, ys, rel, dd⟩ := D.of I.hok
    have hl : es.length = ys.length := Paired.length rel
    refine call_len_dictH hd dd (by rw [← hl]; rw [sizeLine_eq] at z; omega) ?_
    rw [← hl]
    exact ⟨.int ((es.length : Nat) : Int), H, I.tok _, ⟨_, rfl⟩, q⟩
end
/-! ### its keys, walked (the dict locked) -/
def Itn (w : World) (d : Addr) (o : Obj) (es : List NEnt) : It :=
  ⟨fun i H => H d = some (.frz o (nkO w d es)) ∧ i < es.length, fun i H x H' => H' = H ∧ ∃ e, es[i]? = some e ∧ x = .ref e.2.1, fun i H => H d = some (.frz o (nkO w d es)) ∧ es.length ≤ i⟩
theorem Inv.frzN {X : Cx} {pins : List (Addr × Obj)} {σ : L2.St} {H : Hp} {s : Shared} {d : Addr} {o : Obj} {es : List NEnt} (I : Inv X pins σ H s) (h : H d = some (.frz o (nkO X.w d es))) :
    (d == sysModules) = false ∧ s.heap.get? d = some o ∧ o.ExactDict ∧ ∃ (en : Array DictEntry) (ep : Nat), o.data = .dict en ep ∧ en.size = es.length ∧
      ∀ (i : Nat) (e : NEnt), es[i]? = some e → ∃ (x : DictEntry), en[i]? = some x ∧ x.key = .ref e.2.1 := by
  obtain ⟨hd, ⟨z, hs, us, r, o', en, ep, ho, hx, hdt, he, _⟩, _⟩ := I.hok d _ h
  rw [hd] at ho
  cases ho
  refine ⟨hs, hd, hx, en, ep, hdt, ?_, fun i e hi => ?_⟩
  · have l1 : en.toList.length = us.length := by rw [he, List.length_map]
    have l2 : es.length = us.length := Paired.length r
    rw [Array.length_toList] at l1
    omega
  · obtain ⟨b, hb, e1, e2, _⟩ := paired_get r hi
    refine ⟨⟨b.1.hash X.w, .ref b.2.1, b.2.2⟩, ?_, by rw [e2]⟩
    rw [← Array.getElem?_toList, he, List.getElem?_map, hb]
    rfl
theorem turn_keysN {P : Program} {w : World} {K : PySem.W.Frag} {tg : Expr} {d : Addr} {o : Obj} {en : Array DictEntry} {ep : Nat} {es : List NEnt} (it : Addr) (hod : o.data = .dict en ep) : Turn P w K tg (Itn w d o es) [it] it (fun i h => h.IsKeyIter it d i es.length ep) where
  mem := by simp
  obj := fun i h st b hb => by
    have e : b = it := by simpa using hb
    subst e
    obtain ⟨oi, e, c, dd⟩ := st
    exact ⟨oi, e, fun v z => by rw [dd] at z; cases z⟩
  keep := fun i h h' st k => st.at fun oi e => k it (by simp) oi e
  item := by
    intro X hP hw hK hc i pins s σ H E I hf st hg
    subst hP hw hK
    obtain ⟨hd, hi⟩ := hg
    obtain ⟨f0, f1, f2, f3, f4, f5⟩ := hf it (by simp)
    obtain ⟨hs, hgd, hx, es', ep', hdt, hsz, ent⟩ := Inv.frzN I hd
    obtain ⟨rfl, rfl⟩ := dict_ep hod hdt
    obtain ⟨e, he⟩ : ∃ p, es[i]? = some p := ⟨es[i], List.getElem?_eq_getElem hi⟩
    obtain ⟨x, hen, hkey⟩ := ent i e he
    refine next_key_item st hgd hdt hsz hen fun h' st' sb => ?_
    have I1 : Inv X pins σ H { s with heap := h' } := I.turned (t' := s.toks) (fun b ob hb e => (sb.2 b hb).trans e) f0 f1 f3 f4 f5
    obtain ⟨oi, e', c, dd⟩ := id st'
    exact ⟨x.key, rfl, go_of (s := { s with heap := h' }) e' c dd (by decide) ⟨.ref e.2.1, H, I1, hkey, ⟨rfl, e, he, rfl⟩, st', fun b hb => (hf b hb).1⟩⟩
  done := by
    intro X hP hw hK hc i pins s σ H E I hf st hg
    subst hP hw hK
    obtain ⟨hd, hi⟩ := hg
    obtain ⟨f0, f1, f2, f3, f4, f5⟩ := hf it (by simp)
    obtain ⟨hs, hgd, hx, es', ep', hdt, hsz, ent⟩ := Inv.frzN I hd
    obtain ⟨rfl, rfl⟩ := dict_ep hod hdt
    exact next_key_end (I.ok.hd hc) st hgd hdt hsz hi fun h' eb => ⟨rfl, I.turned (t' := s.toks) (fun b ob hb e => eb b ob hb e) f0 f1 f3 f4 f5⟩
  self := fun A i s Q E st h => by
    refine wpAny_pyIter_slot st.typeIs F.slot_dict_keyiterator_iter (wpAny_call_entry F.slot_dict_keyiterator_iter st.typeIs F.entry_dict_keyiterator_iter ?_ (F.args_dict_keyiterator_iter_1 _))
    show wpAny _ _ (ret (.ref it)) _ _ s
    exact wpAny_pure ⟨_, rfl, "dict_keyiterator", _, st.typeIs, F.slot_dict_keyiterator_next.lookup, h⟩
def iKeysN (w : World) (td : TE) : TI := fun σ H R => td σ H fun x H1 => match x with
  | .ref d => ∃ o es, H1 d = some (.frz o (nkO w d es)) ∧ R (Itn w d o es) H1
  | _ => False
theorem walk_keysN {w : World} {d : Addr} {o : Obj} {es : List NEnt} : Walk (Itn w d o es) es.length (fun H => H d = some (.frz o (nkO w d es))) (fun i H x H' => H' = H ∧ ∃ e, es[i]? = some e ∧ x = .ref e.2.1) :=
  ⟨fun _ _ hi q => ⟨q, hi⟩, fun _ q => ⟨q, Nat.le_refl _⟩, fun _ _ _ _ _ _ y => y⟩
section
variable {X : Cx} {tg e : Expr} {td : TE}
theorem pi_keysN {w : World} (hw : X.w = w) (he : PE X e td) : PI X tg e (iKeysN w td) := by
  subst hw
  refine ⟨fun pins s σ H R I h => ?_⟩
  refine thn (he.run pins s σ H _ I h) fun u s1 ⟨x, H1, I1, rx, q⟩ => ?_
  match x, rx, q with
  | .ref d, rx, ⟨o, es, hd, q⟩ =>
    obtain rfl : u = Value.ref d := rx
    obtain ⟨hs, hgd, hx, en, ep, hdt, hsz, ent⟩ := Inv.frzN I1 hd
    refine iter_keys hs hgd hx hdt (pi_one (tk := s1.toks) I1 _ (turn_keysN _ hdt) ⟨_, Heap.get?_push_size _ rfl, rfl, ?_⟩ q)
    rw [hsz] <;> rfl
end
theorem lcx_keysN {w : World} {d0 : Addr} {o : Obj} {es : List NEnt} {g : TG} {tt : TT} {te : TE} {vs : List Nat} {σ : L2.St} {H1 : Hp} {D : Addr} {Q : VK} (Pv : Nat → Hp → Prop) (h0 : Pv 0 (upd H1 D (.lst []))) (hl : ∀ i H, i ≤ es.length → Pv i H → H d0 = some (.frz o (nkO w d0 es)))
    (hs : ∀ i x H, es[i]? = some x → Pv i H → g (.ref x.2.1) (wipe σ vs) H fun σ2 H2 => wipe σ2 vs = wipe σ vs ∧ tt σ2 H2 fun b H3 =>
      if b = true then te σ2 H3 fun y H4 => ∃ acc, H4 D = some (.lst acc) ∧ acc.length < sizeLine ∧ Pv (i + 1) (upd H4 D (.lst (acc ++ [y]))) else Pv (i + 1) H3) (hd : ∀ H, Pv es.length H → Q (.ref D) H) : Lc (Itn w d0 o es) g tt te vs σ H1 D Q :=
  lc_it walk_keysN Pv h0 hl (fun i x H H' hi p y => by
    obtain ⟨rfl, e, he, rfl⟩ := y
    exact hs i e _ he p) hd
/-! ### properties -/
structure HasP (P : Program) (w : World) (K : PySem.W.Frag) (mg : Str → Option Value) (base : Heap) (CX : CXT) (C : Addr) (x : Str) (k : Nat) (ps : List Str) (sp : Sp) : Prop where
  ex : ∃ (p g : Addr) (fd : FuncData), PropOf K C x p g ∧ FnOk P w K mg base CX k g fd ps sp ∧ Binds K fd ps []
/-- a property's getter as it stands -/
structure AtP (K : PySem.W.Frag) (C : Addr) (x qual : Str) (st : Stmt) (ps : List Str) : Prop where
  ex : ∃ (p g : Addr) (fd : FuncData), Fun K x qual st g fd ∧ Binds K fd ps [] ∧ PropOf K C x p g
structure PFact (K : PySem.W.Frag) (C : Addr) (x qual : Str) (st : Stmt) : Prop where
  ex : ∃ (p f : Addr) (oc : Value) (od an : Option Addr) (sl : Array (Option Value)) (kV dc pm cd ct : Value),
    PropOf K C x p f ∧ K.lookup f = some ⟨oc, od, .func (PySem.W.fnOf x qual (defArgs st) (defBody st) (defScope st) .none kV dc pm an cd ct), sl⟩ ∧ PySem.W.codeIn K cd qual = true ∧ PySem.W.keepIn K (.ref f) = true
theorem PFact.of {K : PySem.W.Frag} {C : Addr} {x qual : Str} {st : Stmt} {p f : Addr} {oc : Value} {od an : Option Addr} {sl : Array (Option Value)} {kV dc pm cd ct : Value} {rest : List Value}
    (a : PySem.W.findIn K (.ref C) x = some (some (.ref p))) (g : PySem.W.specialIn K (.ref p) "__get__" = some (some (.builtin "property.__get__"))) (t : PySem.W.takesIn K (.ref p) = some true) (r : PySem.W.recIn K p "property" = some (.ref f :: rest))
    (l : K.lookup f = some ⟨oc, od, .func (PySem.W.fnOf x qual (defArgs st) (defBody st) (defScope st) .none kV dc pm an cd ct), sl⟩)
    (c : PySem.W.codeIn K cd qual = true) (k : PySem.W.keepIn K (.ref f) = true) : PFact K C x qual st := ⟨p, f, oc, od, an, sl, kV, dc, pm, cd, ct, ⟨a, g, t, rest, r⟩, l, c, k⟩
theorem AtP.of {K : PySem.W.Frag} {C : Addr} {x qual : Str} {st : Stmt} {ps : List Str} (F : PFact K C x qual st)
    (hb : ∀ (kV doc pm : Value) (an : Option Addr) (cdv ct : Value) (us : List Value), us.length = ps.length → bindArgs (PySem.W.fnOf x qual (defArgs st) (defBody st) (defScope st) .none kV doc pm an cdv ct) ⟨us, []⟩ = pure (ps.zip us)) : AtP K C x qual st ps := by
  obtain ⟨p, f, oc, od, an, sl, kV, dc, pm, cd, ct, pr, l, c, k⟩ := F.ex
  have F1 := fun_mk (st := st) l c k
  exact ⟨_, _, _, F1, F1.binds hb, pr⟩
theorem hasP_of {P : Program} {w : World} {K : PySem.W.Frag} {mg : Str → Option Value} {base : Heap} {C : Addr} {x qual : Str} {st : Stmt} {N ps : List Str} {k : Nat} {sp : Sp} (A : AtP K C x qual st ps) (S : FnScope N ps (defScope st)) (len : ∀ vs H Q E, sp vs H Q E → vs.length = ps.length)
    (hbody : ∀ (cdv : Value) (f : Addr) (A : Around) (outer : List Env) (s : Shared) (H : Hp) (vs : List V) (Q : VK) (E : XK), Room k (A.deeper (envOfC qual (defScope st) s.heap.objs.size f cdv)) → sp vs H Q E →
      ∃ t, PSs (cxOf CX0 P w K mg base N qual (defScope st) f cdv A outer s H E).nox (defBody st) t ∧ t { nx := fun _ H' => Q .non H', rt := Q } (start N vs) H) : HasP P w K mg base CX0 C x (k + 1) ps sp := by
  obtain ⟨p, f, fd, F, B, G⟩ := A.ex
  exact ⟨p, f, fd, G, F.ok S len fun cdv A outer s H vs Q E hr h => hbody cdv f A outer s H vs Q E hr h, B⟩
def fProp (C : Addr) (sp : Sp) (E : XK) (ta : TE) : TE := fun σ H Q => ta σ H fun x H1 => match x with
  | .ref a => match H1 a with
    | some (.ins D _ _) => D = C ∧ sp [.ref a] H1 Q E
    | _ => False
  | _ => False
theorem fe_prop {X : Cx} {CX : CXT} {k : Nat} {C : Addr} {x : Str} {ps : List Str} {sp : Sp} {E : XK} {e : Expr} {pos : Pos} {ta : TE} (h : HasP X.prog X.w X.K X.mg X.base CX C x k ps sp) (c : Cls X.K C) (hr : Room (k + 1) X.A) (hx : Passes CX X.nox E) (he : PE X e ta)
    (hab : attributeBase e x X.env (eval e X.env) = eval e X.env) : PE X (.Attribute e x pos) (fProp C sp E ta) := by
  obtain ⟨p, g, fd, hp, F, B⟩ := h.ex
  refine pe_wk (pe_prop (pe_clos he) c hp F hr B .nil hx hab) fun σ H Q q => ⟨_, q, fun y H1 q1 => ?_⟩
  match y, q1 with
  | .ref a, q1 =>
    dsimp only at q1
    split at q1
    · obtain ⟨h1, q2⟩ := q1
      rename_i D dx fs ea
      subst h1
      exact ⟨_, _, _, rfl, ea, q2⟩
    · exact q1.elim
end Fx

set_option Elab.async false
set_option linter.all false
set_option maxRecDepth 100000
/-! Mr: list methods, dicts with text keys, exceptions as values, by value, over Tb. -/
namespace Fx
open PySem PySem.Spec PyProof.Rows L2
section
variable {X : Cx}
/-! ### list methods -/
def fPop : V → List V → Hp → VK → Prop := fun x vs H Q => match x, vs with
  | .ref l, [] => match H l with
    | some (.lst xs) => ∃ y, xs[xs.length - 1]? = some y ∧ Q y (upd H l (.lst xs.dropLast))
    | _ => False
  | _, _ => False
theorem mt_fPop : MtR X "list.pop" fPop := by
  intro pins s σ H x xs v us Q I rx rs h
  unfold fPop at h
  split at h
  · split at h
    · obtain ⟨y, h1, h2⟩ := h
      exact mt_pop pins s σ H _ _ v us Q I rx rs ⟨_, _, y, rfl, rfl, by assumption, h1, h2⟩
    · exact h.elim
  · exact h.elim
def fPopAt : V → List V → Hp → VK → Prop := fun x vs H Q => match x, vs with
  | .ref l, [.int i] => match H l with
    | some (.lst xs) => ∃ k y, ixN xs.length i = some k ∧ xs[k]? = some y ∧ xs.length ≤ 100000 ∧ Q y (upd H l (.lst (xs.eraseIdx k)))
    | _ => False
  | _, _ => False
theorem mt_fPopAt : MtR X "list.pop" fPopAt := by
  intro pins s σ H x xs v us Q I rx rs h
  unfold fPopAt at h
  split at h
  · split at h
    · obtain ⟨k, y, h1, h2, h4, h3⟩ := h
      obtain ⟨e, _, lo, hi⟩ := ixN_seq h1
      exact mt_popAt pins s σ H _ _ v us Q I rx rs ⟨_, _, _, k, y, rfl, rfl, by assumption, by omega, by omega, e, h2, h3⟩
    · exact h.elim
  · exact h.elim
def fReverse : V → List V → Hp → VK → Prop := fun x vs H Q => match x, vs with
  | .ref l, [] => match H l with
    | some (.lst xs) => Q .non (upd H l (.lst xs.reverse))
    | _ => False
  | _, _ => False
theorem mt_fReverse : MtR X "list.reverse" fReverse := by
  intro pins s σ H x xs v us Q I rx rs h
  unfold fReverse at h
  split at h
  · split at h
    · exact mt_reverse pins s σ H _ _ v us Q I rx rs ⟨_, _, rfl, rfl, by assumption, h⟩
    · exact h.elim
  · exact h.elim
def fExtend : V → List V → Hp → VK → Prop := fun x vs H Q => match x, vs with
  | .ref l, [.ref b] => match H l, H b with
    | some (.lst xs), some (.lst zs) => xs.length + zs.length ≤ sizeLine ∧ Q .non (upd H l (.lst (xs ++ zs)))
    | _, _ => False
  | _, _ => False
theorem mt_fExtend : MtR X "list.extend" fExtend := by
  intro pins s σ H x xs v us Q I rx rs h
  unfold fExtend at h
  split at h
  · split at h
    · exact mt_extend pins s σ H _ _ v us Q I rx rs ⟨_, _, _, _, rfl, rfl, by assumption, by assumption, h⟩
    · exact h.elim
  · exact h.elim
def fInsert : V → List V → Hp → VK → Prop := fun x vs H Q => match x, vs with
  | .ref l, [.int i, y] => match H l with
    | some (.lst xs) => xs.length < sizeLine ∧ 0 ≤ i ∧ i < 2 ^ 63 ∧ Q .non (upd H l (.lst (xs.take i.toNat ++ [y] ++ xs.drop i.toNat)))
    | _ => False
  | _, _ => False
theorem mt_fInsert : MtR X "list.insert" fInsert := by
  intro pins s σ H x xs v us Q I rx rs h
  unfold fInsert at h
  split at h
  · split at h
    · exact mt_insert pins s σ H _ _ v us Q I rx rs ⟨_, _, _, _, rfl, rfl, by assumption, h⟩
    · exact h.elim
  · exact h.elim
/-! ### dicts with text (and number) keys -/
def keyV : V → Option Key
  | .int i => some (.inl i)
  | .str z => some (.inr z)
  | _ => none
theorem keyV_kV {x : V} {k : Key} (h : keyV x = some k) : x = kV k := by
  cases x <;> first
    | (cases h; rfl)
    | cases h
def fGetK (td ty : TE) : TE := fun σ H Q => td σ H fun x H1 => ty σ H1 fun y H2 => match x, keyV y with
  | .ref a, some k => ∃ kvs v, Rd H2 a (.dK kvs) ∧ valV kvs k = some v ∧ Q v H2
  | _, _ => False
def fInK (neg : Bool) (ty td : TE) : TE := fun σ H Q => ty σ H fun y H1 => td σ H1 fun x H2 => match x, keyV y with
  | .ref a, some k => ∃ kvs, Rd H2 a (.dK kvs) ∧ Q (.bl (if neg = true then !(valV kvs k).isSome else (valV kvs k).isSome)) H2
  | _, _ => False
def sPutK (td ty tv : TE) : TS := fun D σ H => tv σ H fun v H1 => td σ H1 fun x H2 => ty σ H2 fun y H3 => match x, keyV y with
  | .ref a, some k => ∃ kvs, H3 a = some (.dK kvs) ∧ kvs.length < sizeLine ∧ D.nx σ (upd H3 a (.dK (putK kvs k v)))
  | _, _ => False
def sDelK (td ty : TE) : TS := fun D σ H => td σ H fun x H1 => ty σ H1 fun y H2 => match x, keyV y with
  | .ref a, some k => ∃ kvs, H2 a = some (.dK kvs) ∧ (valV kvs k).isSome = true ∧ D.nx σ (upd H2 a (.dK (dropK kvs k)))
  | _, _ => False
section
variable {o i value : Expr} {pos pos' tpos : Pos} {td ty tv : TE}
theorem pe_getK (hu : X.A.units + 1 < cLine) (ho : PE X o td) (hi : PE X i ty) (hs : NoSl i) : PE X (.Subscript o i pos) (fGetK td ty) :=
  pe_wk (pe_dget hu (pe_clos ho) (pe_clos hi) hs) fun σ H Q q => ⟨_, q, fun x H1 q => ⟨_, q, fun y H2 q => by
    split at q
    · obtain ⟨kvs, v, r, hv, q⟩ := q
      exact ⟨_, v, rfl, .inl ⟨kvs, _, r, keyV_kV (by assumption), hv.symm⟩, q⟩
    · exact q.elim⟩⟩
theorem pc_wk {op : CmpOp} {a b : Expr} {t t' : TE} (h : PC X op a b t) (w : ∀ σ H Q, t' σ H Q → t σ H Q) : PC X op a b t' := ⟨fun pins s σ H Q I q => h.run pins s σ H Q I (w σ H Q q)⟩
theorem pc_inK (hu : X.A.units + 1 < cLine) (hi : PE X i ty) (ho : PE X o td) : PC X .In i o (fInK false ty td) :=
  pc_wk (pc_din hu (pe_clos hi) (pe_clos ho)) fun σ H Q q => ⟨_, q, fun y H1 q => ⟨_, q, fun x H2 q => by
    split at q
    · obtain ⟨kvs, r, q⟩ := q
      exact ⟨_, _, rfl, .inl ⟨kvs, _, r, keyV_kV (by assumption), rfl⟩, q⟩
    · exact q.elim⟩⟩
theorem pc_notinK (hu : X.A.units + 1 < cLine) (hi : PE X i ty) (ho : PE X o td) : PC X .NotIn i o (fInK true ty td) :=
  pc_wk (pc_dnotin hu (pe_clos hi) (pe_clos ho)) fun σ H Q q => ⟨_, q, fun y H1 q => ⟨_, q, fun x H2 q => by
    split at q
    · obtain ⟨kvs, r, q⟩ := q
      exact ⟨_, _, rfl, .inl ⟨kvs, _, r, keyV_kV (by assumption), rfl⟩, q⟩
    · exact q.elim⟩⟩
theorem ps_putK (hu : X.A.units + 1 < cLine) (ho : PE X o td) (hi : PE X i ty) (hv : PE X value tv) (hs : swapsWith value (some (.Subscript o i pos')) pos.line X.env = pure false) :
    PS X (.Assign [.Subscript o i pos'] value pos) (sPutK td ty tv) :=
  ps_wk (ps_dput hu (pe_clos ho) (pe_clos hi) (pe_clos hv) hs) fun D σ H q => ⟨_, q, fun v H1 q => ⟨_, q, fun x H2 q => ⟨_, q, fun y H3 q => by
    split at q
    · obtain ⟨kvs, h1, h2, q⟩ := q
      exact ⟨_, _, rfl, .inl ⟨kvs, _, h1, keyV_kV (by assumption), h2, rfl⟩, q⟩
    · exact q.elim⟩⟩⟩
theorem ps_delK (ho : PE X o td) (hi : PE X i ty) : PS X (.Delete [.Subscript o i tpos] pos) (sDelK td ty) :=
  ps_wk (ps_ddel (pe_clos ho) (pe_clos hi)) fun D σ H q => ⟨_, q, fun x H1 q => ⟨_, q, fun y H2 q => by
    split at q
    · obtain ⟨kvs, h1, h2, q⟩ := q
      exact ⟨_, kvs, _, rfl, h1, keyV_kV (by assumption), h2, q⟩
    · exact q.elim⟩⟩
end
/-- list(d): the keys -/
def fListD : List V → Hp → VK → Prop := fun xs H Q => match xs with
  | [.ref a] => ∃ kvs, Rd H a (.dK kvs) ∧ ∀ p H1, H p = none → Same H H1 → H1 p = some (.lst (kvs.map fun kv => kV kv.1)) → Q (.ref p) H1
  | _ => False
theorem call_fListD (hc : X.calm = true) : CallR X (.type "list") fListD := by
  intro pins s σ H xs us Q I r h
  match xs, r, h with
  | [.ref a], r, ⟨kvs, h1, h2⟩ => exact call_listD hc pins s σ H _ us Q I r ⟨a, kvs, rfl, h1, fun p np => h2 p _ np (same_new np) upd_same⟩
/-! ### exceptions as values -/
def fMkV (C : Addr) (n : Nat) (flds : List V → List (Str × V)) (ta : TA) : TE := fun σ H Q => ta σ H fun vs H1 => vs.length = n ∧ ∀ a d H2, H1 a = none → H1 d = none → Same H1 H2 → H2 a = some (exo a C (some d)) → H2 d = some (exd d (flds vs)) → Q (.ref a) H2
theorem fe_mkV {C : Addr} {x : Str} {n : Nat} {flds : List V → List (Str × V)} {p pos : Pos} {e : Expr} {es : List Expr} {ta : TA} (h : HasE X.prog X.w X.K X.mg X.base C x n flds) (hn : n ≤ 1000) (hr : Room 2 X.A) (hg : Gl X x) (ha : PA X (e :: es) ta) (hdb : (x == ("__debug__" : Str)) = false := by decide)
    (he : starEach (e :: es) X.env = (false, eval e X.env) :: starEach es X.env := by rfl) (hpl : (backTo pos (starEach es X.env)).any (·.1) = false := by rfl) : PE X (.Call (.Name x p) (e :: es) [] pos) (fMkV C n flds ta) := by
  obtain ⟨f, fd, ps, F1, hb, iC, tI, hm, T⟩ := h.ex
  refine ⟨fun pins s σ H Q I h => ?_⟩
  obtain ⟨nm, q, N, bs, bm, sn, sub, ab, col, dd, k0, k1, k2, k3, k5, hC, hbm⟩ := T.cls
  refine wpAny_Call_Name_kw (ld_glob I hg hm ?_ hdb)
  refine PySem.W.callWith_K (h₀ := X.base) I.ok.mod.kin T.kC (thn (ha.run pos pins s σ H _ I h) fun us s1 ⟨vs, H1, I1, r1, hz, q1⟩ => ⟨I1.kIn, ?_⟩) he hpl
  show wpAny _ _ (call (.ref C) us) _ _ _
  obtain ⟨hp, g, dr, tk, os⟩ := s1
  have hsz : hp.objs.size ≤ hp.objs.size + 1 := Nat.le_succ _
  have hn1 : H1 (hp.objs.size + 1) = none := I1.hok.fresh hsz
  have hq : spInitE C n flds (V.ref (hp.objs.size + 1) :: vs) (upd H1 (hp.objs.size + 1) (exo (hp.objs.size + 1) C none)) (fun v H2 => v = .non ∧ Q (.ref (hp.objs.size + 1)) H2) (fun _ _ _ => False) :=
    ⟨_, vs, H1, rfl, hz, hn1, rfl, fun d H2 nd ne keep ea ed => ⟨rfl, q1 _ d H2 hn1 nd keep ea ed⟩⟩
  have kk : ∀ b o, hp.get? b = some o → ((hp.push (PySem.W.kdv_tup us)).push (PySem.HandSPX.excO C hp.objs.size)).get? b = some o := fun b o e => Heap.get?_push_of_some _ (Heap.get?_push_of_some _ e)
  have hget : ((hp.push (PySem.W.kdv_tup us)).push (PySem.HandSPX.excO C hp.objs.size)).get? (hp.objs.size + 1) = some (PySem.HandSPX.excO C hp.objs.size) := by heap_get
  have I2 : Inv X pins σ (upd H1 (hp.objs.size + 1) (exo (hp.objs.size + 1) C none)) ⟨(hp.push (PySem.W.kdv_tup us)).push (PySem.HandSPX.excO C hp.objs.size), g, dr, tk, os⟩ :=
    I1.laid (t' := tk) (a := hp.objs.size + 1) (o := exo (hp.objs.size + 1) C none) (h' := (hp.push (PySem.W.kdv_tup us)).push (PySem.HandSPX.excO C hp.objs.size)) kk hsz (exo_ok hget)
  have r2 : Vals (V.ref (hp.objs.size + 1) :: vs) (Value.ref (hp.objs.size + 1) :: us) := .cons rfl r1
  have hl : (Value.ref (hp.objs.size + 1) :: us).length = ps.length := by
    have e := r2.length
    rw [F1.len _ _ _ _ hq] at e
    exact e.symm
  have hus : us.length ≤ sizeLine := by
    rw [← Paired.length r1, sizeLine_eq]
    omega
  have hb' := hb ⟨(hp.push (PySem.W.kdv_tup us)).push (PySem.HandSPX.excO C hp.objs.size), g, dr, tk, os⟩ (Value.ref (hp.objs.size + 1) :: us) I2.kIn (by rw [List.append_nil]; exact hl)
  rw [List.append_nil] at hb'
  refine wpAny_call (PySem.HandSPX.call_own F.excBase_ValueError (fun Y => PySem.HandSPX.refsVE_contains Y bm hbm) (I1.kIn _ _ hC) (PySem.W.looks_findIn I1.kIn iC) (fun self => PySem.W.bind_fn I1.kIn self tI) hus
    (codeAny_mono (F1.run _ X.stack _ _ ⟨Value.ref (hp.objs.size + 1) :: us, []⟩ (Value.ref (hp.objs.size + 1) :: us) _ _ (fun _ _ _ => False) (hr.make C us []) (I2.env0.make C us []) hb' r2 hq) fun r s' hq' => ?_))
  cases r with
  | error er => exact hq'.elim
  | ok fl =>
    cases fl with
    | ret u =>
      obtain ⟨v, H', I3, rv, ev, q3⟩ := I2.after hq'
      subst ev
      exact ⟨rv, ⟨V.ref (hp.objs.size + 1), H', I3, rfl, q3⟩⟩
    | next => exact False.elim hq'
    | brk => exact False.elim hq'
    | cont => exact False.elim hq'
/-- an exception of class C with these fields, held -/
def IsExo (H : Hp) (a C : Addr) (fs : List (Str × V)) : Prop := ∃ d, H a = some (exo a C (some d)) ∧ H d = some (exd d fs)
theorem IsExo.same {H H' : Hp} {a C : Addr} {fs : List (Str × V)} (h : IsExo H a C fs) (s : Same H H') : IsExo H' a C fs := h.imp fun _ ⟨x, y⟩ => ⟨s _ _ x, s _ _ y⟩
theorem exo_inst {pins : List (Addr × Obj)} {σ : L2.St} {H : Hp} {s : Shared} {a C : Addr} {fs : List (Str × V)} (I : Inv X pins σ H s) (h : IsExo H a C fs) : ∃ (oe od : Obj) (mA : Str → Option Value), PySem.W.InstAt s.heap a oe C (some od) ∧ (∀ f, RelO (fs.lookup f) (mA f)) ∧ (∀ f, PySem.W.lookIn f od = some (mA f)) := by
  obtain ⟨d, e1, e2⟩ := h
  obtain ⟨t1, he⟩ := exo_at I.hok e1
  obtain ⟨mA, hns, rel⟩ := exd_at I.hok e2
  obtain ⟨od, ho, hl⟩ := lookIn_ns hns
  exact ⟨_, od, mA, ⟨he, rfl, rfl, ho⟩, rel, hl⟩
/-- e.f of such -/
def fXo (K : PySem.W.Frag) (cs : List Addr) (f : Str) (te : TE) : TE := fun σ H Q => te σ H fun x H1 => match x with
  | .ref a => ∃ C fs v, C ∈ cs ∧ IsExo H1 a C fs ∧ fs.lookup f = some v ∧ Q v H1
  | _ => False
theorem fe_xo {cs : List Addr} {e : Expr} {te : TE} {pos : Pos} {n : Str} (T : XPlain X.K cs n) (he : PE X e te) (hb : attributeBase e n X.env (eval e X.env) = eval e X.env) : PE X (.Attribute e n pos) (fXo X.K cs n te) := by
  refine ⟨fun pins s σ H Q I h => ?_⟩
  refine attr_of hb (thn (he.run pins s σ H _ I h) fun u s1 hh => ?_)
  obtain ⟨x, H1, I1, rx, q⟩ := hh
  match x, rx, q with
  | .ref a, rx, ⟨C, fs, v, m, hx, l, q⟩ =>
    obtain rfl : u = Value.ref a := rx
    obtain ⟨oe, od, mA, J, rel, hl⟩ := exo_inst I1 hx
    obtain ⟨u, hu, ru⟩ := RelO.some_of (v := v) (o := mA n) (by rw [← l]; exact rel n)
    exact HandSPX.exc_get I1.kIn J (T C m).1.ga (T C m).1.gg (T C m).1.exC (PySem.W.findObj_own (T C m).1.hdC (T C m).2 rfl (by rw [hl, hu])) (handed_of ru) ⟨v, H1, I1.tok _, ru, q⟩
/-- isinstance(e, C) of such -/
def fIsX (K : PySem.W.Frag) (cs : List Addr) : List V → Hp → VK → Prop := fun xs H Q => match xs with
  | [.ref a, .ref D] => ∃ C fs, C ∈ cs ∧ IsExo H a C fs ∧ ∃ b, PySem.W.kitOne K (.ref C) (.ref D) = some b ∧ Q (.bl b) H
  | _ => False
theorem call_fIsX {cs : List Addr} (F : ∀ C ∈ cs, ExcFact X.K C) (ob : ObjFact X.K) : CallR X (.builtin "isinstance") (fIsX X.K cs) := by
  intro pins s σ H xs us Q I r h
  match xs, r, h with
  | [.ref a, .ref D], r, ⟨C, fs, m, hx, b, e, q⟩ =>
    obtain ⟨u1, u2, rfl, r1, r2⟩ := vals2 r
    cases r1
    cases r2
    have FC := F C m
    have hcl : (PySem.W.clsIn X.K C).isSome = true := by
      obtain ⟨cd, hcd, _⟩ := PySem.W.any_some FC.hdC
      rw [hcd]; rfl
    obtain ⟨oe, od, mA, J, rel, hl⟩ := exo_inst I hx
    exact PySem.W.kia_one (PySem.W.kitx_exc hcl FC.ga FC.gg FC.exC FC.ci ob.gd ob.tk FC.mr) I.kIn J e (fun z => nomatch z) fun tk => ⟨.bl b, H, I.kept (t' := tk) fun _ _ z => z, rfl, q⟩
end
end Fx

set_option Elab.async false
set_option linter.all false
set_option maxRecDepth 100000
/-! Dk: displays of dicts with text keys, walks over their keys, by value, over Mr. -/
namespace Fx
open PySem PySem.Spec PyProof.Rows L2
/-! ### {"a": v, ..} -/
def fPairs : List (Key × TE) → L2.St → Hp → (List (Key × V) → Hp → Prop) → Prop
  | [], _, H, Q => Q [] H
  | (k, tv) :: r, σ, H, Q => tv σ H fun y H1 => fPairs r σ H1 fun ps H2 => Q ((k, y) :: ps) H2
abbrev FPs (X : Cx) (pos : Pos) (keys : List (Option Expr)) (values : List Expr) (trs : List (Key × TE)) : Prop := PPs X pos keys values (trs.map fun p => (tC (kV p.1), clos p.2))
theorem fps_nil {X : Cx} {pos : Pos} : FPs X pos [] [] [] := pps_nil
theorem fps_cons {X : Cx} {pos : Pos} {x : Str} {j : Nat} {p : Pos} {v : Expr} {ks : List (Option Expr)} {vs : List Expr} {tv : TE} {trs : List (Key × TE)} (hv : PE X v tv) (hr : FPs X pos ks vs trs) :
    FPs X pos (some (.Constant (.str x) j p) :: ks) (v :: vs) ((.inr x, tv) :: trs) := pps_cons pe_str (pe_clos hv) hr
theorem fPairs_t : ∀ {trs : List (Key × TE)} {σ : L2.St} {H : Hp} {R : List (Key × V) → Hp → Prop} {Q : List (V × V) → Hp → Prop}, fPairs trs σ H R → (∀ kvs H2, kvs.map (·.1) = trs.map (·.1) → R kvs H2 → Q (kvs.map fun kv => (kV kv.1, kv.2)) H2) → tPairs (trs.map fun p => (tC (kV p.1), clos p.2)) σ H Q
  | [], σ, H, R, Q, h, w => w [] H rfl h
  | (k, tv) :: r, σ, H, R, Q, h, w => ⟨_, h, fun y H1 q => fPairs_t q fun kvs H2 e z => w ((k, y) :: kvs) H2 (by rw [List.map_cons, List.map_cons, e]) z⟩
theorem mergeK_nd : ∀ (kvs acc : List (Key × V)), ((acc ++ kvs).map (·.1)).Nodup → mergeK acc kvs = acc ++ kvs
  | [], acc, _ => (List.append_nil acc).symm
  | p :: r, acc, h => by
    have hn : ¬ (acc.any fun kv => decide (kv.1 = p.1)) = true := by
      intro z
      obtain ⟨q, hq, e⟩ := List.any_eq_true.mp z
      have e := of_decide_eq_true e
      rw [List.map_append, List.nodup_append] at h
      exact h.2.2 _ (List.mem_map_of_mem hq) _ (List.mem_map_of_mem (List.mem_cons_self ..)) e
    have e1 : putK acc p.1 p.2 = acc ++ [p] := by unfold putK; rw [if_neg hn]
    show mergeK (putK acc p.1 p.2) r = _
    rw [e1, mergeK_nd r (acc ++ [p]) (by rw [List.append_assoc]; exact h), List.append_assoc]; rfl
def fDisp (trs : List (Key × TE)) : TE := fun σ H Q => ∀ p H0, H p = none → Same H H0 → H0 p = some (.dK []) → fPairs trs σ H0 fun kvs H2 => H2 p = some (.dK []) ∧ ∀ H3, H3 = upd H2 p (.dK kvs) → Q (.ref p) H3
theorem fe_disp {X : Cx} {pos : Pos} {keys : List (Option Expr)} {values : List Expr} {trs : List (Key × TE)} (h : FPs X pos keys values trs) (hn : (trs.map (·.1)).Nodup) (hall : keys.all (·.isSome) = true) (hl : keys.length = values.length) (h0 : keys ≠ [])
    (h15 : keys.length ≤ 15) (ht : trs.length ≤ 15) : PE X (.Dict keys values pos) (fDisp trs) :=
  pe_wk (pe_disp h hall hl h0 h15) fun σ H Q q p np => fPairs_t (q p _ np (same_new np) upd_same) fun kvs H2 e z => ⟨z.1, kvs, rfl, by
    have : kvs.length = trs.length := by have := congrArg List.length e; simpa using this
    omega, z.2 _ (by rw [mergeK_nd kvs [] (by rw [List.nil_append, e]; exact hn), List.nil_append])⟩
/-! ### for k in d -/
def iKeysK (td : TE) : TI := fun σ H R => td σ H fun x H1 => match x with
  | .ref d => ∃ o kvs, H1 d = some (.frz o (.dK kvs)) ∧ R (Itk d o kvs) H1
  | _ => False
theorem pi_keysK {X : Cx} {tg e : Expr} {td : TE} (he : PE X e td) : PI X tg e (iKeysK td) :=
  ⟨fun pins s σ H R I h => (pi_keys (pe_clos he)).run pins s σ H R I ⟨_, h, fun x H1 q => by
    match x, q with
    | .ref d, ⟨o, kvs, hd, q⟩ => exact ⟨d, o, rfl, .inl ⟨kvs, hd, q⟩⟩⟩⟩
theorem lcx_keysK {d0 : Addr} {o : Obj} {kvs : List (Key × V)} {g : TG} {tt : TT} {te : TE} {vs : List Nat} {σ : L2.St} {H1 : Hp} {D : Addr} {Q : VK} (Pv : Nat → Hp → Prop) (h0 : Pv 0 (upd H1 D (.lst []))) (hl : ∀ i H, i ≤ kvs.length → Pv i H → H d0 = some (.frz o (.dK kvs)))
    (hs : ∀ i k v H, kvs[i]? = some (k, v) → Pv i H → g (kV k) (wipe σ vs) H fun σ2 H2 => wipe σ2 vs = wipe σ vs ∧ tt σ2 H2 fun b H3 =>
      if b = true then te σ2 H3 fun y H4 => ∃ acc, H4 D = some (.lst acc) ∧ acc.length < sizeLine ∧ Pv (i + 1) (upd H4 D (.lst (acc ++ [y]))) else Pv (i + 1) H3) (hd : ∀ H, Pv kvs.length H → Q (.ref D) H) : Lc (Itk d0 o kvs) g tt te vs σ H1 D Q :=
  lc_it walk_keys Pv h0 hl (fun i x H H' hi p y => by
    obtain ⟨rfl, k, v, he, rfl⟩ := y
    exact hs i k v _ he p) hd
end Fx

set_option Elab.async false
set_option linter.all false
set_option maxRecDepth 100000
/-! Fk: one of two ways to read an expression (a method of several classes), copies of dicts. -/
namespace Fx
open PySem PySem.Spec PyProof.Rows L2
def tEither (t1 t2 : TE) : TE := fun σ H Q => t1 σ H Q ∨ t2 σ H Q
theorem pe_either {X : Cx} {e : Expr} {t1 t2 : TE} (h1 : PE X e t1) (h2 : PE X e t2) : PE X e (tEither t1 t2) := ⟨fun pins s σ H Q I q => q.elim (h1.run pins s σ H Q I) (h2.run pins s σ H Q I)⟩
/-- dict(d): a copy -/
def fDictD : List V → Hp → VK → Prop := fun xs H Q => match xs with
  | [.ref a] => ∃ kvs, Rd H a (.dK kvs) ∧ ∀ p H1, H p = none → Same H H1 → H1 p = some (.dK kvs) → Q (.ref p) H1
  | _ => False
theorem call_fDictD {X : Cx} : CallR X (.type "dict") fDictD := by
  intro pins s σ H xs us Q I r h
  match xs, r, h with
  | [.ref a], r, ⟨kvs, h1, h2⟩ =>
    obtain ⟨u, eu, rx⟩ := vals1 r
    subst eu
    cases rx
    exact d_copyOf I h1 fun p s' np I' => ⟨.ref p, _, I', rfl, h2 p _ np (same_new np) upd_same⟩
end Fx
namespace Fx
open PySem PySem.Spec PyProof.Rows L2
section
variable {X : Cx} {K : PySem.W.Frag}
theorem ix_fxK (h : X.K = K) : IxR X (fIx K) := h ▸ ix_fx
theorem call_fLenK (h : X.K = K) : CallR X (.builtin "len") (fLen K) := h ▸ call_fLen
theorem op_fAddK (h : X.K = K) : OpR X (binaryOp .Add) (fAdd K) := h ▸ op_fAdd
theorem sl_fxK (h : X.K = K) : SlR X (fSl K) := h ▸ sl_fx
theorem op_fEqK (hu : X.A.units + 64 < cLine) (h : X.K = K) : OpR X (compareOp .Eq) (fEq K false) := h ▸ op_fEq hu
theorem op_fNeK (hu : X.A.units + 64 < cLine) (h : X.K = K) : OpR X (compareOp .NotEq) (fEq K true) := h ▸ op_fNe hu
theorem op_fInK' (h : X.K = K) : OpR X (compareOp .In) (fIn K false) := h ▸ op_fIn
end
end Fx
namespace Fx
open PySem PySem.Spec PyProof.Rows L2
section
variable {X : Cx} {o e f : Expr} {apos cpos : Pos} {td ty tx : TE}
/-- sum of a list of whole numbers -/
def fSum : List V → Hp → VK → Prop := fun xs H Q => match xs with
  | [.ref a] => ∃ ns : List Int, H a = some (.lst (ns.map V.int)) ∧ Q (.int ns.sum) H
  | _ => False
theorem call_fSum (hc : X.calm = true) : CallR X (.builtin "sum") fSum := by
  intro pins s σ H xs us Q I r h
  match xs, r, h with
  | [.ref a], r, ⟨ns, h1, h2⟩ => exact cr_sum hc pins s σ H _ us Q I r ⟨a, ns, rfl, SqL.of h1, h2⟩
/-- d.get(k, x) -/
def fGetD (td ty tx : TE) : TE := fun σ H Q => td σ H fun x H1 => match x with
  | .ref a => (∃ kvs, Rd H1 a (.dK kvs)) ∧ ty σ H1 fun y H2 => tx σ H2 fun z H3 => match keyV y with
    | some k => ∃ kvs, Rd H3 a (.dK kvs) ∧ Q ((valV kvs k).getD z) H3
    | none => False
  | _ => False
theorem pe_getD (hu : X.A.units + 1 < cLine) (ho : PE X o td) (he : PE X e ty) (hf : PE X f tx) (m : M2 X o "get" apos e f cpos) : PE X (.Call (.Attribute o "get" apos) [e, f] [] cpos) (fGetD td ty tx) :=
  pe_wk (pe_dget2 hu (pe_clos ho) (pe_clos he) (pe_clos hf) m) fun σ H Q q => ⟨_, q, fun x H1 q => by
    split at q
    · rename_i a
      obtain ⟨⟨kvs, hd⟩, q⟩ := q
      exact ⟨a, rfl, .inl ⟨kvs, hd⟩, _, q, fun y H2 q => ⟨_, q, fun z H3 q => by
        split at q
        · obtain ⟨kvs', hd', q⟩ := q
          exact ⟨_, .inl ⟨kvs', _, hd', keyV_kV (by assumption), rfl⟩, q⟩
        · exact q.elim⟩⟩
    · exact q.elim⟩
end
/-! ### comprehensions of dicts -/
def Dc (J : It) (g : TG) (tt : TT) (tk tv : TE) (vs : List Nat) (σ : L2.St) (H1 : Hp) (D : Addr) (Q : VK) : Prop := ∃ W : Nat → Nat → Hp → Prop, (∃ m, W 0 m (upd H1 D (.dK []))) ∧ ∀ i m H, W i m H →
  (J.stop i H ∧ Q (.ref D) H) ∨ (J.go i H ∧ ∃ Nx : Hp → Prop, (∀ H', Nx H' → ∃ m', m' < m ∧ W (i + 1) m' H') ∧ ∀ x H', J.yld i H x H' → g x (wipe σ vs) H' fun σ2 H2 => wipe σ2 vs = wipe σ vs ∧ tt σ2 H2 fun b H3 =>
    if b = true then tk σ2 H3 fun y H4 => tv σ2 H4 fun z H5 => ∃ kvs k, y = kV k ∧ H5 D = some (.dK kvs) ∧ kvs.length < sizeLine ∧ Nx (upd H5 D (.dK (putK kvs k z))) else Nx H3)
theorem dc_ {wi : TI} {g : TG} {tt : TT} {tk tv : TE} {vs : List Nat} {σ : L2.St} {H : Hp} {Q : VK} (h : wi σ H fun J H1 => ∀ D, H1 D = none → Dc J g tt tk tv vs σ H1 D Q) : tDc wi g tt tk tv vs σ H Q := h
theorem dcx_tup {K : PySem.W.Frag} {a : Addr} {xs : List V} {g : TG} {tt : TT} {tk tv : TE} {vs : List Nat} {σ : L2.St} {H1 : Hp} {D : Addr} {Q : VK} (Pv : Nat → Hp → Prop) (h0 : Pv 0 (upd H1 D (.dK []))) (hl : ∀ i H, i ≤ xs.length → Pv i H → SqT K H a xs)
    (hs : ∀ i x H, xs[i]? = some x → Pv i H → g x (wipe σ vs) H fun σ2 H2 => wipe σ2 vs = wipe σ vs ∧ tt σ2 H2 fun b H3 =>
      if b = true then tk σ2 H3 fun y H4 => tv σ2 H4 fun z H5 => ∃ kvs k, y = kV k ∧ H5 D = some (.dK kvs) ∧ kvs.length < sizeLine ∧ Pv (i + 1) (upd H5 D (.dK (putK kvs k z))) else Pv (i + 1) H3) (hd : ∀ H, Pv xs.length H → Q (.ref D) H) : Dc (Itt K a) g tt tk tv vs σ H1 D Q :=
  dc_tup Pv h0 hl hs hd
end Fx
namespace Fx
open PySem PySem.Spec PyProof.Rows L2
def iEither (i1 i2 : TI) : TI := fun σ H R => i1 σ H R ∨ i2 σ H R
theorem pi_either {X : Cx} {tg e : Expr} {i1 i2 : TI} (h1 : PI X tg e i1) (h2 : PI X tg e i2) : PI X tg e (iEither i1 i2) := ⟨fun pins s σ H R I h => h.elim (h1.run pins s σ H R I) (h2.run pins s σ H R I)⟩
end Fx
namespace Fx
open PySem PySem.Spec PyProof.Rows L2
theorem lcx_tup {K : PySem.W.Frag} {a : Addr} {xs : List V} {g : TG} {tt : TT} {te : TE} {vs : List Nat} {σ : L2.St} {H1 : Hp} {D : Addr} {Q : VK} (Pv : Nat → Hp → Prop) (h0 : Pv 0 (upd H1 D (.lst []))) (hl : ∀ i H, i ≤ xs.length → Pv i H → SqT K H a xs)
    (hs : ∀ i x H, xs[i]? = some x → Pv i H → g x (wipe σ vs) H fun σ2 H2 => wipe σ2 vs = wipe σ vs ∧ tt σ2 H2 fun b H3 =>
      if b = true then te σ2 H3 fun y H4 => ∃ acc, H4 D = some (.lst acc) ∧ acc.length < sizeLine ∧ Pv (i + 1) (upd H4 D (.lst (acc ++ [y]))) else Pv (i + 1) H3) (hd : ∀ H, Pv xs.length H → Q (.ref D) H) : Lc (Itt K a) g tt te vs σ H1 D Q :=
  lc_it walk_tup Pv h0 hl (fun i x H H' hi p y => by
    obtain ⟨rfl, e⟩ := y
    exact hs i x _ e p) hd
end Fx
namespace Fx
open PySem PySem.Spec PyProof.Rows L2
/-- tuple(list) -/
def fTupOf : List V → Hp → VK → Prop := fun xs H Q => match xs with
  | [.ref p] => ∃ ys, H p = some (.lst ys) ∧ ∀ l H1, H l = none → Same H H1 → H1 l = some (.tup ys) → Q (.ref l) H1
  | _ => False
theorem call_fTupOf {X : Cx} : CallR X (.type "tuple") fTupOf := by
  intro pins s σ H xs us Q I r h
  match xs, r, h with
  | [.ref p], r, ⟨ys, h1, h2⟩ => exact call_tuple_of pins s σ H _ us Q I r ⟨p, ys, rfl, .inl ⟨SqL.of h1, fun l nl => h2 l _ nl (same_new nl) upd_same⟩⟩
end Fx

set_option Elab.async false
set_option linter.all false
set_option maxRecDepth 100000
set_option maxHeartbeats 1000000
/-! Zp: zip of a list and a tuple. -/
namespace Fx
open PySem PySem.Spec PyProof.Rows L2
/-- the list at a and the tuple at b as they stand at each turn -/
def ItzM (K : PySem.W.Frag) (a b : Addr) : It where
  go i H := ∃ (xs ys : List V) (x y : V), SqL K H a xs ∧ SqT K H b ys ∧ xs[i]? = some x ∧ ys[i]? = some y
  yld i H v H' := ∃ T x y, v = .ref T ∧ H T = none ∧ H' = upd H T (.tup [x, y]) ∧ (∀ xs, SqL K H a xs → xs[i]? = some x) ∧ ∀ ys, SqT K H b ys → ys[i]? = some y
  stop i H := ∃ xs ys : List V, SqL K H a xs ∧ SqT K H b ys ∧ i ≤ xs.length ∧ i ≤ ys.length ∧ (i = xs.length ∨ i = ys.length)
def StM (zp ti to j1 j2 a b : Addr) (i : Nat) (h : Heap) : Prop := IsZip h zp ti to .none ∧ IsPair h ti (.ref j1) (.ref j2) ∧ (∃ x y, IsPair h to x y) ∧ h.IsListIter j1 a i ∧ h.IsTupleIter j2 b i
theorem sepM {zp ti to j1 j2 a b : Addr} (D : ZipApart zp ti to j1 j2 a b) : ZipSep2 zp ti to j1 j2 [j1, a] [j2, b] := by
  constructor <;> simp [D.TIz, D.TOz, D.TITO, D.TIi1, D.TIi2, Ne.symm D.i1z, Ne.symm D.i2z, Ne.symm D.l1z, Ne.symm D.l2z, D.TOi1, D.TOi2, Ne.symm D.l1TO, Ne.symm D.l2TO, D.i12, Ne.symm D.i12, D.l1i2, D.l2i1, Ne.symm D.l1i2, Ne.symm D.l2i1]
theorem turn_zipM {P : Program} {w : World} {K : PySem.W.Frag} {el : List Expr} {kx : Nat} {tp : Pos} {a b zp ti to j1 j2 : Addr} (D : ZipApart zp ti to j1 j2 a b) : Turn P w K (.Tuple el kx tp) (ItzM K a b) [zp, ti, to, j1, j2] zp (StM zp ti to j1 j2 a b) where
  mem := List.mem_cons_self ..
  obj := fun i h ⟨g1, g2, ⟨x, y, g3⟩, ⟨o1, g4, _, g5⟩, ⟨o2, g6, _, g7⟩⟩ q hq => by
    simp only [List.mem_cons, List.not_mem_nil, or_false] at hq
    rcases hq with rfl | rfl | rfl | rfl | rfl
    · exact ⟨_, g1, fun v e => by cases e⟩
    · exact ⟨_, g2, fun v e => by cases e⟩
    · exact ⟨_, g3, fun v e => by cases e⟩
    · exact ⟨o1, g4, fun v e => by rw [g5] at e; cases e⟩
    · exact ⟨o2, g6, fun v e => by rw [g7] at e; cases e⟩
  keep := fun i h h' ⟨g1, g2, ⟨x, y, g3⟩, g4, g5⟩ k => ⟨k zp (by simp) _ g1, k ti (by simp) _ g2, ⟨x, y, k to (by simp) _ g3⟩, g4.at fun o e => k j1 (by simp) o e, g5.at fun o e => k j2 (by simp) o e⟩
  item := by
    intro X eP ew eK ec i pins s σ H E I hf st hg
    cases eP; cases ew; cases eK
    obtain ⟨g1, g2, ⟨x0, y0, g3⟩, g4, g5⟩ := st
    obtain ⟨xs, ys, x, y, sx, sy, ex, ey⟩ := hg
    obtain ⟨its, rv, pl, _⟩ := I.list sx
    obtain ⟨jts, rw2, pt, _⟩ := I.tuple sy
    obtain ⟨u, hu, ru⟩ := rv.get ex
    obtain ⟨v, hv, rv'⟩ := rw2.get ey
    have hh : X.A.in1.handled = none := I.ok.hd ec
    have lz : zp < s.heap.objs.size := Heap.lt_size g1
    have n1 : i < its.toArray.size := by
      have := (List.getElem?_eq_some_iff.mp hu).1
      simpa using this
    have n2 : i < jts.toArray.size := by
      have := (List.getElem?_eq_some_iff.mp hv).1
      simpa using this
    refine wpAny_pyNext_zipD2_item (sepM D) (Draws.list hh j1 a D.l1i1 its.toArray) (Draws.tuple hh j2 b D.l2i2 jts.toArray) g1 g2 g3 ⟨g4, pl.isList⟩ ⟨g5, pt⟩ n1 n2 fun u' v' hn tk e1 e2 kz ko st1 st2 hT hsz hk => ?_
    have eu : u' = u := by
      have e1 : its.toArray[i]? = some u' := e1
      rw [List.getElem?_toArray, hu] at e1
      exact (Option.some.inj e1).symm
    have ev : v' = v := by
      have e2 : jts.toArray[i]? = some v' := e2
      rw [List.getElem?_toArray, hv] at e2
      exact (Option.some.inj e2).symm
    subst eu ev
    refine ⟨_, rfl, wpAny_letOwnedTupleGo_zip (s := { s with heap := hn, toks := tk }) kz fun hm kz2 sb => ?_⟩
    have hT2 : hm.get? s.heap.objs.size = some { cls := .type "tuple", data := .seq #[u', v'] } := (sb.2 _ (Nat.ne_of_gt lz)).trans hT
    have new : ObjOk X.prog X.w (upd H s.heap.objs.size (.tup [x, y])) hm s.heap.objs.size (.tup [x, y]) := ⟨by show 2 ≤ sizeLine; decide, [u', v'], .cons ru (.cons rv' .nil), ⟨_, hT2, rfl, _, rfl⟩⟩
    have I1 : Inv X pins σ (upd H s.heap.objs.size (.tup [x, y])) { s with heap := hm, toks := tk } :=
      I.turnedNew (ch := [zp, ti, to, j1, j2]) (fun q o hq e => (sb.2 q (fun z => hq (by simp [z]))).trans (hk q o (fun z => hq (by simp [z])) (fun z => hq (by simp [z])) (fun z => hq (by simp [z])) (fun z => hq (by simp [z])) e)) hf (Nat.le_refl _) new
    refine ⟨.ref s.heap.objs.size, _, I1, rfl, ⟨_, x, y, rfl, I.hok.fresh (Nat.le_refl _), rfl, fun l hl => by rw [I.list_inj hl sx]; exact ex, fun l hl => by rw [I.tuple_inj hl sy]; exact ey⟩, ⟨kz2, ?_, ⟨u', v', ?_⟩, ?_, ?_⟩, fun q hq => ?_⟩
    · exact (sb.2 _ D.TIz).trans (hk _ _ D.TIz D.TITO D.TIi1 D.TIi2 g2)
    · exact (sb.2 _ D.TOz).trans ko
    · exact st1.1.at fun o e => (sb.2 _ D.i1z).trans e
    · exact st2.1.at fun o e => (sb.2 _ D.i2z).trans e
    · have hlt : q < s.heap.objs.size := by
        simp only [List.mem_cons, List.not_mem_nil, or_false] at hq
        rcases hq with rfl | rfl | rfl | rfl | rfl
        · exact lz
        · exact Heap.lt_size g2
        · exact Heap.lt_size g3
        · obtain ⟨_, e, _⟩ := g4; exact Heap.lt_size e
        · obtain ⟨_, e, _⟩ := g5; exact Heap.lt_size e
      rw [upd_ne (Nat.ne_of_lt hlt)]
      exact (hf q hq).1
  done := by
    intro X eP ew eK ec i pins s σ H E I hf st hg
    cases eP; cases ew; cases eK
    obtain ⟨g1, g2, ⟨x0, y0, g3⟩, g4, g5⟩ := st
    obtain ⟨xs, ys, sx, sy, l1, l2, l3⟩ := hg
    obtain ⟨its, rv, pl, _⟩ := I.list sx
    obtain ⟨jts, rw2, pt, _⟩ := I.tuple sy
    have hh : X.A.in1.handled = none := I.ok.hd ec
    have m1 : its.toArray.size = xs.length := by rw [rv.length]; simp
    have m2 : jts.toArray.size = ys.length := by rw [rw2.length]; simp
    exact wpAny_pyNext_zipD2_end (sepM D) (Draws.list hh j1 a D.l1i1 its.toArray) (Draws.tuple hh j2 b D.l2i2 jts.toArray) g1 g2 g3 ⟨g4, pl.isList⟩ ⟨g5, pt⟩ (by omega) (by omega) (by omega) fun hn tk hk =>
      ⟨rfl, I.turnedL (ch := [zp, ti, to, j1, j2]) (fun q o hq e => hk q o (fun z => hq (by simp [z])) (fun z => hq (by simp [z])) (fun z => hq (by simp [z])) (fun z => hq (by simp [z])) e) hf⟩
  self := fun A i s Q E st q => wpAny_pyIter_zip st.1 q
/-- for .. in zip(list, tuple) -/
def iZipM (K : PySem.W.Frag) (ta : TA) : TI := fun σ H R => ta σ H fun vs H1 => match vs with
  | [.ref a, .ref b] => ∃ xs ys, SqL K H1 a xs ∧ SqT K H1 b ys ∧ R (ItzM K a b) H1
  | _ => False
theorem pi_zipM {X : Cx} {e e2 : Expr} {ta : TA} {p pos tpos : Pos} {elts : List Expr} {kk : Nat} (hg : Gl X "zip") (hm : X.mg "zip" = none) (ha : PA X [e, e2] ta)
    (hs : starEach [e, e2] X.env = (false, eval e X.env) :: starEach [e2] X.env := by rfl) (hpl : (backTo pos (starEach [e2] X.env)).any (·.1) = false := by rfl) :
    PI X (.Tuple elts kk tpos) (.Call (.Name "zip" p) [e, e2] [] pos) (iZipM X.K ta) := by
  refine ⟨fun pins s σ H R I h => Call_ (ld_blt I hg hm PyProof.Rows.boot_zip (PyProof.Rows.callWith_type1 (thn (ha.run pos pins s σ H _ I h) fun us s1 ⟨vs, H1, I1, r1, q1⟩ => ?_) hs hpl))⟩
  dsimp only at q1
  split at q1
  · rename_i a b
    obtain ⟨xs, ys, sx, sy, q⟩ := q1
    cases r1 with
    | cons r t =>
     cases t with
     | cons r' t =>
      cases t
      cases r
      cases r'
      obtain ⟨its, rv, pl, _⟩ := I1.list sx
      obtain ⟨jts, rw2, pt, _⟩ := I1.tuple sy
      obtain ⟨o1, ho1, _⟩ := id pl.isList
      obtain ⟨o2, ho2, _⟩ := id pt
      have five : ∀ q, q ∈ [s1.heap.objs.size + 4, s1.heap.objs.size + 2, s1.heap.objs.size + 3, s1.heap.objs.size, s1.heap.objs.size + 1] → FpOk X pins H1 q := fun q hq => by
        have : s1.heap.objs.size ≤ q := by
          simp only [List.mem_cons, List.not_mem_nil, or_false] at hq
          omega
        exact I1.fpOk this (I1.hok.fresh this)
      refine zip_begins2 (begins_list a its.toArray) (begins_tuple b jts.toArray) pl.isList pt fun hn k1 k2 k3 k4 k5 _ hk => wpAny_pyIter_zip k1 ?_
      exact ⟨_, _, _, _, H1, rfl, I1.kept (t' := s1.toks) hk, turn_zipM (PySem.W.ktu_apart s1.heap.objs.size a b (Heap.lt_size ho1) (Heap.lt_size ho2)), ⟨k1, k2, ⟨_, _, k3⟩, ⟨_, k4, rfl, rfl⟩, ⟨_, k5, rfl, rfl⟩⟩, five, q⟩
  · exact q1.elim
/-- its loop -/
theorem loop_zipM {K : PySem.W.Frag} {a b : Addr} {xs ys : List V} {g : TG} {tb : TS} {D : Ends} {σ : L2.St} {H : Hp} (hl : xs.length = ys.length) (Pv : Nat → L2.St → Hp → Prop) (h0 : Pv 0 σ H) (hq : ∀ i σ H, Pv i σ H → SqL K H a xs ∧ SqT K H b ys)
    (hs : ∀ (i : Nat) (x y : V) (T : Addr) (σ : L2.St) (H : Hp), xs[i]? = some x → ys[i]? = some y → Pv i σ H → H T = none → g (.ref T) σ (upd H T (.tup [x, y])) fun σ2 H2 => tb { D with nx := Pv (i + 1), ct := Pv (i + 1), bk := D.nx } σ2 H2) (hd : ∀ σ H, Pv xs.length σ H → D.nx σ H) : Loop (ItzM K a b) g tb D σ H := by
  refine ⟨fun i m σ H => m = xs.length - i ∧ i ≤ xs.length ∧ Pv i σ H, ⟨_, rfl, Nat.zero_le _, h0⟩, fun i m σ H ⟨em, hi, hp⟩ => ?_⟩
  subst em
  obtain ⟨qx, qy⟩ := hq i σ H hp
  rcases Nat.lt_or_ge i xs.length with lt | ge
  · refine .inr ⟨⟨xs, ys, xs[i], ys[i]'(by omega), qx, qy, List.getElem?_eq_getElem _, List.getElem?_eq_getElem _⟩, Pv (i + 1), fun σ' H' p' => ⟨xs.length - (i + 1), by omega, rfl, lt, p'⟩, fun v H' ⟨T, x', y', e1, e2, e3, f1, f2⟩ => ?_⟩
    subst e1 e3
    exact hs i x' y' T σ H (f1 xs qx) (f2 ys qy) hp e2
  · have e : i = xs.length := by omega
    subst e
    exact .inl ⟨⟨xs, ys, qx, qy, Nat.le_refl _, by omega, .inl rfl⟩, hd σ H hp⟩
/-! ### dicts of the module whose values are tuples of scalars -/
def EntT (K : PySem.W.Frag) (d : Addr) : Str × Option (List V) → Prop
  | (z, none) => PySem.W.nsIn K d z = some none
  | (z, some xs) => ∃ a, PySem.W.nsIn K d z = some (some (.ref a)) ∧ ∀ H, SqT K H a xs
theorem entt_none {K : PySem.W.Frag} {d : Addr} {z : Str} (h : PySem.W.nsIn K d z = some none) : EntT K d (z, none) := h
theorem entt_tup {K : PySem.W.Frag} {d a : Addr} {z : Str} {xs : List V} {od : Option Addr} {its : Array Value} {n : Nat} {sl : Array (Option Value)} (h1 : PySem.W.nsIn K d z = some (some (.ref a))) (h2 : K.lookup a = some ⟨.type "tuple", od, .seq its n, sl⟩) (h3 : absVs its.toList = some xs) (h4 : its.size ≤ 1000) : EntT K d (z, some xs) :=
  ⟨a, h1, fun _ => .inr ⟨_, its, n, h2, rfl, rfl, Nat.le_trans h4 (by decide), absVs_rel h3⟩⟩
structure DTAt (K : PySem.W.Frag) (w : World) (d : Addr) (ks : List (Str × Option (List V))) : Prop where
  ex : ∃ es n, KDict K w d es n
  en : ∀ p ∈ ks, EntT K d p
def GDictT (K : PySem.W.Frag) (w : World) (mg : Str → Option Value) (x : Str) (ks : List (Str × Option (List V))) : Prop := ∃ d, mg x = some (.ref d) ∧ DTAt K w d ks
structure GDictTF (K : PySem.W.Frag) (w : World) (x : Str) (ks : List (Str × Option (List V))) : Prop where
  ex : ∃ d, PySem.W.nsIn K mainGlobals x = some (some (.ref d)) ∧ DTAt K w d ks
theorem GDictTF.of {K : PySem.W.Frag} {w : World} {x : Str} {ks : List (Str × Option (List V))} {d : Addr} {es : Array DictEntry} {n : Nat} (h1 : PySem.W.nsIn K mainGlobals x = some (some (.ref d))) (h2 : K.lookup d = some ⟨.type "dict", none, .dict es n, #[]⟩)
    (h3 : PySem.W.KeysLit w.params es.toList) (h4 : (d == sysModules) = false) (h5 : ∀ p ∈ ks, EntT K d p) : GDictTF K w x ks := ⟨d, h1, ⟨es, n, h2, h3, h4⟩, h5⟩
theorem GDictTF.get {K : PySem.W.Frag} {w : World} {mg : Str → Option Value} {x : Str} {ks : List (Str × Option (List V))} {h : Heap} (X : K.In h) (G : h.Ns mainGlobals mg) (F : GDictTF K w x ks) : GDictT K w mg x ks := by
  obtain ⟨d, h1, h2⟩ := F.ex
  exact ⟨d, PySem.W.mg_of X G h1, h2⟩
theorem entt_at {K : PySem.W.Frag} {d : Addr} {z : Str} {o : Option (List V)} : ∀ {ks : List (Str × Option (List V))}, (∀ p ∈ ks, EntT K d p) → ks.lookup z = some o → EntT K d (z, o)
  | [], _, h => by cases h
  | (y, p) :: ks, hk, h => by
    rw [List.lookup_cons] at h
    split at h
    · rename_i e
      cases h
      have e' := eq_of_beq e
      subst e'
      exact hk _ (List.mem_cons_self ..)
    · exact entt_at (fun q hq => hk q (List.mem_cons_of_mem _ hq)) h
def fGdT_ (K : PySem.W.Frag) (w : World) (ks : List (Str × Option (List V))) : TE := fun _ H Q => ∀ d, DTAt K w d ks → Q (.ref d) H
section
variable {X : Cx}
theorem fe_gdictT {x : Str} {pos : Pos} {ks : List (Str × Option (List V))} (hg : Gl X x) (h : GDictT X.K X.w X.mg x ks) (hd : (x == ("__debug__" : Str)) = false := by decide) : PE X (.Name x pos) (fGdT_ X.K X.w ks) := by
  obtain ⟨d, h, hs⟩ := h
  exact pe_wk (pe_glob hg h (v := .ref d) rfl hd) fun σ H Q q => q d hs
def fInDT (K : PySem.W.Frag) (w : World) : R2 := fun x y H Q => match x, y with
  | .str z, .ref d => ∃ ks o, DTAt K w d ks ∧ ks.lookup z = some o ∧ Q (.bl o.isSome) H
  | _, _ => False
theorem op_fInDT : OpR X (compareOp .In) (fInDT X.K X.w) := by
  intro pins s σ H x y v u Q I rx ry h
  match x, y, rx, ry, h with
  | .str z, .ref d, rx, ry, ⟨ks, o, D, e, q⟩ =>
    obtain ⟨es, n, kd⟩ := D.ex
    have en := entt_at D.en e
    cases o with
    | none => exact op_in_kd kd pins s σ H _ _ v u Q I rx ry ⟨z, none, rfl, rfl, en, q⟩
    | some xs =>
      obtain ⟨a, e0, _⟩ := en
      exact op_in_kd kd pins s σ H _ _ _ u Q I rx ry ⟨z, some (.ref a), rfl, rfl, e0, q⟩
def fIxDT (K : PySem.W.Frag) (w : World) : R2 := fun x y H Q => match x, y with
  | .ref d, .str z => ∃ ks xs, DTAt K w d ks ∧ ks.lookup z = some (some xs) ∧ ∀ a, (∀ H', SqT K H' a xs) → Q (.ref a) H
  | _, _ => False
theorem ix_fxDT : IxR X (fIxDT X.K X.w) := by
  intro e1 e2 pins s σ H x y v u Q I rx ry h hs
  match x, y, rx, ry, h with
  | .ref d, .str z, rx, ry, ⟨ks, xs, D, e, q⟩ =>
    obtain ⟨es, n, kd⟩ := D.ex
    obtain ⟨a, e0, r0⟩ := entt_at D.en e
    exact ix_kdict e1 e2 pins s σ H (.ref d) (.str z) v u Q I rx ry ⟨d, z, .ref a, rfl, rfl, ⟨es, n, .ref a, kd.at_, kd.lit, e0, rfl⟩, q a r0⟩ hs
end
end Fx
namespace Fx
open PySem PySem.Spec PyProof.Rows L2
section
variable {X : Cx} {o i e : Expr} {to ti te : TE} {tpos pos p1 p2 p3 : Pos} {k : Nat}
/-- xs[::-1] -/
def fRevL (K : PySem.W.Frag) (te : TE) : TE := fun σ H Q => te σ H fun x H1 => match x with
  | .ref a => ∃ xs, SqL K H1 a xs ∧ ∀ p H2, H1 p = none → Same H1 H2 → H2 p = some (.lst xs.reverse) → Q (.ref p) H2
  | _ => False
theorem fe_revL (he : PE X e te) : PE X (.Subscript e (.Slice none none (some (.UnaryOp .USub (.Constant (.int 1) k p1) p2)) p3) pos) (fRevL X.K te) :=
  pe_wk (pe_revL (pe_clos he)) fun σ H Q q => ⟨_, q, fun x H1 q => by
    split at q
    · rename_i a
      obtain ⟨xs, h, q⟩ := q
      exact ⟨a, xs, rfl, h, fun p np => q p _ np (same_new np) upd_same⟩
    · exact q.elim⟩
/-- del xs[i] -/
def sDelL (to ti : TE) : TS := fun D σ H => to σ H fun x H1 => ti σ H1 fun y H2 => match x, y with
  | .ref l, .int i => ∃ xs, ∃ n : Nat, H2 l = some (.lst xs) ∧ i = (n : Nat) ∧ n < xs.length ∧ n < 1000000 ∧ D.nx σ (upd H2 l (.lst (xs.eraseIdx n)))
  | _, _ => False
theorem fs_delL (ho : PE X o to) (hi : PE X i ti) : PS X (.Delete [.Subscript o i tpos] pos) (sDelL to ti) :=
  ps_wk (ps_delL (pe_clos ho) (pe_clos hi)) fun D σ H q => ⟨_, q, fun x H1 q => ⟨_, q, fun y H2 q => by
    split at q
    · obtain ⟨xs, n, h1, rfl, h2, h3, q⟩ := q
      refine ⟨_, xs, _, n, rfl, rfl, h1, by omega, by omega, ?_, q⟩
      unfold seqIndex?
      simp
      omega
    · exact q.elim⟩⟩
/-- for at, x in enumerate(xs) -/
def iEnum_ (K : PySem.W.Frag) (ta : TA) : TI := fun σ H R => ta σ H fun vs H1 => match vs with
  | [.ref a] => (∃ xs, SqL K H1 a xs) ∧ R (Ite K a) H1
  | _ => False
theorem pi_enum_ {ta : TA} {p pos tpos : Pos} {elts : List Expr} {kk : Nat} (hg : Gl X "enumerate") (hm : X.mg "enumerate" = none) (ha : PA X [e] ta) (hs : starEach [e] X.env = [(false, eval e X.env)] := by rfl) : PI X (.Tuple elts kk tpos) (.Call (.Name "enumerate" p) [e] [] pos) (iEnum_ X.K ta) :=
  ⟨fun pins s σ H R I h => (pi_enum hg hm (pa_clos ha) hs).run pins s σ H R I ⟨_, h, fun vs H1 q => by
    split at q
    · obtain ⟨⟨xs, h⟩, q⟩ := q
      exact ⟨_, xs, rfl, h, q⟩
    · exact q.elim⟩⟩
/-- list + list and the like in comprehensions over enumerate -/
theorem lcx_enum {K : PySem.W.Frag} {a : Addr} {xs : List V} {g : TG} {tt : TT} {te : TE} {vs : List Nat} {σ : L2.St} {H1 : Hp} {D : Addr} {Q : VK} (Pv : Nat → Hp → Prop) (h0 : Pv 0 (upd H1 D (.lst []))) (hl : ∀ i H, i ≤ xs.length → Pv i H → SqL K H a xs)
    (hs : ∀ (i : Nat) x T H H', xs[i]? = some x → Pv i H → H T = none → H' = upd H T (.tup [.int (i : Nat), x]) → g (.ref T) (wipe σ vs) H' fun σ2 H2 => wipe σ2 vs = wipe σ vs ∧ tt σ2 H2 fun b H3 =>
      if b = true then te σ2 H3 fun y H4 => ∃ acc, H4 D = some (.lst acc) ∧ acc.length < sizeLine ∧ Pv (i + 1) (upd H4 D (.lst (acc ++ [y]))) else Pv (i + 1) H3) (hd : ∀ H, Pv xs.length H → Q (.ref D) H) : Lc (Ite K a) g tt te vs σ H1 D Q :=
  lc_it walk_enum Pv h0 hl (fun i x H H' hi p y => by
    obtain ⟨T, u, v, e1, e2, e3, e4, e5⟩ := y
    cases e4
    subst e1
    exact hs i v T H H' e5 p e2 e3) hd
end
end Fx
namespace Fx
open PySem PySem.Spec PyProof.Rows L2
/-- a op1 b op2 c op3 d, as a test -/
def tChain3 (r1 r2 r3 : R2) (ta tb tc td : TE) : TT := fun σ H Q => ta σ H fun x H1 => tb σ H1 fun y H2 => r1 x y H2 fun v1 H3 => ∃ k, v1 = .bl k ∧ if k = true then tc σ H3 fun z H4 => r2 y z H4 fun v2 H5 => ∃ j, v2 = .bl j ∧ (if j = true then td σ H5 fun u H6 => r3 z u H6 fun v3 H7 => ∃ i, v3 = .bl i ∧ Q i H7 else Q false H5) else Q false H3
theorem pt_chain3 {X : Cx} {o1 o2 o3 : CmpOp} {r1 r2 r3 : R2} {a b c d : Expr} {ta tb tc td : TE} {pos : Pos} (h1 : OpR X (compareOp o1) r1) (h2 : OpR X (compareOp o2) r2) (h3 : OpR X (compareOp o3) r3) (ha : PE X a ta) (hb : PE X b tb) (hc : PE X c tc) (hd : PE X d td)
    (hm : lastMarks [o1, o2, o3] [b, c, d] = false := by with_unfolding_all rfl) : PT X (.Compare a [o1, o2, o3] [b, c, d] pos) (tChain3 r1 r2 r3 ta tb tc td) :=
  ⟨fun pins s σ H Q I h => isTrue_chain (thn (ha.run pins s σ H _ I h) fun v s1 ⟨x, H1, I1, e1, q1⟩ => test_link (thn (hb.run pins s1 σ H1 _ I1 q1) fun u s2 ⟨y, H2, I2, e2, q2⟩ =>
    thn (h1 pins s2 σ H2 x y v u _ I2 e1 e2 q2) fun t s3 ⟨z, H3, I3, e3, k, ek, q3⟩ => by
      subst ek
      cases e3
      refine wpAny_truthy_bool ?_
      cases k with
      | false => exact ite_ff ⟨H3, I3, q3⟩
      | true =>
        refine ite_tt (test_link (thn (hc.run pins s3 σ H3 _ I3 q3) fun v4 s4 ⟨z4, H4, I4, e4, q4⟩ => thn (h2 pins s4 σ H4 y z4 u v4 _ I4 e2 e4 q4) fun t5 s5 ⟨z5, H5, I5, e5, j, ej, q5⟩ => ?_))
        subst ej
        cases e5
        refine wpAny_truthy_bool ?_
        cases j with
        | false => exact ite_ff ⟨H5, I5, q5⟩
        | true =>
          refine ite_tt (test_last (thn (hd.run pins s5 σ H5 _ I5 q5) fun v6 s6 ⟨z6, H6, I6, e6, q6⟩ => thn (h3 pins s6 σ H6 z4 z6 v4 v6 _ I6 e4 e6 q6) fun t7 s7 ⟨z7, H7, I7, e7, i, ei, q7⟩ => ?_))
          subst ei
          cases e7
          exact wpAny_truthy_bool ⟨H7, I7, q7⟩)) hm⟩
end Fx
namespace Fx
open PySem PySem.Spec PyProof.Rows L2
theorem pg_tupK {X : Cx} {K : PySem.W.Frag} {es : List Expr} {k : Nat} {t : TGs} {n : Nat} {pos : Pos} (hK : X.K = K) (hc : X.calm = true) (h : PGs X es t) (hn : (assignEach es X.env).length = n := by rfl) (hst : (assignEach es X.env).findIdx? (·.1) = none := by rfl) : PG X (.Tuple es k pos) (gTup K n t) := hK ▸ pg_tup hc h hn hst
end Fx
namespace Fx
open PySem PySem.Spec PyProof.Rows L2
/-- what follows an expression is a word of its own -/
theorem cute_ {t : TE} {σ : L2.St} {H : Hp} {Q : VK} (h : ∀ N : VK, (∀ v H1, Q v H1 → N v H1) → t σ H N) : t σ H Q := h _ fun _ _ x => x
end Fx
namespace Fx
open PySem PySem.Spec PyProof.Rows L2
def fClear : V → List V → Hp → VK → Prop := fun x vs H Q => match x, vs with
  | .ref l, [] => match H l with
    | some (.lst _) => Q .non (upd H l (.lst []))
    | _ => False
  | _, _ => False
theorem mt_fClear {X : Cx} : MtR X "list.clear" fClear := by
  intro pins s σ H x xs v us Q I rx rs h
  unfold fClear at h
  split at h
  · split at h
    · exact mt_clear pins s σ H _ _ v us Q I rx rs ⟨_, _, rfl, rfl, by assumption, h⟩
    · exact h.elim
  · exact h.elim
end Fx

set_option Elab.async false
set_option linter.all false
set_option maxRecDepth 100000
set_option maxHeartbeats 1000000
/-! Hd: heads: what the top leaves, read off by one run of the kernel. -/
namespace Hd
open PySem PySem.Spec PyProof.Rows L2 Fx
/-! ### facts as tests -/
def opB (K : PySem.W.Frag) (C : Addr) : Bool := PySem.W.plainGet K C Str.empty && (PySem.W.hasDictIn K C && (PySem.W.plainOver K C && (decide (PySem.W.findIn K (.ref C) "__setattr__" = some (some (.builtin "object.__setattr__"))) &&
  (decide (PySem.W.findIn K (.ref C) "__class__" = some (some (.builtin "object.__class__"))) && (decide (PySem.W.mroIn K C (.type "object") = some true) && (PySem.W.makesIn K C && PySem.W.keepIn K (.ref C)))))))
theorem opB_ok {K : PySem.W.Frag} {C : Addr} (h : opB K C = true) : ClsFact K C := by
  simp only [opB, Bool.and_eq_true, decide_eq_true_eq] at h
  obtain ⟨h1, h2, h3, h4, h5, h6, h7, h8⟩ := h
  exact ⟨h1, h2, h3, h4, h5, h6, h7, h8⟩
/-- an exception class of the program -/
def exB (K : PySem.W.Frag) (C : Addr) : Bool := (match K.lookup C with
  | some ⟨.type t, _, .cls cd, sl⟩ => decide (t = "type") && (match cd.mro, sl.toList with
    | .ref D :: bm, [_, _, _, _, some (.builtin n), _] => decide (D = C) && (decide (n = "ValueError.__new__") && (!cd.hasDel && (cd.hasDict && PySem.HandSPX.refsVE bm)))
    | _, _ => false)
  | _ => false) && (decide (PySem.W.findIn K (.ref C) "__setattr__" = some (some (.builtin "object.__setattr__"))) && (decide (PySem.W.findIn K (.ref C) "__getattribute__" = some (some (.builtin "BaseException.__getattribute__"))) &&
  (decide (PySem.W.findIn K (.ref C) "__getattr__" = some none) && (decide (PySem.W.subIn K (.ref C) (.type "BaseException") = some true) && (decide (PySem.W.typeIn K (.ref C) = some (.type "type")) && (PySem.W.keepIn K (.ref C) && (PySem.W.hasDictIn K C &&
  (decide (PySem.W.findIn K (.ref C) "__class__" = some (some (.builtin "object.__class__"))) && decide (PySem.W.mroIn K C (.type "object") = some true)))))))))
theorem exB_ok {K : PySem.W.Frag} {C : Addr} (h : exB K C = true) : ExcFact K C := by
  obtain ⟨h0, h⟩ := Bool.and_eq_true_iff.mp h
  simp only [Bool.and_eq_true, decide_eq_true_eq] at h
  obtain ⟨h1, h2, h3, h4, h5, h6, h7, h8, h9⟩ := h
  refine ⟨?_, h1, h2, h3, h4, h5, h6, h7, h8, h9⟩
  split at h0
  · rename_i t dd cd sl lk
    obtain ⟨g1, g2⟩ := Bool.and_eq_true_iff.mp h0
    have g1 := of_decide_eq_true g1
    subst g1
    split at g2
    · rename_i D bm k0 k1 k2 k3 n k5 hm hs
      simp only [Bool.and_eq_true, decide_eq_true_eq, Bool.not_eq_true'] at g2
      obtain ⟨rfl, rfl, e3, e4, e5⟩ := g2
      obtain ⟨nm, bs, mro, ns, qn, hd, sn, sub, ab, col, del⟩ := cd
      obtain ⟨sl⟩ := sl
      dsimp only at hm hs e3 e4
      subst hm hs e3 e4
      exact ⟨_, _, _, _, _, _, _, _, _, _, _, _, _, _, _, lk, e5⟩
    · cases g2
  · cases h0
/-- the getter of a property -/
def pa (K : PySem.W.Frag) (C : Addr) (x : Str) : Addr := match PySem.W.recIn K (He.ma K C x) "property" with
  | some (.ref f :: _) => f
  | _ => 0
/-- a name that stands for nothing, an object, a number, a text, a tuple -/
inductive Fh where
  | glo (x : Str)
  | free (x : Str)
  | int (x : Str) (i : Int)
  | str (x z : Str)
  | tup (x : Str) (vs : List V)
  | cls (x : Str)
  | exc (x : Str)
  | noat (x f : Str)
  | sub (x y : Str) (b : Bool)
  | kit (x y : Str) (b : Bool)
  | kio (x y : Str)
  | kib (n : String) (y : Str)
  | kob (x : Str) (n : String)
  | obj
  | ne (x y : Str)
  | keep (x : Str)
  | meth (x m : Str)
  | init (x : Str)
  | prop (x m : Str)
  | dict (x : Str) (ks : List (Str × Option V))
  | dicT (x : Str) (ks : List (Str × Option (List V)))
def entB (K : PySem.W.Frag) (d : Addr) : Str × Option V → Bool
  | (z, none) => He.eqO (PySem.W.nsIn K d z) (some none)
  | (z, some v) => match PySem.W.nsIn K d z with
    | some (some u) => He.relB v u
    | _ => false
def tupAt (K : PySem.W.Frag) (a : Addr) (vs : List V) : Bool := match K.lookup a with
  | some ⟨.type c, _, .seq its _, _⟩ => decide (c = "tuple") && (decide (its.size ≤ 1000) && He.relAll vs its.toList)
  | _ => false
def enTB (K : PySem.W.Frag) (d : Addr) : Str × Option (List V) → Bool
  | (z, none) => He.eqO (PySem.W.nsIn K d z) (some none)
  | (z, some vs) => match PySem.W.nsIn K d z with
    | some (some (.ref a)) => tupAt K a vs
    | _ => false
def dicB (K : PySem.W.Frag) (d : Addr) : Bool := (match K.lookup d with
  | some ⟨.type c, none, .dict _ _, sl⟩ => decide (c = "dict") && decide (sl.toList.length = 0)
  | _ => false) && !(d == sysModules)
open He (ga ma eqO)
def Fh.ok (K : PySem.W.Frag) : Fh → Bool
  | .glo x => eqO (PySem.W.nsIn K mainGlobals x) (some (some (.ref (ga K x))))
  | .free x => eqO (PySem.W.nsIn K mainGlobals x) (some none)
  | .int x i => (match PySem.W.nsIn K mainGlobals x with
    | some (some u) => He.relB (.int i) u
    | _ => false)
  | .str x z => (match PySem.W.nsIn K mainGlobals x with
    | some (some u) => He.relB (.str z) u
    | _ => false)
  | .tup x vs => tupAt K (ga K x) vs
  | .cls x => opB K (ga K x)
  | .exc x => exB K (ga K x)
  | .noat x f => eqO (PySem.W.findIn K (.ref (ga K x)) f) (some none)
  | .sub x y b => decide (PySem.W.subIn K (.ref (ga K x)) (.ref (ga K y)) = some b)
  | .kit x y b => decide (PySem.W.kitOne K (.ref (ga K x)) (.ref (ga K y)) = some b)
  | .kio x y => decide (PySem.W.kitOne K (.ref (ga K x)) (.ref (ga K y)) = some (decide (ga K x = ga K y)))
  | .kib n y => decide (PySem.W.kitOne K (.type n) (.ref (ga K y)) = some false)
  | .kob x n => decide (PySem.W.kitOne K (.ref (ga K x)) (.type n) = some false)
  | .obj => decide (PySem.W.specialIn K (.builtin "object.__class__") "__get__" = some (some (.builtin "getset_descriptor.__get__"))) && decide (PySem.W.takesIn K (.builtin "object.__class__") = some true)
  | .ne x y => decide (ga K x ≠ ga K y)
  | .keep x => PySem.W.keepIn K (.ref (ga K x))
  | .meth x m => eqO (PySem.W.findIn K (.ref (ga K x)) m) (some (some (.ref (ma K (ga K x) m)))) && (PySem.W.keepIn K (.ref (ma K (ga K x) m)) && PySem.W.isFn K (.ref (ma K (ga K x) m)))
  | .init x => eqO (PySem.W.findIn K (.ref (ga K x)) "__init__") (some (some (.ref (ma K (ga K x) "__init__")))) && (PySem.W.keepIn K (.ref (ma K (ga K x) "__init__")) && decide (PySem.W.typeIn K (.ref (ma K (ga K x) "__init__")) = some (.type "function")))
  | .prop x m => eqO (PySem.W.findIn K (.ref (ga K x)) m) (some (some (.ref (ma K (ga K x) m)))) && (decide (PySem.W.specialIn K (.ref (ma K (ga K x) m)) "__get__" = some (some (.builtin "property.__get__"))) && (decide (PySem.W.takesIn K (.ref (ma K (ga K x) m)) = some true) &&
    ((match PySem.W.recIn K (ma K (ga K x) m) "property" with
      | some (.ref _ :: _) => true
      | _ => false) && PySem.W.keepIn K (.ref (pa K (ga K x) m)))))
  | .dict x ks => dicB K (ga K x) && ks.all (entB K (ga K x))
  | .dicT x ks => dicB K (ga K x) && ks.all (enTB K (ga K x))
/-! ### functions -/
inductive At_ where
  | glo (x : Str)
  | meth (x m : Str)
  | prop (x m : Str)
def At_.ad (K : PySem.W.Frag) : At_ → Addr
  | .glo x => ga K x
  | .meth x m => ma K (ga K x) m
  | .prop x m => pa K (ga K x) m
structure Df where
  at_ : At_
  name : Str
  qual : Str
  st : Stmt
abbrev FV : Type := Option (Str × Str × Arguments × FuncBody × Scope × Addr × List (Str × Addr) × Value × Addr)
def fv (K : PySem.W.Frag) (a : Addr) : FV := match K.lookup a with
  | some o => match o.data with
    | .func g => some (g.name, g.qualname, g.params, g.body, g.scope, g.globals, g.closure, g.defaults, g.builtins)
    | _ => none
  | none => none
def fc (K : PySem.W.Frag) (a : Addr) (q : Str) : Bool := match K.lookup a with
  | some o => match o.data with
    | .func g => PySem.W.codeIn K g.code q
    | _ => false
  | none => false
def Df.val (d : Df) : FV := some (d.name, d.qual, defArgs d.st, .stmts (defBody d.st), defScope d.st, mainGlobals, [], .none, builtinsNs)
theorem fv_ok {K : PySem.W.Frag} {a : Addr} {d : Df} (e : fv K a = d.val) (c : fc K a d.qual = true) :
    ∃ oc od sl kV dc pm an cd ct, K.lookup a = some ⟨oc, od, .func (PySem.W.fnOf d.name d.qual (defArgs d.st) (defBody d.st) (defScope d.st) .none kV dc pm an cd ct), sl⟩ ∧ PySem.W.codeIn K cd d.qual = true := by
  unfold fv at e
  unfold fc at c
  split at e
  · rename_i o lk
    rw [lk] at c
    obtain ⟨oc, od, dt, sl⟩ := o
    dsimp only at e c
    split at e
    · rename_i g
      obtain ⟨m1, m2, m3, m4, m5, m6, m7, m8, m9, m10, m11, m12, m13, m14, m15⟩ := g
      unfold Df.val at e
      simp only [Option.some.injEq, Prod.mk.injEq] at e
      obtain ⟨g1, g2, g3, g4, g5, g6, g7, g8, g9⟩ := e
      subst g1 g2 g3 g4 g5 g6 g7 g8 g9
      exact ⟨oc, od, sl, m9, m10, m11, m12, m13, m14, lk, c⟩
    · cases e
  · cases e
/-! ### dicts: their keys -/
def keyT (e : DictEntry) : Int × Option Str := (e.hash, match e.key with | .str x _ => some x | _ => none)
def dk (K : PySem.W.Frag) (d : Addr) : List (Int × Option Str) := match K.lookup d with
  | some o => match o.data with
    | .dict es _ => es.toList.map keyT
    | _ => []
  | none => []
theorem keys_lit {P : Params} : ∀ {es : List DictEntry} {ks : List Str}, es.map keyT = ks.map (fun z => (PyData.keyHash P z, some z)) → PySem.W.KeysLit P es
  | [], _, _ => trivial
  | e :: es, [], h => by cases h
  | e :: es, k :: ks, h => by
    rw [List.map_cons, List.map_cons] at h
    obtain ⟨h1, h2⟩ := List.cons.inj h
    unfold keyT at h1
    obtain ⟨h3, h4⟩ := Prod.mk.inj h1
    refine ⟨?_, keys_lit h2⟩
    split at h4
    · rename_i x t ek
      cases h4
      exact ⟨k, t, ek, h3⟩
    · cases h4
/-! ### the Hook -/
/-- what these objects reach in n steps, front by front -/
def asF (g : Addr → Option Obj) : Nat → List Addr → List Addr
  | 0, fr => fr
  | n + 1, fr => fr ++ asF g n (fr.flatMap fun a => match g a with
    | some o => He.refsD o
    | none => [])
/-- what these names of the module reach -/
def asN (g : Addr → Option Obj) (n : Nat) (xs : List Str) : List Addr := mainGlobals :: asF g n (xs.map (He.ga (He.frG g [mainGlobals])))
abbrev Al : Type := Bool × List FV × List (List (Int × Option Str))
def obsK (fa : List Fh) (fn : List Df) (ds : List (Str × List Str)) (K : PySem.W.Frag) : Al := ((fa.all fun f => f.ok K) && fn.all fun d => fc K (d.at_.ad K) d.qual, fn.map fun d => fv K (d.at_.ad K), ds.map fun d => dk K (ga K d.1))
def valK (w : World) (fn : List Df) (ds : List (Str × List Str)) : Al := (true, fn.map Df.val, ds.map fun d => d.2.map fun z => (PyData.keyHash w.params z, some z))
def Says (fa : List Fh) (fn : List Df) (ds : List (Str × List Str)) (w : World) (K : PySem.W.Frag) : Prop := obsK fa fn ds K = valK w fn ds
def obsG (n : Nat) (xs : List Str) (fa : List Fh) (fn : List Df) (ds : List (Str × List Str)) (g : Addr → Option Obj) : Al := obsK fa fn ds (He.frG g (asN g n xs))
def hook (n : Nat) (xs : List Str) (fa : List Fh) (fn : List Df) (ds : List (Str × List Str)) : PySem.W.Hook where
  α := Al
  obs := fun s => obsG n xs fa fn ds s.heap.get?
  val := fun w => valK w fn ds
  says := fun w h => ∃ K : PySem.W.Frag, K.In h ∧ Says fa fn ds w K
  of := fun _ _ e => ⟨_, He.frG_in, e⟩
  keeps := fun _ _ _ ⟨K, hK, c⟩ k => ⟨K, PySem.W.Frag.In.keeps hK k, c⟩
theorem obsG_eq {n : Nat} {xs : List Str} {fa : List Fh} {fn : List Df} {ds : List (Str × List Str)} {g : Addr → Option Obj} {s : Shared} (h : ∀ a, g a = s.heap.get? a) : obsG n xs fa fn ds g = (hook n xs fa fn ds).obs s := by
  rw [funext h]; rfl
section
variable {fa : List Fh} {fn : List Df} {ds : List (Str × List Str)} {K : PySem.W.Frag} {w : World}
theorem Says.fact (c : Says fa fn ds w K) (i : Nat) {f : Fh} (h : fa[i]? = some f) : f.ok K = true := by
  have c1 : ((fa.all fun f => f.ok K) && fn.all fun d => fc K (d.at_.ad K) d.qual) = true := congrArg (fun z : Al => z.1) c
  exact List.all_eq_true.mp (Bool.and_eq_true_iff.mp c1).1 f (List.mem_of_getElem? h)
theorem Says.def_ (c : Says fa fn ds w K) (i : Nat) {d : Df} (h : fn[i]? = some d) : ∃ oc od sl kV dc pm an cd ct, K.lookup (d.at_.ad K) = some ⟨oc, od, .func (PySem.W.fnOf d.name d.qual (defArgs d.st) (defBody d.st) (defScope d.st) .none kV dc pm an cd ct), sl⟩ ∧ PySem.W.codeIn K cd d.qual = true := by
  have c1 : ((fa.all fun f => f.ok K) && fn.all fun d => fc K (d.at_.ad K) d.qual) = true := congrArg (fun z : Al => z.1) c
  have c2 : fn.map (fun d => fv K (d.at_.ad K)) = fn.map Df.val := congrArg (fun z : Al => z.2.1) c
  have e : (fn.map fun d => fv K (d.at_.ad K))[i]? = (fn.map Df.val)[i]? := by rw [c2]
  rw [List.getElem?_map, List.getElem?_map, h] at e
  exact fv_ok (Option.some.inj e) (List.all_eq_true.mp (Bool.and_eq_true_iff.mp c1).2 d (List.mem_of_getElem? h))
theorem Says.dic (c : Says fa fn ds w K) (i : Nat) {d : Str × List Str} (h : ds[i]? = some d) : dk K (ga K d.1) = d.2.map fun z => (PyData.keyHash w.params z, some z) := by
  have c2 : ds.map (fun d => dk K (ga K d.1)) = ds.map fun d => d.2.map fun z => (PyData.keyHash w.params z, some z) := congrArg (fun z : Al => z.2.2) c
  have e : (ds.map fun d => dk K (ga K d.1))[i]? = (ds.map fun d => d.2.map fun z => (PyData.keyHash w.params z, some z))[i]? := by rw [c2]
  rw [List.getElem?_map, List.getElem?_map, h] at e
  exact Option.some.inj e
/-! ### what the walks ask -/
theorem glo_ {x : Str} (h : (Fh.glo x).ok K = true) : PySem.W.nsIn K mainGlobals x = some (some (.ref (ga K x))) := He.eqO_ok h
theorem free_ {x : Str} (h : (Fh.free x).ok K = true) : PySem.W.nsIn K mainGlobals x = some none := He.eqO_ok h
theorem int_ {x : Str} {i : Int} (h : (Fh.int x i).ok K = true) : ∃ t, PySem.W.nsIn K mainGlobals x = some (some (.int i t)) := by
  have h' : (match PySem.W.nsIn K mainGlobals x with | some (some u) => He.relB (.int i) u | _ => false) = true := h
  split at h'
  · rename_i u e
    obtain ⟨t, rfl⟩ := He.relB_ok h'
    exact ⟨t, e⟩
  · cases h'
theorem str_ {x z : Str} (h : (Fh.str x z).ok K = true) : ∃ t, PySem.W.nsIn K mainGlobals x = some (some (.str z t)) := by
  have h' : (match PySem.W.nsIn K mainGlobals x with | some (some u) => He.relB (.str z) u | _ => false) = true := h
  split at h'
  · rename_i u e
    obtain ⟨t, rfl⟩ := He.relB_ok h'
    exact ⟨t, e⟩
  · cases h'
theorem tupAt_ok {a : Addr} {vs : List V} (h : tupAt K a vs = true) : ∀ H, SqT K H a vs := fun H => by
  unfold tupAt at h
  split at h
  · rename_i cc od its n sl lk
    simp only [Bool.and_eq_true, decide_eq_true_eq] at h
    obtain ⟨rfl, h2, h3⟩ := h
    exact .inr ⟨_, its, n, lk, rfl, rfl, Nat.le_trans h2 (by decide), He.relAll_ok h3⟩
  · cases h
/-- a tuple of the module, by its address -/
theorem tup_get {mg : Str → Option Value} {hp : Heap} {x : Str} {vs : List V} (X : K.In hp) (G : hp.Ns mainGlobals mg) (g : (Fh.glo x).ok K = true) (h : (Fh.tup x vs).ok K = true) : GTup K mg x vs := ⟨ga K x, PySem.W.mg_of X G (glo_ g), tupAt_ok h⟩
theorem cls_ {x : Str} (h : (Fh.cls x).ok K = true) : ClsFact K (ga K x) := opB_ok h
theorem exc_ {x : Str} (h : (Fh.exc x).ok K = true) : ExcFact K (ga K x) := exB_ok h
theorem noat_ {x f : Str} (h : (Fh.noat x f).ok K = true) : PySem.W.findIn K (.ref (ga K x)) f = some none := He.eqO_ok h
theorem sub_ {x y : Str} {b : Bool} (h : (Fh.sub x y b).ok K = true) : PySem.W.subIn K (.ref (ga K x)) (.ref (ga K y)) = some b := of_decide_eq_true h
theorem kit_ {x y : Str} {b : Bool} (h : (Fh.kit x y b).ok K = true) : PySem.W.kitOne K (.ref (ga K x)) (.ref (ga K y)) = some b := of_decide_eq_true h
theorem kio_ {x y : Str} (h : (Fh.kio x y).ok K = true) : PySem.W.kitOne K (.ref (ga K x)) (.ref (ga K y)) = some (decide (ga K x = ga K y)) := of_decide_eq_true h
theorem kib_ {n : String} {y : Str} (h : (Fh.kib n y).ok K = true) : PySem.W.kitOne K (.type n) (.ref (ga K y)) = some false := of_decide_eq_true h
theorem kob_ {x : Str} {n : String} (h : (Fh.kob x n).ok K = true) : PySem.W.kitOne K (.ref (ga K x)) (.type n) = some false := of_decide_eq_true h
theorem obj_ (h : Fh.obj.ok K = true) : ObjFact K := by
  have h : (decide (PySem.W.specialIn K (.builtin "object.__class__") "__get__" = some (some (.builtin "getset_descriptor.__get__"))) && decide (PySem.W.takesIn K (.builtin "object.__class__") = some true)) = true := h
  obtain ⟨h1, h2⟩ := Bool.and_eq_true_iff.mp h
  exact ⟨of_decide_eq_true h1, of_decide_eq_true h2⟩
theorem ne_ {x y : Str} (h : (Fh.ne x y).ok K = true) : ga K x ≠ ga K y := of_decide_eq_true h
theorem fn_ {x : Str} {qual : Str} {st : Stmt} (c : Says fa fn ds w K) (i j k : Nat) (h : fn[i]? = some ⟨.glo x, x, qual, st⟩) (g : fa[j]? = some (.glo x)) (p : fa[k]? = some (.keep x)) : FnFact K x qual st := by
  obtain ⟨oc, od, sl, kV, dc, pm, an, cd, ct, l, e⟩ := c.def_ i h
  exact FnFact.of (glo_ (c.fact j g)) l e (c.fact k p)
theorem meth_ {x m : Str} {qual : Str} {st : Stmt} (c : Says fa fn ds w K) (i j : Nat) (h : fn[i]? = some ⟨.meth x m, m, qual, st⟩) (g : fa[j]? = some (.meth x m)) : MFact K (ga K x) m qual st := by
  obtain ⟨oc, od, sl, kV, dc, pm, an, cd, ct, l, e⟩ := c.def_ i h
  have g := c.fact j g
  obtain ⟨g1, g⟩ := Bool.and_eq_true_iff.mp g
  obtain ⟨g2, g3⟩ := Bool.and_eq_true_iff.mp g
  exact MFact.of (He.eqO_ok g1) l e g2 g3
theorem init_ {x : Str} {qual : Str} {st : Stmt} (c : Says fa fn ds w K) (i j : Nat) (h : fn[i]? = some ⟨.meth x "__init__", "__init__", qual, st⟩) (g : fa[j]? = some (.init x)) : EFact K (ga K x) qual st := by
  obtain ⟨oc, od, sl, kV, dc, pm, an, cd, ct, l, e⟩ := c.def_ i h
  have g := c.fact j g
  obtain ⟨g1, g⟩ := Bool.and_eq_true_iff.mp g
  obtain ⟨g2, g3⟩ := Bool.and_eq_true_iff.mp g
  exact EFact.of (He.eqO_ok g1) l e g2 (of_decide_eq_true g3)
theorem prop_ {x m : Str} {qual : Str} {st : Stmt} (c : Says fa fn ds w K) (i j : Nat) (h : fn[i]? = some ⟨.prop x m, m, qual, st⟩) (g : fa[j]? = some (.prop x m)) : PFact K (ga K x) m qual st := by
  obtain ⟨oc, od, sl, kV, dc, pm, an, cd, ct, l, e⟩ := c.def_ i h
  have g := c.fact j g
  obtain ⟨g1, g⟩ := Bool.and_eq_true_iff.mp g
  obtain ⟨g2, g⟩ := Bool.and_eq_true_iff.mp g
  obtain ⟨g3, g⟩ := Bool.and_eq_true_iff.mp g
  obtain ⟨g4, g5⟩ := Bool.and_eq_true_iff.mp g
  have l : K.lookup (pa K (ga K x) m) = _ := l
  have g5 : PySem.W.keepIn K (.ref (pa K (ga K x) m)) = true := g5
  split at g4
  · rename_i f rest er
    have ep : pa K (ga K x) m = f := by unfold pa; rw [er]
    rw [ep] at l g5
    exact PFact.of (He.eqO_ok g1) (of_decide_eq_true g2) (of_decide_eq_true g3) er l e g5
  · cases g4
theorem dic_ent {d : Addr} : ∀ {ks : List (Str × Option V)}, ks.all (entB K d) = true → ∀ p ∈ ks, EntOk K d p := fun h p m => by
  have h1 := List.all_eq_true.mp h p m
  obtain ⟨z, o⟩ := p
  cases o with
  | none => exact He.eqO_ok h1
  | some v =>
    have h2 : (match PySem.W.nsIn K d z with | some (some u) => He.relB v u | _ => false) = true := h1
    split at h2
    · rename_i u e
      exact ⟨u, e, He.relB_ok h2⟩
    · cases h2
theorem dic_enT {d : Addr} : ∀ {ks : List (Str × Option (List V))}, ks.all (enTB K d) = true → ∀ p ∈ ks, EntT K d p := fun h p m => by
  have h1 := List.all_eq_true.mp h p m
  obtain ⟨z, o⟩ := p
  cases o with
  | none => exact He.eqO_ok h1
  | some v =>
    have h2 : (match PySem.W.nsIn K d z with | some (some (.ref a)) => tupAt K a v | _ => false) = true := h1
    split at h2
    · rename_i a e
      exact ⟨a, e, tupAt_ok h2⟩
    · cases h2
theorem dic_at {x : Str} {ks : List Str} (e : dk K (ga K x) = ks.map fun z => (PyData.keyHash w.params z, some z)) (h : dicB K (ga K x) = true) : ∃ es n, KDict K w (ga K x) es n := by
  obtain ⟨h1, h2⟩ := Bool.and_eq_true_iff.mp h
  unfold dk at e
  split at h1
  · rename_i cc es n sl lk
    rw [lk] at e
    simp only [Bool.and_eq_true, decide_eq_true_eq] at h1
    obtain ⟨rfl, h3⟩ := h1
    have h4 : sl = #[] := by
      obtain ⟨sl⟩ := sl
      have : sl = [] := List.eq_nil_of_length_eq_zero h3
      rw [this]
    subst h4
    exact ⟨es, n, lk, keys_lit e, by simpa using h2⟩
  · cases h1
theorem dict_ {x : Str} {ks : List Str} {es : List (Str × Option V)} (c : Says fa fn ds w K) (i j k : Nat) (h : ds[i]? = some (x, ks)) (g : fa[j]? = some (.glo x)) (p : fa[k]? = some (.dict x es)) : GDictF K w x es := by
  obtain ⟨p1, p2⟩ := Bool.and_eq_true_iff.mp (c.fact k p)
  exact ⟨_, glo_ (c.fact j g), dic_at (c.dic i h) p1, dic_ent p2⟩
theorem dicT_ {x : Str} {ks : List Str} {es : List (Str × Option (List V))} (c : Says fa fn ds w K) (i j k : Nat) (h : ds[i]? = some (x, ks)) (g : fa[j]? = some (.glo x)) (p : fa[k]? = some (.dicT x es)) : GDictTF K w x es := by
  obtain ⟨p1, p2⟩ := Bool.and_eq_true_iff.mp (c.fact k p)
  exact ⟨_, glo_ (c.fact j g), dic_at (c.dic i h) p1, dic_enT p2⟩
end
end Hd

set_option Elab.async false
set_option linter.all false
set_option maxRecDepth 100000
set_option maxHeartbeats 1000000
/-! Wr: text.replace of written texts, loops over enumerate. -/
namespace Fx
open PySem PySem.Spec PyProof.Rows L2
section
variable {X : Cx}
/-- e.replace("a", "b") by value -/
def fReplC (to : TE) (y z : Str) : TE := fun σ H Q => to σ H fun v H1 => match v with
  | .str x => x.length + (x.length + 1) * z.length ≤ 16777216 ∧ Q (.str (Txt.replace x y z)) H1
  | _ => False
theorem pet_wk {e : Expr} {t t' : TE} (h : PET X e t) (wk : ∀ σ H Q, t' σ H Q → t σ H Q) : PET X e t' := fun pins s σ H Q h0 I q => h pins s σ H Q h0 I (wk σ H Q q)
theorem pet_clos {e : Expr} {t : TE} (h : PET X e t) : PET X e (clos t) := fun pins s σ H Q h0 I ⟨Q0, q, wk⟩ => wpAny_mono (h pins s σ H Q0 h0 I q) (fun u s' ⟨v, H', I', r, q⟩ => ⟨v, H', I', r, wk v H' q⟩) fun _ _ x => x
theorem fet_repl {o : Expr} {to : TE} {y z : Str} {j k : Nat} {c0 c1 apos pos : Pos} (ho : PET X o to) (hyz : (y == z) = false)
    (hst : starEach [.Constant (.str y) j c0, .Constant (.str z) k c1] X.env = [(false, eval (.Constant (.str y) j c0) X.env), (false, eval (.Constant (.str z) k c1) X.env)] := by rfl)
    (hbase : attributeBase o "replace" X.env (eval o X.env) = eval o X.env := by rfl) (hline : (apos.endLine == pos.line) = true := by rfl) :
    PET X (.Call (.Attribute o "replace" apos) [.Constant (.str y) j c0, .Constant (.str z) k c1] [] pos) (fReplC to y z) :=
  pet_wk (CwR.pet_replT (pet_clos ho) hyz hst hbase hline) fun σ H Q q => ⟨_, q, fun v H1 q => by
    split at q
    · exact ⟨_, rfl, q⟩
    · exact q.elim⟩
/-- i ** j, small -/
def fPow : R2 := fun x y H Q => match x, y with
  | .int i, .int j => (0 ≤ j ∧ j ≤ 1000000 ∧ i.natAbs < 18446744073709551616) ∧ Q (.int (i ^ j.toNat)) H
  | _, _ => False
theorem op_fPow : OpR X (binaryOp .Pow) fPow := by
  intro pins s σ H x y v u Q I rx ry h
  match x, y, rx, ry, h with
  | .int i, .int j, rx, ry, h => exact op_pow pins s σ H _ _ v u Q I rx ry ⟨i, j, rfl, rfl, h.1, h.2⟩
/-- x = e, e with a token -/
theorem pst_set {i : Nat} {x : Str} {e : Expr} {te : TE} {pos pos' : Pos} (hN : X.N.Nodup) (hi : X.N[i]? = some x) (hx : Loc X.env.scope x) (he : PET X e te) (hs : swapsWith e (some (.Name x pos')) pos.line X.env = pure false) (hf : X.fn x = true ∨ X.env.scope.names.lookup x = some .local := by first | exact .inl rfl | exact .inr rfl | assumption) :
    PST X (.Assign [.Name x pos'] e pos) (tAsg te (gName i)) := fun pins s σ H D h0 I h =>
  wpAny_Assign_Name (thn (he pins s σ H _ h0 I h) fun _ s1 ⟨_, H1, I1, r1, q1⟩ => store_ok I1 hN hi hx r1 (fun _ I2 => ⟨_, H1, I2, q1⟩) hf) hs
end
section
variable {P : Program} {w : World} {K : PySem.W.Frag} {mg : Str → Option Value} {base : Heap}
/-- a def whose body takes a token -/
theorem hasT_of {x qual : Str} {st : Stmt} {N ps : List Str} {k : Nat} {sp : Sp} (A : At K mg x qual st ps) (S : FnScope N ps (defScope st)) (hnc : ∀ y ∈ (defScope st).names, y.2 ≠ .cell) (hps : 1 ≤ ps.length) (len : ∀ vs H Q E, sp vs H Q E → vs.length = ps.length)
    (hbody : ∀ (cdv : Value) (f : Addr) (A : Around) (outer : List Env) (s : Shared) (H : Hp) (vs : List V) (Q : VK) (E : XK), Room k (A.deeper (envOfC qual (defScope st) s.heap.objs.size f cdv)) → sp vs H Q E →
      ∃ t, PSsT (cxOf CX0 P w K mg base N qual (defScope st) f cdv A outer s H E) (defBody st) t ∧ t { nx := fun _ H' => Q .non H', rt := Q } (start N vs) H) : Has P w K mg base CX0 x (k + 1) ps sp := by
  obtain ⟨f, fd, F, B, G⟩ := A.ex
  have F2 := F
  obtain ⟨oc, od, kV, doc, pm, an, cdv, ct, osl, rfl, lk, hcd⟩ := F.ex
  exact ⟨f, _, fn_ofT lk hcd S hnc hps len fun A outer s H vs Q E hr hsp => hbody cdv f A outer s H vs Q E hr hsp, B, G, F2.kp⟩
end
/-- the loop of for at, x in enumerate(xs) -/
theorem loop_enum {K : PySem.W.Frag} {a : Addr} {xs : List V} {g : TG} {tb : TS} {D : Ends} {σ : L2.St} {H : Hp} (Pv : Nat → L2.St → Hp → Prop) (h0 : Pv 0 σ H) (hl : ∀ i σ H, i ≤ xs.length → Pv i σ H → SqL K H a xs)
    (hs : ∀ (i : Nat) x T σ H, xs[i]? = some x → Pv i σ H → H T = none → g (.ref T) σ (upd H T (.tup [.int (i : Nat), x])) fun σ2 H2 => tb { D with nx := Pv (i + 1), ct := Pv (i + 1), bk := D.nx } σ2 H2) (hd : ∀ σ H, Pv xs.length σ H → D.nx σ H) : Loop (Ite K a) g tb D σ H :=
  L2.for_it walk_enum Pv h0 hl (fun i x σ H H' hi p y => by
    obtain ⟨T, u, v, e1, e2, e3, e4, e5⟩ := y
    cases e4
    subst e1
    rw [e3]
    exact hs i v T σ H e5 p e2) hd
end Fx

set_option Elab.async false
set_option linter.all false
set_option maxRecDepth 100000
set_option maxHeartbeats 1000000
/-! Oq: == and != of tuples whose items have an own __eq__. -/
namespace GN
open PySem PySem.SeqAt
open AutoSeq1 (wpAny_loadPart')
open MeetsSeq MeetsSeq2 MeetsSeq3 SeqRoads2
section
variable {prog : Program} {w : World} {A : Around} {R : Result → Shared → Prop} {E : Value → Shared → Prop} {s : Shared}
/-- != of two tuples of one length whose items turn out equal, one after another -/
theorem tup_ne (l b : Addr) (xs ys : Array Value) (n m : Nat) (dd ee : Option Addr) (sl tl : Array (Option Value)) (hsz : xs.size = ys.size) (I : Nat → Shared → Prop)
    (step : ∀ i (h1 : i < xs.size) (h2 : i < ys.size) s, I i s → wpAny (model prog w) A.in1 (eqBool xs[i] ys[i]) (fun r s' => r = true ∧ I (i + 1) s') (fun e s' => R (.error e) s') s)
    (last : ∀ s, I xs.size s → R (.ok (.ret (.bool false))) s) {s : Shared} (hl1 : s.heap.get? l = some { cls := .type "tuple", dict := dd, data := .seq xs n, slots := sl }) (hb1 : s.heap.get? b = some { cls := .type "tuple", dict := ee, data := .seq ys m, slots := tl }) (h : I 0 s) :
    wpAny (model prog w) A.in1 (Builtin.«tuple.__ne__» ⟨[.ref l, .ref b], []⟩) (GQ.FinOf prog w A R) (fun e s' => R (.error e) s') s := by
  have f2 := AutoSeq1.sub_tuple_tuple
  have hZ : (xs.toList.zip ys.toList).length = xs.size := by simp [hsz]
  have h0 := h
  obtain ⟨hp, g, d, tk, os⟩ := s
  wp_walk using wpAny_loadPart' hl1, wpAny_loadPart' hb1, wpAny_forIn_list _ (fun rest b s' => b.1 = none ∧ ∃ i, rest = (xs.toList.zip ys.toList).drop i ∧ i ≤ xs.size ∧ I i s') _
  case turn =>
    rintro ⟨y, x⟩ rest b s' ⟨hb', i, hz, hi, hI⟩
    by_cases hlt : i < (xs.toList.zip ys.toList).length
    · have h1 : i < xs.size := hZ ▸ hlt
      rw [List.drop_eq_getElem_cons hlt] at hz
      injection hz with hyx hrest
      have e1 : y = xs[i] := by simpa using congrArg Prod.fst hyx
      have e2 : x = ys[i]'(hsz ▸ h1) := by simpa using congrArg Prod.snd hyx
      subst e1 e2
      refine wpAny_bind (wpAny_mono (step i h1 (hsz ▸ h1) s' hI) (fun r s2 q => ?_) fun _ _ z => z)
      obtain ⟨rfl, q⟩ := q
      wp_walk
      exact ⟨rfl, i + 1, hrest, h1, q⟩
    · rw [List.drop_of_length_le (Nat.le_of_not_lt hlt)] at hz
      cases hz
  case fin =>
    rintro ⟨b1, b2⟩ s' ⟨hb', i, hz, hi, hI⟩
    simp only at hb'
    subst hb'
    have hge : ¬ i < (xs.toList.zip ys.toList).length := fun z => by rw [List.drop_eq_getElem_cons z] at hz; cases hz
    have hR : R (.ok (.ret (.bool false))) s' := last s' ((show i = xs.size by omega) ▸ hI)
    wp_walk
    simpa [Builtin.Tuple.tupleCompareSizes, hsz] using hR
  case h =>
    exact ⟨rfl, 0, rfl, Nat.zero_le _, h0⟩
theorem rc_ne {l b : Addr} {xs ys : Array Value} {Q : Value → Shared → Prop} (hsz : xs.size = ys.size) (hu : A.units < cLine) (I : Nat → Shared → Prop) (hl : s.heap.IsTuple l xs) (hb : s.heap.IsTuple b ys)
    (step : ∀ i (h1 : i < xs.size) (h2 : i < ys.size) s, I i s → wpAny (model prog w) A.in1 (eqBool xs[i] ys[i]) (fun r s' => r = true ∧ I (i + 1) s') E s)
    (last : ∀ s, I xs.size s → Q (.bool false) s) (h : I 0 s) : wpAny (model prog w) A (richCompare .NotEq (.ref l) (.ref b)) Q E s := by
  obtain ⟨⟨k1, dd, p1, sl⟩, ho, hc, n, hd⟩ := id hl
  obtain ⟨⟨k2, ee, p2, tl⟩, ho2, hc2, m, hd2⟩ := id hb
  simp only at hc hd hc2 hd2
  subst hc hd hc2 hd2
  refine wpAny_richCompare_same_room (op := .NotEq) ⟨_, ho, rfl⟩ ⟨_, ho2, rfl⟩ F.slot_tuple_ne (GQ.call_here F.slot_tuple_ne ⟨_, ho, rfl⟩ F.entry_tuple_ne (F.args_tuple_ne_2 _ _) ?_) hu
  exact tup_ne (R := wants (fun v s' => v ≠ .notImplemented ∧ Q v s') E) l b xs ys n m dd ee sl tl hsz I step (fun s' q => ⟨(fun x => nomatch x), last s' q⟩) ho ho2 h
end
end GN
namespace Fx
open PySem PySem.Spec PyProof.Rows L2
/-- what the own == says of two: that they are equal, now and later -/
def REq (sp : Sp) : Addr → Addr → Hp → Prop := fun a b H => ∀ H' Q E, Ext H H' → (∀ H2, Ext H' H2 → Q (.bl true) H2) → sp [.ref a, .ref b] H' Q E
def DEq (C : Addr) (sp : Sp) : Eqv := fun x y H => DFlat x y H ∨ DIns C (REq sp) x y H
/-- == (or !=) of two tuples whose items are equal, flat or by the own == of the class C -/
def fEqT (K : PySem.W.Frag) (C : Addr) (sp : Sp) (neg : Bool) : R2 := fun x y H Q => DTup K (DEq C sp) x y H ∧ ∀ H', Ext H H' → Q (.bl (!neg)) H'
theorem mon_DEq {C : Addr} {sp : Sp} : Mon (DEq C sp) := mon_flat.or (mon_ins fun a b H H' e r H2 Q E e2 q => r H2 Q E (e.trans e2) q)
theorem eqG_DEq {X : Cx} {CX : CXT} {C : Addr} {n : Nat} {ps : List Str} {sp : Sp} {E : XK} (h : HasM X.prog X.w X.K X.mg X.base CX C "__eq__" n ps sp) (hx : Passes CX X E) : EqG X n (DEq C sp) := by
  obtain ⟨f, fd, F, B, M⟩ := h.ex
  exact (eqG_flat.mono (Nat.zero_le _)).or (eqG_ins (F.imp fun vs H Q E q => by
    obtain ⟨a, b, rfl, r, k⟩ := q
    exact r H Q E Ext.rfl' k) M.at_ M.fn B hx)
theorem op_fNeT {X : Cx} {CX : CXT} {C : Addr} {n : Nat} {ps : List Str} {sp : Sp} {E : XK} (h : HasM X.prog X.w X.K X.mg X.base CX C "__eq__" n ps sp) (hr : Room (n + 1) X.A) (hx : Passes CX X E) : OpR X (compareOp .NotEq) (fEqT X.K C sp true) := by
  intro pins s σ H x y v u Q I rx ry q
  obtain ⟨⟨a, b, xs, ys, rfl, rfl, ha, hb, p⟩, q⟩ := q
  cases rx
  cases ry
  obtain ⟨its, r, e, z⟩ := I.tuple ha
  obtain ⟨its2, r2, e2, z2⟩ := I.tuple hb
  have hsz : its.toArray.size = its2.toArray.size := by rw [List.size_toArray, List.size_toArray, ← r.length, ← r2.length]; exact p.1
  show wpAny (model X.prog X.w) X.A (richCompare .NotEq (.ref a) (.ref b)) (EP X pins σ Q) X.xe s
  refine GN.rc_ne hsz hr.units0 (fun _ s' => LoopI X pins σ H s') e e2 (fun i h1 h2 s' q => turnG mon_DEq (eqG_DEq h hx) ⟨hr, rfl⟩ p r r2 i h1 h2 s' q) (fun s' l => ?_) ⟨H, I, Ext.rfl'⟩
  obtain ⟨H', I', e⟩ := l
  exact ⟨.bl false, H', I', rfl, q H' e⟩
theorem op_fEqT {X : Cx} {CX : CXT} {C : Addr} {n : Nat} {ps : List Str} {sp : Sp} {E : XK} (h : HasM X.prog X.w X.K X.mg X.base CX C "__eq__" n ps sp) (hr : Room (n + 1) X.A) (hx : Passes CX X E) : OpR X (compareOp .Eq) (fEqT X.K C sp false) := by
  intro pins s σ H x y v u Q I rx ry q
  exact op_eqG (rcG_tup mon_DEq (eqG_DEq h hx)) hr pins s σ H x y v u Q I rx ry q
end Fx

set_option Elab.async false
set_option linter.all false
set_option maxRecDepth 100000
set_option maxHeartbeats 2000000
/-! Hq: defs that raise nothing, called within an except suite (whatever its exception's own context is). -/
theorem L2H.RoomH.units {k : Nat} {A : PySem.Around} (r : L2H.RoomH k A) : A.units + 64 < PySem.cLine := by have := r.un; omega
namespace Fx
open PySem PySem.Spec PyProof.Rows L2 L2H
/-- what a def promises where some object is kept apart; it raises nothing -/
structure FnQ (P : Program) (w : World) (K : PySem.W.Frag) (mg : Str → Option Value) (base : Heap) (k : Nat) (f : Addr) (fd : FuncData) (ps : List Str) (sp : Sp) : Prop where
  len : ∀ vs H Q E, sp vs H Q E → vs.length = ps.length
  run : ∀ (A : Around) (outer : List Env) (s : Shared) (H : Hp) (args : Args) (us : List Value) (vs : List V) (Q : VK) (p : Addr × Obj), RoomH k A → PinOk outer H s p → Env0 P w K mg base A outer s H → BindsTo s fd args (ps.zip us) → Vals vs us → sp vs H Q E0 →
    codeAny (model P w) A (.call (.ref f) args) (CR CX0 outer P w H s Q E0) s
abbrev cxQ (P : Program) (w : World) (K : PySem.W.Frag) (mg : Str → Option Value) (base : Heap) (N : List Str) (qual : Str) (scope : Scope) (f : Addr) (cd : Value) (A : Around) (outer : List Env) (s : Shared) (H : Hp) (p : Addr × Obj) : Cx :=
  { cxOf CX0 P w K mg base N qual scope f cd A outer s H E0 with calm := false, pn := [p] }
theorem fn_ofQ {P : Program} {w : World} {K : PySem.W.Frag} {mg : Str → Option Value} {base : Heap} {k : Nat} {f : Addr} {name qual : Str} {params : Arguments} {body : List Stmt} {scope : Scope} {dV kV doc pm cdv ct oc : Value} {an od : Option Addr}
    {osl : Array (Option Value)} {N ps : List Str} {sp : Sp} (lk : K.lookup f = some ⟨oc, od, .func (PySem.W.fnOf name qual params body scope dV kV doc pm an cdv ct), osl⟩) (hcd : PySem.W.codeIn K cdv qual = true) (S : FnScope N ps scope)
    (len : ∀ vs H Q E, sp vs H Q E → vs.length = ps.length)
    (hbody : ∀ (A : Around) (outer : List Env) (s : Shared) (H : Hp) (vs : List V) (Q : VK) (p : Addr × Obj), RoomH k (A.deeper (envOfC qual scope s.heap.objs.size f cdv)) → sp vs H Q E0 →
      ∃ t, PSs (cxQ P w K mg base N qual scope f cdv A outer s H p) body t ∧ t { nx := fun _ H' => Q .non H', rt := Q } (L2.start N vs) H) :
    FnQ P w K mg base (k + 1) f (PySem.W.fnOf name qual params body scope dV kV doc pm an cdv ct) ps sp := by
  refine ⟨len, fun A outer s H args us vs Q p hr hp e0 hb r hsp => ?_⟩
  have KX : K.In s.heap := e0.mod.kin.keeps fun b o e => (e0.bs b o e).1
  have lim : s.heap.NoLimit := e0.mod.nolimit.keeps fun b o e => (e0.bs b o e).1
  have hk : ∀ y ∈ ps.zip us, scope.names.lookup y.1 = some .local ∨ (scope.names.lookup y.1 = some .cell ∧ ((cellsFrom (s.heap.objs.size + 1) scope.names []).lookup y.1).isSome = true) := fun ⟨n, v⟩ hy =>
    (S.par n (List.of_mem_zip hy).1).imp id fun q => ⟨q, PySem.W.cellsFrom_some _ _ _ (.inl q)⟩
  refine codeAny_call_function hr.depth (KX _ _ lk) rfl S.co S.gen rfl (PySem.W.codeRec_of KX hcd) (hb _ _ _ _ ?_)
  refine wpAny_newFunctionEnv_cells S.kind hk fun env he s1 x => ?_
  subst he
  refine ⟨lim.keeps x.toInCall.keep, codeAny_func ?_⟩
  obtain ⟨t, ht, hq⟩ := hbody A outer s H vs Q p (hr.deeper _) hsp
  have I : Inv (cxQ P w K mg base N qual scope f cdv A outer s H p) [] (L2.start N vs) H s1 := inv_startH (CX := CX0) (E := E0) S hp e0 (len _ _ _ _ hsp) r x
  have out : ∀ {σ' : L2.St} {H' : Hp} {v : V} {u : Value} {s' : Shared}, Inv (cxQ P w K mg base N qual scope f cdv A outer s H p) [] σ' H' s' → RelV v u → Q v H' → CE outer P w H s Q u s' := fun {_ H' v _ _} J rv q => ⟨v, H', J.os, J.bare, J.base, J.hok, rv, q⟩
  refine wpAny_mono (ht.run [] s1 (L2.start N vs) H _ I hq) (fun fl s' hs => ?_) fun e s' hs => hs
  cases fl with
  | ret u =>
    obtain ⟨v, σ', H', J, rv, q⟩ := hs
    exact out J rv q
  | next =>
    obtain ⟨σ', H', J, q⟩ := hs
    exact out (v := V.non) (u := Value.none) J rfl q
  | brk => obtain ⟨_, _, _, q⟩ := hs; exact q.elim
  | cont => obtain ⟨_, _, _, q⟩ := hs; exact q.elim
structure HasQ (P : Program) (w : World) (K : PySem.W.Frag) (mg : Str → Option Value) (base : Heap) (x : Str) (k : Nat) (ps : List Str) (sp : Sp) : Prop where
  ex : ∃ (f : Addr) (fd : FuncData), FnQ P w K mg base k f fd ps sp ∧ Binds K fd ps [] ∧ mg x = some (.ref f) ∧ PySem.W.keepIn K (.ref f) = true
structure HasMQ (P : Program) (w : World) (K : PySem.W.Frag) (mg : Str → Option Value) (base : Heap) (C : Addr) (x : Str) (k : Nat) (ps : List Str) (sp : Sp) : Prop where
  ex : ∃ (f : Addr) (fd : FuncData), FnQ P w K mg base k f fd ps sp ∧ Binds K fd ps [] ∧ Meth K C x f
section
variable {P : Program} {w : World} {K : PySem.W.Frag} {mg : Str → Option Value} {base : Heap}
theorem hasQ_of {x qual : Str} {st : Stmt} {N ps : List Str} {k : Nat} {sp : Sp} (A : At K mg x qual st ps) (S : FnScope N ps (defScope st)) (len : ∀ vs H Q E, sp vs H Q E → vs.length = ps.length)
    (hbody : ∀ (cdv : Value) (f : Addr) (A : Around) (outer : List Env) (s : Shared) (H : Hp) (vs : List V) (Q : VK) (p : Addr × Obj), RoomH k (A.deeper (envOfC qual (defScope st) s.heap.objs.size f cdv)) → sp vs H Q E0 →
      ∃ t, PSs (cxQ P w K mg base N qual (defScope st) f cdv A outer s H p) (defBody st) t ∧ t { nx := fun _ H' => Q .non H', rt := Q } (start N vs) H) : HasQ P w K mg base x (k + 1) ps sp := by
  obtain ⟨f, fd, F, B, G⟩ := A.ex
  have F2 := F
  obtain ⟨oc, od, kV, doc, pm, an, cdv, ct, osl, rfl, lk, hcd⟩ := F.ex
  exact ⟨f, _, fn_ofQ lk hcd S len fun A outer s H vs Q p hr hsp => hbody cdv f A outer s H vs Q p hr hsp, B, G, F2.kp⟩
theorem hasMQ_of {C : Addr} {x qual : Str} {st : Stmt} {N ps : List Str} {k : Nat} {sp : Sp} (A : AtM K C x qual st ps) (S : FnScope N ps (defScope st)) (len : ∀ vs H Q E, sp vs H Q E → vs.length = ps.length)
    (hbody : ∀ (cdv : Value) (f : Addr) (A : Around) (outer : List Env) (s : Shared) (H : Hp) (vs : List V) (Q : VK) (p : Addr × Obj), RoomH k (A.deeper (envOfC qual (defScope st) s.heap.objs.size f cdv)) → sp vs H Q E0 →
      ∃ t, PSs (cxQ P w K mg base N qual (defScope st) f cdv A outer s H p) (defBody st) t ∧ t { nx := fun _ H' => Q .non H', rt := Q } (start N vs) H) : HasMQ P w K mg base C x (k + 1) ps sp := by
  obtain ⟨f, fd, F, B, G⟩ := A.ex
  obtain ⟨oc, od, kV, doc, pm, an, cdv, ct, osl, rfl, lk, hcd⟩ := F.ex
  exact ⟨f, _, fn_ofQ lk hcd S len fun A outer s H vs Q p hr hsp => hbody cdv f A outer s H vs Q p hr hsp, B, G⟩
end
section
variable {X : Cx} {k : Nat} {f C : Addr} {fd : FuncData} {ps : List Str} {sp : Sp} {x m : Str} {q pos apos : Pos} {e o : Expr} {es : List Expr} {ta : TE} {t : TA}
theorem run_fnQ {pins : List (Addr × Obj)} {σ : L2.St} {H : Hp} {s : Shared} {Q : VK} {us : List Value} {vs : List V} (F : FnQ X.prog X.w X.K X.mg X.base k f fd ps sp) (hr : RoomH k X.A) (hp : ∃ p, p ∈ X.pn) (hb : Binds X.K fd ps [])
    (I : Inv X pins σ H s) (r : Vals vs us) (h : sp vs H Q E0) : wpAny (model X.prog X.w) X.A (call (.ref f) us) (EP X pins σ Q) X.xe s := by
  obtain ⟨p, hp⟩ := hp
  have b := hb s us I.kIn (by rw [List.append_nil, ← r.length]; exact F.len _ _ _ _ h)
  rw [List.append_nil] at b
  have P1 := I.pin p (List.mem_append_left _ hp)
  refine wpAny_call (codeAny_mono (F.run X.A X.stack s H ⟨us, []⟩ us vs Q p hr ⟨P1.1, P1.2.1, fun hm => (List.mem_cons.mp (I.stkSub p.1 hm)).elim P1.2.2.1 P1.2.2.2.1, P1.2.2.2.2⟩ I.env0 b r h) fun r s' hq => ?_)
  cases r with
  | error e => exact (pass0 (X := X)) pins σ H s e s' I hq
  | ok fl =>
    cases fl with
    | ret u => exact I.after hq
    | next => exact hq.elim
    | brk => exact hq.elim
    | cont => exact hq.elim
theorem fe_callQ (h : HasQ X.prog X.w X.K X.mg X.base x k ps sp) (hr : RoomH k X.A) (hp : ∃ p, p ∈ X.pn) (hg : Gl X x) (ha : PA X (e :: es) t) (hd : (x == ("__debug__" : Str)) = false := by decide)
    (hs : starEach (e :: es) X.env = (false, eval e X.env) :: starEach es X.env := by rfl) (hplain : (backTo pos (starEach es X.env)).any (·.1) = false := by rfl) : PE X (.Call (.Name x q) (e :: es) [] pos) (tCall sp [] E0 t) := by
  obtain ⟨f, fd, F, B, G, kp⟩ := h.ex
  refine ⟨fun pins s σ H Q I h => ?_⟩
  refine wpAny_Call_Name_kw (ld_glob I hg G ?_ hd)
  refine PySem.W.callWith_K (h₀ := X.base) I.ok.mod.kin kp (thn (ha.run pos pins s σ H _ I h) fun us s1 ⟨vs, H1, I1, r, q⟩ => ⟨I1.kIn, ?_⟩) hs hplain
  have q : sp (vs ++ []) H1 Q E0 := q
  rw [List.append_nil] at q
  exact run_fnQ F hr hp B I1 r q
theorem fe_methQ {pl : Sem Bool} (h : HasMQ X.prog X.w X.K X.mg X.base C m k ps sp) (c : Cls X.K C) (hr : RoomH k X.A) (hp : ∃ p, p ∈ X.pn) (he : PE X o ta) (ha : PA X (e :: es) t)
    (hst : starEach (e :: es) X.env = (false, eval e X.env) :: starEach es X.env := by rfl) (hpl : (backTo pos (starEach es X.env)).any (·.1) = false := by rfl)
    (ht : eval (.Call (.Attribute o m apos) (e :: es) [] pos) X.env = (do
      let ov ← eval o X.env
      standAt apos.atName
      let (f, first) ← holding [ov] (getMethod ov m pl)
      callWith pos f first (backTo pos (starEach (e :: es) X.env)) (backToKw pos (keywordEach [] X.env))) := by rfl) :
    PE X (.Call (.Attribute o m apos) (e :: es) [] pos) (fMeth C m sp E0 ta t) := by
  obtain ⟨f, fd, F, B, M⟩ := h.ex
  refine ⟨fun pins s σ H Q I h => ?_⟩
  refine PySem.W.methodCall_KW (pl := pl) (thn (he.run pins s σ H _ I h) fun u s1 ⟨x, H1, I1, rx, q0, q⟩ => ?_) ht
  have hx : ∃ a dx fs, x = .ref a ∧ H1 a = some (.ins C dx fs) ∧ fs.lookup m = none := by
    unfold isOb at q0
    split at q0
    · split at q0
      · obtain ⟨rfl, q0⟩ := q0
        exact ⟨_, _, _, rfl, by assumption, q0⟩
      · exact q0.elim
    · exact q0.elim
  obtain ⟨a, dx, fs, rfl, ea, l⟩ := hx
  obtain rfl : u = Value.ref a := rx
  refine getmeth_ok I1 ea c M l ?_
  refine PySem.W.callWith_K (first := [.ref a]) (h₀ := X.base) I.ok.mod.kin M.kp (thn (ha.run pos pins s1 σ H1 _ I1 q) fun us s2 ⟨vs, H2, I2, r, q2⟩ => ⟨I2.kIn, ?_⟩) hst hpl
  exact run_fnQ (us := .ref a :: us) (vs := .ref a :: vs) F hr hp B I2 (.cons rfl r) q2
end
end Fx

set_option Elab.async false
set_option linter.all false
set_option maxRecDepth 100000
set_option maxHeartbeats 1000000
namespace My
open PySem L2 Fx
local macro_rules | `(tactic| walk_at "fx") => `(tactic| try simp only [L2.start, List.map_cons, List.map_nil, List.length_cons, List.length_nil, Nat.reduceAdd, Nat.reduceSub, List.reduceReplicate, List.cons_append, List.nil_append, List.append_nil,
  tSeq, fVar, tVar, tC, tOp, tUn, tCons, tNil, fTup, fLst, tAsg, gName, tRet, tRetN, tDrop, tNext, tIf, tAnd, tOr, tNot, tTest, tB, tAug, tChain, tNotV, tAndV, tOrV, tSl, tPart, tNoPart, tCB, tCall, fBM, fBM0, tBreak, tCont, gTup, gCons, gNil,
  fAdd, fSub, fMul, fDiv, fMod, fNeg, fLt, fLe, fGt, fGe, fIx, fSl, fLen, fInt, fStr, fAbs, fMax, fMin, fOrd, fIsN, fNotN, fIsi, fListOf, isLst, isStr, isDct, fAppend, fS1, fJoin, fLstripC, fIAdd, fISub, fSet, tyOf, fEq, scal, fIn, iRng1, iRng2, iList, iTup, iStr, gSub, fGt_,
  List.getElem?_cons_zero, List.getElem?_cons_succ, List.set_cons_zero, List.set_cons_succ, upd_same, S_cps, S_len, L_S, one_list, flatV,
  V.int.injEq, V.str.injEq, V.bl.injEq, V.ref.injEq, Option.some.injEq, List.cons.injEq, exists_eq_left', exists_eq_left, exists_and_left, ex2, and_true, true_and, decide_eq_true_eq, Bool.not_eq_true', decide_eq_false_iff_not, Bool.false_eq_true, Bool.true_eq_false, Int.zero_add, Int.toNat_natCast, if_true, if_false, ite_true, ite_false, reduceIte, Int.reduceLT, Int.reduceLE, Int.reduceNeg, Int.reduceAdd, Nat.reduceLT, Nat.reduceLeDiff, Bool.not_true, Bool.not_false, kitBv, kitBs, not_true_eq_false, not_false_eq_true, Bool.or_false, Bool.false_or, Bool.or_true, Bool.true_or])
local macro_rules | `(tactic| walk_at "fx0") => `(tactic| try dsimp only [cxOf, Cx.nox, Cx.wish])
local macro_rules | `(tactic| walk_at "mul") => `(tactic| first | exact mul_left (by decide) (by decide) | exact mul_right (by decide) (by decide) | exact mul_left (by omega) (by omega) | exact mul_right (by omega) (by omega))
local macro_rules | `(tactic| walk_at "rm") => `(tactic| first | decide | exact Nat.le_refl _ | omega)
set_option hygiene false in
local macro_rules | `(tactic| walk_at "ox") => `(tactic| try simp only [WE_wOf, two, fTru, fLenD, fDisp, fPairs, iKeysK, fGetK, fInK, sPutK, sDelK, keyV, fListD, fDictD, tChain3, iZipM, fGdT_, fInDT, fIxDT, fRevL, sDelL, iEnum_, fTupOf, fSum, fGetD, fMkV, fXo, fIsX, fPop, fPopAt, fClear, fReplC, fPow, fReverse, fExtend, fInsert, fGetN, fInN, sPutN, sDelN, fNewN, fLenN, iKeysN, fProp, fRaise, fXf, fIsE, fMethS, tCallS, fFmt, fJs, fJoined, fDivZ, fGd_, fInD, fIxD, WE, wOf, fDead, sDead, upd2, wipe, tYes, fIsB, beq_self_eq_true, List.not_mem_nil, or_false, false_or, fDnew, T.ne, fFld, fSetF, fMeth, isOb, fIsiO, fIsiP, fIsiA, tyV2, okT, kit2, kits2, allIn, putF, List.lookup_cons, List.lookup_nil, keyEq, List.mem_cons, true_or, or_true, L2.start, List.map_cons, List.map_nil, List.length_cons, List.length_nil, Nat.reduceAdd, Nat.reduceSub, List.reduceReplicate, List.cons_append, List.nil_append, List.append_nil,
  tSeq, fVar, tVar, tC, tOp, tUn, tCons, tNil, fTup, fLst, tAsg, gName, tRet, tRetN, tDrop, tNext, tIf, tAnd, tOr, tNot, tTest, tB, tAug, tChain, tNotV, tAndV, tOrV, tSl, tPart, tNoPart, tCB, tCall, fBM, fBM0, tBreak, tCont, gTup, gCons, gNil,
  fAdd, fSub, fMul, fDiv, fMod, fNeg, fLt, fLe, fGt, fGe, fIx, fSl, fLen, fInt, fStr, fAbs, fMax, fMin, fOrd, fIsN, fNotN, fIsi, fListOf, isLst, isStr, isDct, fAppend, fS1, fJoin, fLstripC, fIAdd, fISub, fSet, tyOf, fEq, scal, fIn, iRng1, iRng2, iList, iTup, iStr, gSub, fGt_,
  List.getElem?_cons_zero, List.getElem?_cons_succ, List.set_cons_zero, List.set_cons_succ, upd_same, S_cps, S_len, L_S, one_list, flatV,
  V.int.injEq, V.str.injEq, V.bl.injEq, V.ref.injEq, Option.some.injEq, List.cons.injEq, exists_eq_left', exists_eq_left, exists_and_left, ex2, and_true, true_and, decide_eq_true_eq, Bool.not_eq_true', decide_eq_false_iff_not, Bool.false_eq_true, Bool.true_eq_false, Int.zero_add, Int.toNat_natCast, if_true, if_false, ite_true, ite_false, reduceIte, Int.reduceLT, Int.reduceLE, Int.reduceNeg, Int.reduceAdd, Nat.reduceLT, Nat.reduceLeDiff, Bool.not_true, Bool.not_false, kitBv, kitBs, not_true_eq_false, not_false_eq_true, Bool.or_false, Bool.false_or, Bool.or_true, Bool.true_or])
set_option hygiene false in
local macro_rules | `(tactic| walk_at "oxs") => `(tactic| simp only [tIfS, WE_wOf, two, fTru, fLenD, fDisp, fPairs, iKeysK, fGetK, fInK, sPutK, sDelK, keyV, fListD, fDictD, tChain3, iZipM, fGdT_, fInDT, fIxDT, fRevL, sDelL, iEnum_, fTupOf, fSum, fGetD, fMkV, fXo, fIsX, fPop, fPopAt, fClear, fReplC, fPow, fReverse, fExtend, fInsert, fGetN, fInN, sPutN, sDelN, fNewN, fLenN, iKeysN, fProp, fRaise, fXf, fIsE, fMethS, tCallS, fFmt, fJs, fJoined, fDivZ, fGd_, fInD, fIxD, WE, wOf, fDead, sDead,  reduceCtorEq, upd2, wipe, tYes, fIsB, beq_self_eq_true, List.not_mem_nil, or_false, false_or, fDnew, T.ne, fFld, fSetF, fMeth, isOb, fIsiO, fIsiP, fIsiA, tyV2, okT, kit2, kits2, allIn, putF, List.lookup_cons, List.lookup_nil, keyEq, List.mem_cons, true_or, or_true, L2.start, List.map_cons, List.map_nil, List.length_cons, List.length_nil, Nat.reduceAdd, Nat.reduceSub, List.reduceReplicate, List.cons_append, List.nil_append, List.append_nil,
  tSeq, fVar, tVar, tC, tOp, tUn, tCons, tNil, fTup, fLst, tAsg, gName, tRet, tRetN, tDrop, tNext, tIf, tAnd, tOr, tNot, tTest, tB, tAug, tChain, tNotV, tAndV, tOrV, tSl, tPart, tNoPart, tCB, tCall, fBM, fBM0, tBreak, tCont, gTup, gCons, gNil,
  fAdd, fSub, fMul, fDiv, fMod, fNeg, fLt, fLe, fGt, fGe, fIx, fSl, fLen, fInt, fStr, fAbs, fMax, fMin, fOrd, fIsN, fNotN, fIsi, fListOf, isLst, isStr, isDct, fAppend, fS1, fJoin, fLstripC, fIAdd, fISub, fSet, tyOf, fEq, scal, fIn, iRng1, iRng2, iList, iTup, iStr, gSub, fGt_,
  List.getElem?_cons_zero, List.getElem?_cons_succ, List.set_cons_zero, List.set_cons_succ, upd_same, S_cps, S_len, L_S, one_list, flatV,
  V.int.injEq, V.str.injEq, V.bl.injEq, V.ref.injEq, Option.some.injEq, List.cons.injEq, exists_eq_left', exists_eq_left, exists_and_left, ex2, and_true, true_and, decide_eq_true_eq, Bool.not_eq_true', decide_eq_false_iff_not, Bool.false_eq_true, Bool.true_eq_false, Int.zero_add, Int.toNat_natCast, if_true, if_false, ite_true, ite_false, reduceIte, Int.reduceLT, Int.reduceLE, Int.reduceNeg, Int.reduceAdd, Nat.reduceLT, Nat.reduceLeDiff, Bool.not_true, Bool.not_false, kitBv, kitBs, not_true_eq_false, not_false_eq_true, Bool.or_false, Bool.false_or, Bool.or_true, Bool.true_or])

def topS (i : Nat) : Stmt := PySem.Challenge.pw_livequill_k18_operators_of_other_kinds.main.body.getD i (.Pass ⟨0, 0, 0, 0⟩)
abbrev s_ScriptError___init__ : Stmt := inClass (topS 3) 0
theorem sc_ScriptError___init__ : FnScope ["self", "kind", "message"] ["self", "kind", "message"] (defScope s_ScriptError___init__) := ⟨rfl, rfl, rfl, by decide +kernel, rfl, by decide +kernel, by decide +kernel⟩
abbrev s_Ref___init__ : Stmt := inClass (topS 5) 0
theorem sc_Ref___init__ : FnScope ["self", "number"] ["self", "number"] (defScope s_Ref___init__) := ⟨rfl, rfl, rfl, by decide +kernel, rfl, by decide +kernel, by decide +kernel⟩
abbrev s_Ref___eq__ : Stmt := inClass (topS 5) 1
theorem sc_Ref___eq__ : FnScope ["self", "other"] ["self", "other"] (defScope s_Ref___eq__) := ⟨rfl, rfl, rfl, by decide +kernel, rfl, by decide +kernel, by decide +kernel⟩
abbrev s_Builtin___init__ : Stmt := inClass (topS 6) 0
theorem sc_Builtin___init__ : FnScope ["self", "name"] ["self", "name"] (defScope s_Builtin___init__) := ⟨rfl, rfl, rfl, by decide +kernel, rfl, by decide +kernel, by decide +kernel⟩
abbrev s_Builtin___eq__ : Stmt := inClass (topS 6) 1
theorem sc_Builtin___eq__ : FnScope ["self", "other"] ["self", "other"] (defScope s_Builtin___eq__) := ⟨rfl, rfl, rfl, by decide +kernel, rfl, by decide +kernel, by decide +kernel⟩
abbrev s_key_of : Stmt := topS 8
theorem sc_key_of : FnScope ["value"] ["value"] (defScope s_key_of) := ⟨rfl, rfl, rfl, by decide +kernel, rfl, by decide +kernel, by decide +kernel⟩
abbrev s_Parts___init__ : Stmt := inClass (topS 9) 0
theorem sc_Parts___init__ : FnScope ["self", "held"] ["self", "held"] (defScope s_Parts___init__) := ⟨rfl, rfl, rfl, by decide +kernel, rfl, by decide +kernel, by decide +kernel⟩
abbrev s_Parts_fork : Stmt := inClass (topS 9) 1
theorem sc_Parts_fork : FnScope ["self"] ["self"] (defScope s_Parts_fork) := ⟨rfl, rfl, rfl, by decide +kernel, rfl, by decide +kernel, by decide +kernel⟩
abbrev s_Table___init__ : Stmt := inClass (topS 10) 0
theorem sc_Table___init__ : FnScope ["self"] ["self"] (defScope s_Table___init__) := ⟨rfl, rfl, rfl, by decide +kernel, rfl, by decide +kernel, by decide +kernel⟩
abbrev s_Table_many : Stmt := inClass (topS 10) 1
theorem sc_Table_many : FnScope ["self"] ["self"] (defScope s_Table_many) := ⟨rfl, rfl, rfl, by decide +kernel, rfl, by decide +kernel, by decide +kernel⟩
abbrev s_Table_has : Stmt := inClass (topS 10) 2
theorem sc_Table_has : FnScope ["self", "key"] ["self", "key"] (defScope s_Table_has) := ⟨rfl, rfl, rfl, by decide +kernel, rfl, by decide +kernel, by decide +kernel⟩
abbrev s_Table_value_of : Stmt := inClass (topS 10) 3
theorem sc_Table_value_of : FnScope ["self", "key"] ["self", "key"] (defScope s_Table_value_of) := ⟨rfl, rfl, rfl, by decide +kernel, rfl, by decide +kernel, by decide +kernel⟩
abbrev s_Table_put : Stmt := inClass (topS 10) 4
theorem sc_Table_put : FnScope ["self", "key", "value"] ["self", "key", "value"] (defScope s_Table_put) := ⟨rfl, rfl, rfl, by decide +kernel, rfl, by decide +kernel, by decide +kernel⟩
abbrev s_Table_take_out : Stmt := inClass (topS 10) 5
theorem sc_Table_take_out : FnScope ["self", "key"] ["self", "key"] (defScope s_Table_take_out) := ⟨rfl, rfl, rfl, by decide +kernel, rfl, by decide +kernel, by decide +kernel⟩
abbrev s_Table_pairs : Stmt := inClass (topS 10) 6
theorem sc_Table_pairs : FnScope ["self", "at"] ["self"] (defScope s_Table_pairs) := ⟨rfl, rfl, rfl, by decide +kernel, rfl, by decide +kernel, by decide +kernel⟩
abbrev s_Table_fork : Stmt := inClass (topS 10) 7
theorem sc_Table_fork : FnScope ["self"] ["self"] (defScope s_Table_fork) := ⟨rfl, rfl, rfl, by decide +kernel, rfl, by decide +kernel, by decide +kernel⟩
abbrev s_Instance___init__ : Stmt := inClass (topS 11) 0
theorem sc_Instance___init__ : FnScope ["self", "owner"] ["self", "owner"] (defScope s_Instance___init__) := ⟨rfl, rfl, rfl, by decide +kernel, rfl, by decide +kernel, by decide +kernel⟩
abbrev s_Instance_fork : Stmt := inClass (topS 11) 1
theorem sc_Instance_fork : FnScope ["self"] ["self"] (defScope s_Instance_fork) := ⟨rfl, rfl, rfl, by decide +kernel, rfl, by decide +kernel, by decide +kernel⟩
abbrev s_Kin___init__ : Stmt := inClass (topS 12) 0
theorem sc_Kin___init__ : FnScope ["self", "name", "parent"] ["self", "name", "parent"] (defScope s_Kin___init__) := ⟨rfl, rfl, rfl, by decide +kernel, rfl, by decide +kernel, by decide +kernel⟩
abbrev s_Kin_fork : Stmt := inClass (topS 12) 1
theorem sc_Kin_fork : FnScope ["self"] ["self"] (defScope s_Kin_fork) := ⟨rfl, rfl, rfl, by decide +kernel, rfl, by decide +kernel, by decide +kernel⟩
abbrev s_Closure___init__ : Stmt := inClass (topS 13) 0
theorem sc_Closure___init__ : FnScope ["self", "number", "wanted", "scope"] ["self", "number", "wanted", "scope"] (defScope s_Closure___init__) := ⟨rfl, rfl, rfl, by decide +kernel, rfl, by decide +kernel, by decide +kernel⟩
abbrev s_Closure_fork : Stmt := inClass (topS 13) 1
theorem sc_Closure_fork : FnScope ["self"] ["self"] (defScope s_Closure_fork) := ⟨rfl, rfl, rfl, by decide +kernel, rfl, by decide +kernel, by decide +kernel⟩
abbrev s_is_integer : Stmt := topS 15
theorem sc_is_integer : FnScope ["value"] ["value"] (defScope s_is_integer) := ⟨rfl, rfl, rfl, by decide +kernel, rfl, by decide +kernel, by decide +kernel⟩
abbrev s_thing_of : Stmt := topS 16
theorem sc_thing_of : FnScope ["store", "value"] ["store", "value"] (defScope s_thing_of) := ⟨rfl, rfl, rfl, by decide +kernel, rfl, by decide +kernel, by decide +kernel⟩
abbrev s_kind_of : Stmt := topS 17
theorem sc_kind_of : FnScope ["store", "value", "thing"] ["store", "value"] (defScope s_kind_of) := ⟨rfl, rfl, rfl, by decide +kernel, rfl, by decide +kernel, by decide +kernel⟩
abbrev s_is_true : Stmt := topS 18
theorem sc_is_true : FnScope ["value"] ["value"] (defScope s_is_true) := ⟨rfl, rfl, rfl, by decide +kernel, rfl, by decide +kernel, by decide +kernel⟩
abbrev s_equal : Stmt := topS 19
theorem sc_equal : FnScope ["x", "y"] ["x", "y"] (defScope s_equal) := ⟨rfl, rfl, rfl, by decide +kernel, rfl, by decide +kernel, by decide +kernel⟩
abbrev s_is_key : Stmt := topS 20
theorem sc_is_key : FnScope ["value"] ["value"] (defScope s_is_key) := ⟨rfl, rfl, rfl, by decide +kernel, rfl, by decide +kernel, by decide +kernel⟩
abbrev s_is_below : Stmt := topS 21
theorem sc_is_below : FnScope ["store", "kin", "other"] ["store", "kin", "other"] (defScope s_is_below) := ⟨rfl, rfl, rfl, by decide +kernel, rfl, by decide +kernel, by decide +kernel⟩
abbrev s_Store___init__ : Stmt := inClass (topS 26) 0
theorem sc_Store___init__ : FnScope ["self", "lines"] ["self", "lines"] (defScope s_Store___init__) := ⟨rfl, rfl, rfl, by decide +kernel, rfl, by decide +kernel, by decide +kernel⟩
abbrev s_Store_make : Stmt := inClass (topS 26) 1
theorem sc_Store_make : FnScope ["self", "thing"] ["self", "thing"] (defScope s_Store_make) := ⟨rfl, rfl, rfl, by decide +kernel, rfl, by decide +kernel, by decide +kernel⟩
abbrev s_Store_at : Stmt := inClass (topS 26) 2
theorem sc_Store_at : FnScope ["self", "ref"] ["self", "ref"] (defScope s_Store_at) := ⟨rfl, rfl, rfl, by decide +kernel, rfl, by decide +kernel, by decide +kernel⟩
abbrev s_Store_fork : Stmt := inClass (topS 26) 3
theorem sc_Store_fork : FnScope ["self"] ["self"] (defScope s_Store_fork) := ⟨rfl, rfl, rfl, by decide +kernel, rfl, by decide +kernel, by decide +kernel⟩
abbrev s_bounded : Stmt := topS 29
theorem sc_bounded : FnScope ["number"] ["number"] (defScope s_bounded) := ⟨rfl, rfl, rfl, by decide +kernel, rfl, by decide +kernel, by decide +kernel⟩
abbrev s_fitting_text : Stmt := topS 30
theorem sc_fitting_text : FnScope ["text"] ["text"] (defScope s_fitting_text) := ⟨rfl, rfl, rfl, by decide +kernel, rfl, by decide +kernel, by decide +kernel⟩
abbrev s_check_parts : Stmt := topS 31
theorem sc_check_parts : FnScope ["count"] ["count"] (defScope s_check_parts) := ⟨rfl, rfl, rfl, by decide +kernel, rfl, by decide +kernel, by decide +kernel⟩
abbrev s_unary : Stmt := topS 34
theorem sc_unary : FnScope ["store", "operator", "x"] ["store", "operator", "x"] (defScope s_unary) := ⟨rfl, rfl, rfl, by decide +kernel, rfl, by decide +kernel, by decide +kernel⟩
abbrev s_added : Stmt := topS 35
theorem sc_added : FnScope ["store", "x", "y", "first", "second"] ["store", "x", "y"] (defScope s_added) := ⟨rfl, rfl, rfl, by decide +kernel, rfl, by decide +kernel, by decide +kernel⟩
abbrev s_reckoned : Stmt := topS 36
theorem sc_reckoned : FnScope ["store", "operator", "x", "y"] ["store", "operator", "x", "y"] (defScope s_reckoned) := ⟨rfl, rfl, rfl, by decide +kernel, rfl, by decide +kernel, by decide +kernel⟩
abbrev s_compared : Stmt := topS 37
theorem sc_compared : FnScope ["store", "operator", "x", "y", "fits"] ["store", "operator", "x", "y"] (defScope s_compared) := ⟨rfl, rfl, rfl, by decide +kernel, rfl, by decide +kernel, by decide +kernel⟩
abbrev s_is_of : Stmt := topS 38
theorem sc_is_of : FnScope ["store", "x", "y", "thing"] ["store", "x", "y"] (defScope s_is_of) := ⟨rfl, rfl, rfl, by decide +kernel, rfl, by decide +kernel, by decide +kernel⟩
abbrev s_binary : Stmt := topS 39
theorem sc_binary : FnScope ["store", "operator", "x", "y"] ["store", "operator", "x", "y"] (defScope s_binary) := ⟨rfl, rfl, rfl, by decide +kernel, rfl, by decide +kernel, by decide +kernel⟩
abbrev s_checked_key : Stmt := topS 40
theorem sc_checked_key : FnScope ["i"] ["i"] (defScope s_checked_key) := ⟨rfl, rfl, rfl, by decide +kernel, rfl, by decide +kernel, by decide +kernel⟩
abbrev s_put_key : Stmt := topS 41
theorem sc_put_key : FnScope ["table", "key", "value"] ["table", "key", "value"] (defScope s_put_key) := ⟨rfl, rfl, rfl, by decide +kernel, rfl, by decide +kernel, by decide +kernel⟩
abbrev s_make_list : Stmt := topS 42
theorem sc_make_list : FnScope ["store", "values"] ["store", "values"] (defScope s_make_list) := ⟨rfl, rfl, rfl, by decide +kernel, rfl, by decide +kernel, by decide +kernel⟩
abbrev s_make_map : Stmt := topS 43
theorem sc_make_map : FnScope ["store", "pairs", "table", "key", "value"] ["store", "pairs"] (defScope s_make_map) := ⟨rfl, rfl, rfl, by decide +kernel, rfl, by decide +kernel, by decide +kernel⟩
abbrev s_make_class : Stmt := topS 44
theorem sc_make_class : FnScope ["store", "name", "parent"] ["store", "name", "parent"] (defScope s_make_class) := ⟨rfl, rfl, rfl, by decide +kernel, rfl, by decide +kernel, by decide +kernel⟩
abbrev s_law_cell : Stmt := topS 46
theorem sc_law_cell : FnScope ["script", "k"] ["script", "k"] (defScope s_law_cell) := ⟨rfl, rfl, rfl, by decide +kernel, rfl, by decide +kernel, by decide +kernel⟩
abbrev s_law_is_integer : Stmt := topS 47
theorem sc_law_is_integer : FnScope ["told"] ["told"] (defScope s_law_is_integer) := ⟨rfl, rfl, rfl, by decide +kernel, rfl, by decide +kernel, by decide +kernel⟩
abbrev s_law_begin : Stmt := topS 48
theorem sc_law_begin : FnScope ["script", "k"] ["script", "k"] (defScope s_law_begin) := ⟨rfl, rfl, rfl, by decide +kernel, rfl, by decide +kernel, by decide +kernel⟩
abbrev s_law_draw : Stmt := topS 49
theorem sc_law_draw : FnScope ["state", "many", "k", "cell", "prime", "mixed", "digit"] ["state", "many"] (defScope s_law_draw) := ⟨rfl, rfl, rfl, by decide +kernel, rfl, by decide +kernel, by decide +kernel⟩
abbrev s_law_pick : Stmt := topS 50
theorem sc_law_pick : FnScope ["state", "row"] ["state", "row"] (defScope s_law_pick) := ⟨rfl, rfl, rfl, by decide +kernel, rfl, by decide +kernel, by decide +kernel⟩
abbrev s_law_text : Stmt := topS 51
theorem sc_law_text : FnScope ["state", "chars", "many", "text", "k"] ["state"] (defScope s_law_text) := ⟨rfl, rfl, rfl, by decide +kernel, rfl, by decide +kernel, by decide +kernel⟩
abbrev s_law_store : Stmt := topS 52
theorem sc_law_store : FnScope ["state", "store", "kinds", "above", "k", "parent", "ref", "made", "j"] ["state"] (defScope s_law_store) := ⟨rfl, rfl, rfl, by decide +kernel, rfl, by decide +kernel, by decide +kernel⟩
abbrev s_law_value : Stmt := topS 53
theorem sc_law_value : FnScope ["state", "store", "kind"] ["state", "store"] (defScope s_law_value) := ⟨rfl, rfl, rfl, by decide +kernel, rfl, by decide +kernel, by decide +kernel⟩
abbrev s_law_kind : Stmt := topS 54
theorem sc_law_kind : FnScope ["store", "value"] ["store", "value"] (defScope s_law_kind) := ⟨rfl, rfl, rfl, by decide +kernel, rfl, by decide +kernel, by decide +kernel⟩
abbrev s_law_told : Stmt := topS 55
theorem sc_law_told : FnScope ["store", "operator", "x", "y", "e"] ["store", "operator", "x", "y"] (defScope s_law_told) := ⟨rfl, rfl, rfl, by decide +kernel, rfl, by decide +kernel, by decide +kernel⟩
abbrev s_law_added : Stmt := topS 56
theorem sc_law_added : FnScope ["store", "x", "y", "told", "many", "kinds", "first", "second", "due"] ["store", "x", "y", "told", "many"] (defScope s_law_added) := ⟨rfl, rfl, rfl, by decide +kernel, rfl, by decide +kernel, by decide +kernel⟩
abbrev s_law_compared : Stmt := topS 57
theorem sc_law_compared : FnScope ["operator", "x", "y"] ["operator", "x", "y"] (defScope s_law_compared) := ⟨rfl, rfl, rfl, by decide +kernel, rfl, by decide +kernel, by decide +kernel⟩
abbrev s_law_is : Stmt := topS 58
theorem sc_law_is : FnScope ["store", "above", "x", "y", "told", "due", "kin", "k"] ["store", "above", "x", "y", "told"] (defScope s_law_is) := ⟨rfl, rfl, rfl, by decide +kernel, rfl, by decide +kernel, by decide +kernel⟩
abbrev s_law_negated : Stmt := topS 59
theorem sc_law_negated : FnScope ["store", "x", "e"] ["store", "x"] (defScope s_law_negated) := ⟨rfl, rfl, rfl, by decide +kernel, rfl, by decide +kernel, by decide +kernel⟩
abbrev s_law : Stmt := topS 60
theorem sc_law : FnScope ["script", "state", "made", "store", "k", "x", "y", "verbs", "many", "operator", "verb", "due"] ["script"] (defScope s_law) := ⟨rfl, rfl, rfl, by decide +kernel, rfl, by decide +kernel, by decide +kernel⟩
def big_GREATEST : Int := 1000000000000000000000000000000000000000000000000000000000000000000000000000000000000000000000000000000000000000000000000000000000000000000000000000000000000000000000000000000000000000000000000000000000000000000000000000000000000000000000000000000000000000000000000000000000000000000000000000000000000
structure Cs where
  Ref : Addr
  Builtin : Addr
  Parts : Addr
  Table : Addr
  Instance : Addr
  Kin : Addr
  Closure : Addr
  Store : Addr
  LivequillError : Addr
  ScriptError : Addr
theorem keyEq : (("__eq__" : Str) == "name") = false ∧ ¬ (("__eq__" : Str) = "name") ∧ (("__eq__" : Str) == "number") = false ∧ ¬ (("__eq__" : Str) = "number") ∧ (("__init__" : Str) == "_rows") = false ∧ ¬ (("__init__" : Str) = "_rows") ∧ (("__init__" : Str) == "held") = false ∧ ¬ (("__init__" : Str) = "held") ∧ (("__init__" : Str) == "lines") = false ∧ ¬ (("__init__" : Str) = "lines") ∧ (("__init__" : Str) == "methods") = false ∧ ¬ (("__init__" : Str) = "methods") ∧ (("__init__" : Str) == "name") = false ∧ ¬ (("__init__" : Str) = "name") ∧ (("__init__" : Str) == "named") = false ∧ ¬ (("__init__" : Str) = "named") ∧ (("__init__" : Str) == "number") = false ∧ ¬ (("__init__" : Str) = "number") ∧ (("__init__" : Str) == "output") = false ∧ ¬ (("__init__" : Str) = "output") ∧ (("__init__" : Str) == "owner") = false ∧ ¬ (("__init__" : Str) = "owner") ∧ (("__init__" : Str) == "parent") = false ∧ ¬ (("__init__" : Str) = "parent") ∧ (("__init__" : Str) == "scope") = false ∧ ¬ (("__init__" : Str) = "scope") ∧ (("__init__" : Str) == "taken") = false ∧ ¬ (("__init__" : Str) = "taken") ∧ (("__init__" : Str) == "things") = false ∧ ¬ (("__init__" : Str) = "things") ∧ (("__init__" : Str) == "wanted") = false ∧ ¬ (("__init__" : Str) = "wanted") ∧ (("at" : Str) == "lines") = false ∧ ¬ (("at" : Str) = "lines") ∧ (("at" : Str) == "output") = false ∧ ¬ (("at" : Str) = "output") ∧ (("at" : Str) == "taken") = false ∧ ¬ (("at" : Str) = "taken") ∧ (("at" : Str) == "things") = false ∧ ¬ (("at" : Str) = "things") ∧ (("fork" : Str) == "_rows") = false ∧ ¬ (("fork" : Str) = "_rows") ∧ (("fork" : Str) == "held") = false ∧ ¬ (("fork" : Str) = "held") ∧ (("fork" : Str) == "lines") = false ∧ ¬ (("fork" : Str) = "lines") ∧ (("fork" : Str) == "methods") = false ∧ ¬ (("fork" : Str) = "methods") ∧ (("fork" : Str) == "name") = false ∧ ¬ (("fork" : Str) = "name") ∧ (("fork" : Str) == "named") = false ∧ ¬ (("fork" : Str) = "named") ∧ (("fork" : Str) == "number") = false ∧ ¬ (("fork" : Str) = "number") ∧ (("fork" : Str) == "output") = false ∧ ¬ (("fork" : Str) = "output") ∧ (("fork" : Str) == "owner") = false ∧ ¬ (("fork" : Str) = "owner") ∧ (("fork" : Str) == "parent") = false ∧ ¬ (("fork" : Str) = "parent") ∧ (("fork" : Str) == "scope") = false ∧ ¬ (("fork" : Str) = "scope") ∧ (("fork" : Str) == "taken") = false ∧ ¬ (("fork" : Str) = "taken") ∧ (("fork" : Str) == "things") = false ∧ ¬ (("fork" : Str) = "things") ∧ (("fork" : Str) == "wanted") = false ∧ ¬ (("fork" : Str) = "wanted") ∧ (("has" : Str) == "_rows") = false ∧ ¬ (("has" : Str) = "_rows") ∧ (("kind" : Str) == "message") = false ∧ ¬ (("kind" : Str) = "message") ∧ (("lines" : Str) == "output") = false ∧ ¬ (("lines" : Str) = "output") ∧ (("lines" : Str) == "taken") = false ∧ ¬ (("lines" : Str) = "taken") ∧ (("lines" : Str) == "things") = false ∧ ¬ (("lines" : Str) = "things") ∧ (("make" : Str) == "lines") = false ∧ ¬ (("make" : Str) = "lines") ∧ (("make" : Str) == "output") = false ∧ ¬ (("make" : Str) = "output") ∧ (("make" : Str) == "taken") = false ∧ ¬ (("make" : Str) = "taken") ∧ (("make" : Str) == "things") = false ∧ ¬ (("make" : Str) = "things") ∧ (("many" : Str) == "_rows") = false ∧ ¬ (("many" : Str) = "_rows") ∧ (("message" : Str) == "kind") = false ∧ ¬ (("message" : Str) = "kind") ∧ (("methods" : Str) == "name") = false ∧ ¬ (("methods" : Str) = "name") ∧ (("methods" : Str) == "parent") = false ∧ ¬ (("methods" : Str) = "parent") ∧ (("name" : Str) == "methods") = false ∧ ¬ (("name" : Str) = "methods") ∧ (("name" : Str) == "parent") = false ∧ ¬ (("name" : Str) = "parent") ∧ (("named" : Str) == "owner") = false ∧ ¬ (("named" : Str) = "owner") ∧ (("number" : Str) == "scope") = false ∧ ¬ (("number" : Str) = "scope") ∧ (("number" : Str) == "wanted") = false ∧ ¬ (("number" : Str) = "wanted") ∧ (("output" : Str) == "lines") = false ∧ ¬ (("output" : Str) = "lines") ∧ (("output" : Str) == "taken") = false ∧ ¬ (("output" : Str) = "taken") ∧ (("output" : Str) == "things") = false ∧ ¬ (("output" : Str) = "things") ∧ (("owner" : Str) == "named") = false ∧ ¬ (("owner" : Str) = "named") ∧ (("pairs" : Str) == "_rows") = false ∧ ¬ (("pairs" : Str) = "_rows") ∧ (("parent" : Str) == "methods") = false ∧ ¬ (("parent" : Str) = "methods") ∧ (("parent" : Str) == "name") = false ∧ ¬ (("parent" : Str) = "name") ∧ (("put" : Str) == "_rows") = false ∧ ¬ (("put" : Str) = "_rows") ∧ (("scope" : Str) == "number") = false ∧ ¬ (("scope" : Str) = "number") ∧ (("scope" : Str) == "wanted") = false ∧ ¬ (("scope" : Str) = "wanted") ∧ (("take_out" : Str) == "_rows") = false ∧ ¬ (("take_out" : Str) = "_rows") ∧ (("taken" : Str) == "lines") = false ∧ ¬ (("taken" : Str) = "lines") ∧ (("taken" : Str) == "output") = false ∧ ¬ (("taken" : Str) = "output") ∧ (("taken" : Str) == "things") = false ∧ ¬ (("taken" : Str) = "things") ∧ (("things" : Str) == "lines") = false ∧ ¬ (("things" : Str) = "lines") ∧ (("things" : Str) == "output") = false ∧ ¬ (("things" : Str) = "output") ∧ (("things" : Str) == "taken") = false ∧ ¬ (("things" : Str) = "taken") ∧ (("value_of" : Str) == "_rows") = false ∧ ¬ (("value_of" : Str) = "_rows") ∧ (("wanted" : Str) == "number") = false ∧ ¬ (("wanted" : Str) = "number") ∧ (("wanted" : Str) == "scope") = false ∧ ¬ (("wanted" : Str) = "scope") := by (repeat' apply And.intro) <;> decide +kernel
--!raised ScriptError
--!raises check_parts fitting_text reckoned added compared is_of binary unary make_list make_class make_map
--!skip checked_key put_key bounded equal is_true
--!gd VERBS: + - * / mod < <= > >= is
--!none range len int isinstance bool list tuple str abs min max dict zip enumerate
section
open PySem PySem.Spec PyProof.Rows L2 Fx
set_option maxHeartbeats 0
abbrev Rw : PySem.W.OpenRow := PySem.W.OpenLaw.row PySem.Challenge.rw_livequill_k18_operators_of_other_kinds
def nm0 : List Str := [("_wall" : Str), ("LivequillError" : Str), ("ScriptError" : Str), ("Ref" : Str), ("Builtin" : Str), ("key_of" : Str), ("Parts" : Str), ("Table" : Str), ("Instance" : Str), ("Kin" : Str), ("Closure" : Str), ("is_integer" : Str), ("thing_of" : Str), ("kind_of" : Str), ("is_true" : Str), ("equal" : Str), ("is_key" : Str), ("is_below" : Str), ("MOST_PARTS" : Str), ("MOST_CHARACTERS" : Str)]
def nm1 : List Str := [("ERROR" : Str), ("Store" : Str), ("GREATEST" : Str), ("bounded" : Str), ("fitting_text" : Str), ("check_parts" : Str), ("VERBS" : Str), ("unary" : Str), ("added" : Str), ("reckoned" : Str), ("compared" : Str), ("is_of" : Str), ("binary" : Str), ("checked_key" : Str), ("put_key" : Str), ("make_list" : Str), ("make_map" : Str), ("make_class" : Str), ("_law_cell" : Str), ("_law_is_integer" : Str)]
def nm2 : List Str := [("_law_begin" : Str), ("_law_draw" : Str), ("_law_pick" : Str), ("_law_text" : Str), ("_law_store" : Str), ("_law_value" : Str), ("_law_kind" : Str), ("_law_told" : Str), ("_law_added" : Str), ("_law_compared" : Str), ("_law_is" : Str), ("_law_negated" : Str)]
abbrev nms : List Str := nm0 ++ nm1 ++ nm2
def fa0 : List Hd.Fh := [.glo "Ref", .glo "Builtin", .glo "Parts", .glo "Table", .glo "Instance", .glo "Kin", .glo "Closure", .glo "Store", .glo "LivequillError", .glo "ScriptError", .cls "Ref", .cls "Builtin", .cls "Parts", .cls "Table", .cls "Instance", .cls "Kin", .cls "Closure", .cls "Store", .exc "LivequillError", .exc "ScriptError"]
def fa1 : List Hd.Fh := [.noat "ScriptError" "kind", .noat "ScriptError" "message", .sub "ScriptError" "ScriptError" true, .obj, .noat "Table" "_rows", .noat "Parts" "held", .noat "Store" "lines", .noat "Kin" "methods", .noat "Builtin" "name", .noat "Kin" "name", .noat "Instance" "named", .noat "Ref" "number", .noat "Closure" "number", .noat "Store" "output", .noat "Instance" "owner", .noat "Kin" "parent", .noat "Closure" "scope", .noat "Store" "taken", .noat "Store" "things", .noat "Closure" "wanted"]
def fa2 : List Hd.Fh := [.kio "Ref" "Ref", .kio "Ref" "Parts", .kio "Ref" "Table", .kio "Ref" "Instance", .kio "Ref" "Kin", .kio "Ref" "Builtin", .kio "Builtin" "Ref", .kio "Builtin" "Parts", .kio "Builtin" "Table", .kio "Builtin" "Instance", .kio "Builtin" "Kin", .kio "Builtin" "Builtin", .kio "Parts" "Ref", .kio "Parts" "Parts", .kio "Parts" "Table", .kio "Parts" "Instance", .kio "Parts" "Kin", .kio "Parts" "Builtin", .kio "Table" "Ref", .kio "Table" "Parts"]
def fa3 : List Hd.Fh := [.kio "Table" "Table", .kio "Table" "Instance", .kio "Table" "Kin", .kio "Table" "Builtin", .kio "Instance" "Ref", .kio "Instance" "Parts", .kio "Instance" "Table", .kio "Instance" "Instance", .kio "Instance" "Kin", .kio "Instance" "Builtin", .kio "Kin" "Ref", .kio "Kin" "Parts", .kio "Kin" "Table", .kio "Kin" "Instance", .kio "Kin" "Kin", .kio "Kin" "Builtin", .kio "Closure" "Ref", .kio "Closure" "Parts", .kio "Closure" "Table", .kio "Closure" "Instance"]
def fa4 : List Hd.Fh := [.kio "Closure" "Kin", .kio "Closure" "Builtin", .kio "Store" "Ref", .kio "Store" "Parts", .kio "Store" "Table", .kio "Store" "Instance", .kio "Store" "Kin", .kio "Store" "Builtin", .kib "NoneType" "Ref", .kib "NoneType" "Parts", .kib "NoneType" "Table", .kib "NoneType" "Instance", .kib "NoneType" "Kin", .kib "NoneType" "Builtin", .kib "bool" "Ref", .kib "bool" "Parts", .kib "bool" "Table", .kib "bool" "Instance", .kib "bool" "Kin", .kib "bool" "Builtin"]
def fa5 : List Hd.Fh := [.kib "int" "Ref", .kib "int" "Parts", .kib "int" "Table", .kib "int" "Instance", .kib "int" "Kin", .kib "int" "Builtin", .kib "str" "Ref", .kib "str" "Parts", .kib "str" "Table", .kib "str" "Instance", .kib "str" "Kin", .kib "str" "Builtin", .kib "list" "Ref", .kib "list" "Parts", .kib "list" "Table", .kib "list" "Instance", .kib "list" "Kin", .kib "list" "Builtin", .kib "tuple" "Ref", .kib "tuple" "Parts"]
def fa6 : List Hd.Fh := [.kib "tuple" "Table", .kib "tuple" "Instance", .kib "tuple" "Kin", .kib "tuple" "Builtin", .kib "dict" "Ref", .kib "dict" "Parts", .kib "dict" "Table", .kib "dict" "Instance", .kib "dict" "Kin", .kib "dict" "Builtin", .kob "Ref" "bool", .kob "Ref" "int", .kob "Ref" "str", .kob "Ref" "list", .kob "Ref" "tuple", .kob "Ref" "dict", .kob "Builtin" "bool", .kob "Builtin" "int", .kob "Builtin" "str", .kob "Builtin" "list"]
def fa7 : List Hd.Fh := [.kob "Builtin" "tuple", .kob "Builtin" "dict", .kob "Parts" "bool", .kob "Parts" "int", .kob "Parts" "str", .kob "Parts" "list", .kob "Parts" "tuple", .kob "Parts" "dict", .kob "Table" "bool", .kob "Table" "int", .kob "Table" "str", .kob "Table" "list", .kob "Table" "tuple", .kob "Table" "dict", .kob "Instance" "bool", .kob "Instance" "int", .kob "Instance" "str", .kob "Instance" "list", .kob "Instance" "tuple", .kob "Instance" "dict"]
def fa8 : List Hd.Fh := [.kob "Kin" "bool", .kob "Kin" "int", .kob "Kin" "str", .kob "Kin" "list", .kob "Kin" "tuple", .kob "Kin" "dict", .kob "Closure" "bool", .kob "Closure" "int", .kob "Closure" "str", .kob "Closure" "list", .kob "Closure" "tuple", .kob "Closure" "dict", .kob "Store" "bool", .kob "Store" "int", .kob "Store" "str", .kob "Store" "list", .kob "Store" "tuple", .kob "Store" "dict", .ne "Ref" "Builtin", .ne "Ref" "Parts"]
def fa9 : List Hd.Fh := [.ne "Ref" "Table", .ne "Ref" "Instance", .ne "Ref" "Kin", .ne "Ref" "Closure", .ne "Ref" "Store", .ne "Builtin" "Parts", .ne "Builtin" "Table", .ne "Builtin" "Instance", .ne "Builtin" "Kin", .ne "Builtin" "Closure", .ne "Builtin" "Store", .ne "Parts" "Table", .ne "Parts" "Instance", .ne "Parts" "Kin", .ne "Parts" "Closure", .ne "Parts" "Store", .ne "Table" "Instance", .ne "Table" "Kin", .ne "Table" "Closure", .ne "Table" "Store"]
def fa10 : List Hd.Fh := [.ne "Instance" "Kin", .ne "Instance" "Closure", .ne "Instance" "Store", .ne "Kin" "Closure", .ne "Kin" "Store", .ne "Closure" "Store", .glo "VERBS", .dict "VERBS" [("+", some (.str "add")), ("-", some (.str "subtract")), ("*", some (.str "multiply")), ("/", some (.str "divide")), ("mod", some (.str "divide")), ("<", none), ("<=", none), (">", none), (">=", none), ("is", none)], .glo "_law_cell", .keep "_law_cell", .glo "_law_begin", .keep "_law_begin", .glo "_law_draw", .keep "_law_draw", .meth "Ref" "__init__", .meth "Builtin" "__init__", .meth "Instance" "__init__", .meth "Kin" "__init__", .meth "Parts" "__init__", .meth "Closure" "__init__"]
def fa11 : List Hd.Fh := [.init "ScriptError", .meth "Table" "__init__", .meth "Store" "__init__", .meth "Store" "make", .meth "Store" "at", .glo "thing_of", .keep "thing_of", .glo "kind_of", .keep "kind_of", .glo "check_parts", .keep "check_parts", .glo "_law_pick", .keep "_law_pick", .glo "is_below", .keep "is_below", .glo "make_class", .keep "make_class", .glo "is_integer", .keep "is_integer", .glo "fitting_text"]
def fa12 : List Hd.Fh := [.keep "fitting_text", .glo "reckoned", .keep "reckoned", .glo "compared", .keep "compared", .glo "make_list", .keep "make_list", .glo "is_of", .keep "is_of", .glo "unary", .keep "unary", .glo "added", .keep "added", .glo "binary", .keep "binary", .glo "_law_text", .keep "_law_text", .glo "_law_kind", .keep "_law_kind", .glo "_law_told"]
def fa13 : List Hd.Fh := [.keep "_law_told", .glo "_law_value", .keep "_law_value", .glo "_law_compared", .keep "_law_compared", .glo "_law_is_integer", .keep "_law_is_integer", .glo "make_map", .keep "make_map", .glo "_law_store", .keep "_law_store", .meth "Ref" "__eq__", .meth "Builtin" "__eq__", .glo "_law_is", .keep "_law_is", .glo "_law_added", .keep "_law_added", .glo "_law_negated", .keep "_law_negated", .glo "law"]
def fa14 : List Hd.Fh := [.keep "law", .free "abs", .free "bool", .free "dict", .free "enumerate", .free "int", .free "isinstance", .free "len", .free "list", .free "max", .free "min", .free "range", .free "str", .free "tuple", .free "zip", .str "ERROR" "Error", .int "MOST_CHARACTERS" 1000, .int "MOST_PARTS" 1000]
abbrev fas : List Hd.Fh := fa0 ++ (fa1 ++ (fa2 ++ (fa3 ++ (fa4 ++ (fa5 ++ (fa6 ++ (fa7 ++ (fa8 ++ (fa9 ++ (fa10 ++ (fa11 ++ (fa12 ++ (fa13 ++ (fa14))))))))))))))
def fns : List Hd.Df := [⟨.glo "_law_cell", "_law_cell", "_law_cell", s_law_cell⟩,
  ⟨.glo "_law_begin", "_law_begin", "_law_begin", s_law_begin⟩,
  ⟨.glo "_law_draw", "_law_draw", "_law_draw", s_law_draw⟩,
  ⟨.meth "Ref" "__init__", "__init__", "Ref.__init__", s_Ref___init__⟩,
  ⟨.meth "Builtin" "__init__", "__init__", "Builtin.__init__", s_Builtin___init__⟩,
  ⟨.meth "Instance" "__init__", "__init__", "Instance.__init__", s_Instance___init__⟩,
  ⟨.meth "Kin" "__init__", "__init__", "Kin.__init__", s_Kin___init__⟩,
  ⟨.meth "Parts" "__init__", "__init__", "Parts.__init__", s_Parts___init__⟩,
  ⟨.meth "Closure" "__init__", "__init__", "Closure.__init__", s_Closure___init__⟩,
  ⟨.meth "ScriptError" "__init__", "__init__", "ScriptError.__init__", s_ScriptError___init__⟩,
  ⟨.meth "Table" "__init__", "__init__", "Table.__init__", s_Table___init__⟩,
  ⟨.meth "Store" "__init__", "__init__", "Store.__init__", s_Store___init__⟩,
  ⟨.meth "Store" "make", "make", "Store.make", s_Store_make⟩,
  ⟨.meth "Store" "at", "at", "Store.at", s_Store_at⟩,
  ⟨.glo "thing_of", "thing_of", "thing_of", s_thing_of⟩,
  ⟨.glo "kind_of", "kind_of", "kind_of", s_kind_of⟩,
  ⟨.glo "check_parts", "check_parts", "check_parts", s_check_parts⟩,
  ⟨.glo "_law_pick", "_law_pick", "_law_pick", s_law_pick⟩,
  ⟨.glo "is_below", "is_below", "is_below", s_is_below⟩,
  ⟨.glo "make_class", "make_class", "make_class", s_make_class⟩,
  ⟨.glo "is_integer", "is_integer", "is_integer", s_is_integer⟩,
  ⟨.glo "fitting_text", "fitting_text", "fitting_text", s_fitting_text⟩,
  ⟨.glo "reckoned", "reckoned", "reckoned", s_reckoned⟩,
  ⟨.glo "compared", "compared", "compared", s_compared⟩,
  ⟨.glo "make_list", "make_list", "make_list", s_make_list⟩,
  ⟨.glo "is_of", "is_of", "is_of", s_is_of⟩,
  ⟨.glo "unary", "unary", "unary", s_unary⟩,
  ⟨.glo "added", "added", "added", s_added⟩,
  ⟨.glo "binary", "binary", "binary", s_binary⟩,
  ⟨.glo "_law_text", "_law_text", "_law_text", s_law_text⟩,
  ⟨.glo "_law_kind", "_law_kind", "_law_kind", s_law_kind⟩,
  ⟨.glo "_law_told", "_law_told", "_law_told", s_law_told⟩,
  ⟨.glo "_law_value", "_law_value", "_law_value", s_law_value⟩,
  ⟨.glo "_law_compared", "_law_compared", "_law_compared", s_law_compared⟩,
  ⟨.glo "_law_is_integer", "_law_is_integer", "_law_is_integer", s_law_is_integer⟩,
  ⟨.glo "make_map", "make_map", "make_map", s_make_map⟩,
  ⟨.glo "_law_store", "_law_store", "_law_store", s_law_store⟩,
  ⟨.meth "Ref" "__eq__", "__eq__", "Ref.__eq__", s_Ref___eq__⟩,
  ⟨.meth "Builtin" "__eq__", "__eq__", "Builtin.__eq__", s_Builtin___eq__⟩,
  ⟨.glo "_law_is", "_law_is", "_law_is", s_law_is⟩,
  ⟨.glo "_law_added", "_law_added", "_law_added", s_law_added⟩,
  ⟨.glo "_law_negated", "_law_negated", "_law_negated", s_law_negated⟩,
  ⟨.glo "law", "law", "law", s_law⟩]
def dcs : List (Str × List Str) := [("VERBS", ["+", "-", "*", "/", "mod"])]
def rt0 : List Str := [("LivequillError" : Str), ("ScriptError" : Str), ("Ref" : Str), ("Builtin" : Str), ("Parts" : Str), ("Table" : Str), ("Instance" : Str), ("Kin" : Str), ("Closure" : Str), ("Store" : Str), ("VERBS" : Str), ("_law_cell" : Str), ("_law_begin" : Str), ("_law_draw" : Str), ("thing_of" : Str), ("kind_of" : Str), ("check_parts" : Str), ("_law_pick" : Str), ("is_below" : Str), ("make_class" : Str)]
def rt1 : List Str := [("is_integer" : Str), ("fitting_text" : Str), ("reckoned" : Str), ("compared" : Str), ("make_list" : Str), ("is_of" : Str), ("unary" : Str), ("added" : Str), ("binary" : Str), ("_law_text" : Str), ("_law_kind" : Str), ("_law_told" : Str), ("_law_value" : Str), ("_law_compared" : Str), ("_law_is_integer" : Str), ("make_map" : Str), ("_law_store" : Str), ("_law_is" : Str), ("_law_added" : Str), ("_law_negated" : Str)]
def rt2 : List Str := [("law" : Str)]
abbrev rts : List Str := rt0 ++ rt1 ++ rt2
abbrev hk : PySem.W.Hook := Hd.hook 5 rts fas fns dcs
def ob (s : PySem.W.SharedT) : Hd.Al := Hd.obsG 5 rts fas fns dcs (HandSHeadRun.getT s)
theorem ob_eq (s : PySem.W.SharedT) : ob s = hk.obs s.abs := Hd.obsG_eq (HandSHeadRun.getT_eq s)
def Run (w : World) : Prop := HandSHeadRun.RunEq Rw (PySem.W.view Rw.prog [60]) hk ob 300000 nms w
theorem run_f (w : World) : Run (w.withFollow "special-get-raises" false) := fun os => by kernel_rfl
theorem run_t (w : World) : Run (w.withFollow "special-get-raises" true) := fun os => by kernel_rfl
theorem run (w : World) : Run w := PySem.W.byRow2 "special-get-raises" (P := Run) run_f run_t w
end
structure TxD (w : World) (K : PySem.W.Frag) (mg : Str → Option Value) : Prop where
  d_VERBS : GDict K w mg "VERBS" [("+", some (.str "add")), ("-", some (.str "subtract")), ("*", some (.str "multiply")), ("/", some (.str "divide")), ("mod", some (.str "divide")), ("<", none), ("<=", none), (">", none), (">=", none), ("is", none)]
structure Txt (K : PySem.W.Frag) (mg : Str → Option Value) (c : Cs) : Prop where
  no_abs : mg "abs" = none
  no_bool : mg "bool" = none
  no_dict : mg "dict" = none
  no_enumerate : mg "enumerate" = none
  no_int : mg "int" = none
  no_isinstance : mg "isinstance" = none
  no_len : mg "len" = none
  no_list : mg "list" = none
  no_max : mg "max" = none
  no_min : mg "min" = none
  no_range : mg "range" = none
  no_str : mg "str" = none
  no_tuple : mg "tuple" = none
  no_zip : mg "zip" = none
  g_ERROR : ∃ t, mg "ERROR" = some (.str "Error" t)
  g_MOST_CHARACTERS : ∃ t, mg "MOST_CHARACTERS" = some (.int 1000 t)
  g_MOST_PARTS : ∃ t, mg "MOST_PARTS" = some (.int 1000 t)
  mg_Ref : mg "Ref" = some (.ref c.Ref)
  cl_Ref : Cls K c.Ref
  mk_Ref : MkAt K mg "Ref" c.Ref
  mg_Builtin : mg "Builtin" = some (.ref c.Builtin)
  cl_Builtin : Cls K c.Builtin
  mk_Builtin : MkAt K mg "Builtin" c.Builtin
  mg_Parts : mg "Parts" = some (.ref c.Parts)
  cl_Parts : Cls K c.Parts
  mk_Parts : MkAt K mg "Parts" c.Parts
  mg_Table : mg "Table" = some (.ref c.Table)
  cl_Table : Cls K c.Table
  mk_Table : MkAt K mg "Table" c.Table
  mg_Instance : mg "Instance" = some (.ref c.Instance)
  cl_Instance : Cls K c.Instance
  mk_Instance : MkAt K mg "Instance" c.Instance
  mg_Kin : mg "Kin" = some (.ref c.Kin)
  cl_Kin : Cls K c.Kin
  mk_Kin : MkAt K mg "Kin" c.Kin
  mg_Closure : mg "Closure" = some (.ref c.Closure)
  cl_Closure : Cls K c.Closure
  mk_Closure : MkAt K mg "Closure" c.Closure
  mg_Store : mg "Store" = some (.ref c.Store)
  cl_Store : Cls K c.Store
  mk_Store : MkAt K mg "Store" c.Store
  pl__rows : Plain K [c.Table] "_rows"
  pl_held : Plain K [c.Parts] "held"
  pl_lines : Plain K [c.Store] "lines"
  pl_methods : Plain K [c.Kin] "methods"
  pl_name : Plain K [c.Builtin, c.Kin] "name"
  pl_named : Plain K [c.Instance] "named"
  pl_number : Plain K [c.Ref, c.Closure] "number"
  pl_output : Plain K [c.Store] "output"
  pl_owner : Plain K [c.Instance] "owner"
  pl_parent : Plain K [c.Kin] "parent"
  pl_scope : Plain K [c.Closure] "scope"
  pl_taken : Plain K [c.Store] "taken"
  pl_things : Plain K [c.Store] "things"
  pl_wanted : Plain K [c.Closure] "wanted"
  xpl_kind : XPlain K [c.ScriptError] "kind"
  xpl_message : XPlain K [c.ScriptError] "message"
  xf : ∀ C ∈ [c.LivequillError, c.ScriptError], ExcFact K C
  mg_LivequillError : mg "LivequillError" = some (.ref c.LivequillError)
  mg_ScriptError : mg "ScriptError" = some (.ref c.ScriptError)
  xn_kind_ScriptError : PySem.W.findIn K (.ref c.ScriptError) "kind" = some none
  xn_message_ScriptError : PySem.W.findIn K (.ref c.ScriptError) "message" = some none
  em_ScriptError_ScriptError : PySem.W.exmOne K (.ref c.ScriptError) (.ref c.ScriptError) = some true
  ob : ObjFact K
  kit : Kit K [c.Ref, c.Builtin, c.Parts, c.Table, c.Instance, c.Kin, c.Closure, c.Store] [c.Ref, c.Parts, c.Table, c.Instance, c.Kin, c.Builtin]
  ne : (c.Ref = c.Builtin) = False ∧ (c.Ref = c.Parts) = False ∧ (c.Ref = c.Table) = False ∧ (c.Ref = c.Instance) = False ∧ (c.Ref = c.Kin) = False ∧ (c.Ref = c.Closure) = False ∧ (c.Ref = c.Store) = False ∧ (c.Builtin = c.Ref) = False ∧ (c.Builtin = c.Parts) = False ∧ (c.Builtin = c.Table) = False ∧ (c.Builtin = c.Instance) = False ∧ (c.Builtin = c.Kin) = False ∧ (c.Builtin = c.Closure) = False ∧ (c.Builtin = c.Store) = False ∧ (c.Parts = c.Ref) = False ∧ (c.Parts = c.Builtin) = False ∧ (c.Parts = c.Table) = False ∧ (c.Parts = c.Instance) = False ∧ (c.Parts = c.Kin) = False ∧ (c.Parts = c.Closure) = False ∧ (c.Parts = c.Store) = False ∧ (c.Table = c.Ref) = False ∧ (c.Table = c.Builtin) = False ∧ (c.Table = c.Parts) = False ∧ (c.Table = c.Instance) = False ∧ (c.Table = c.Kin) = False ∧ (c.Table = c.Closure) = False ∧ (c.Table = c.Store) = False ∧ (c.Instance = c.Ref) = False ∧ (c.Instance = c.Builtin) = False ∧ (c.Instance = c.Parts) = False ∧ (c.Instance = c.Table) = False ∧ (c.Instance = c.Kin) = False ∧ (c.Instance = c.Closure) = False ∧ (c.Instance = c.Store) = False ∧ (c.Kin = c.Ref) = False ∧ (c.Kin = c.Builtin) = False ∧ (c.Kin = c.Parts) = False ∧ (c.Kin = c.Table) = False ∧ (c.Kin = c.Instance) = False ∧ (c.Kin = c.Closure) = False ∧ (c.Kin = c.Store) = False ∧ (c.Closure = c.Ref) = False ∧ (c.Closure = c.Builtin) = False ∧ (c.Closure = c.Parts) = False ∧ (c.Closure = c.Table) = False ∧ (c.Closure = c.Instance) = False ∧ (c.Closure = c.Kin) = False ∧ (c.Closure = c.Store) = False ∧ (c.Store = c.Ref) = False ∧ (c.Store = c.Builtin) = False ∧ (c.Store = c.Parts) = False ∧ (c.Store = c.Table) = False ∧ (c.Store = c.Instance) = False ∧ (c.Store = c.Kin) = False ∧ (c.Store = c.Closure) = False
section
variable {P : Program} {w : World} {K : PySem.W.Frag} {mg : Str → Option Value} {base : Heap} {c : Cs}
/-- the law's own state: a number, a place, the script; H0: the heap at the law's start -/
structure Dr (K : PySem.W.Frag) (H0 : Hp) (s sc : Addr) (ns : List Int) (H : Hp) : Prop where
  st : ∃ a k : Int, H s = some (.lst [.int a, .int k, .ref sc]) ∧ 0 ≤ a ∧ 0 ≤ k
  sq : SqL K H0 sc (ns.map V.int)
  sm : Same H0 H
  nw : H0 s = none
  le : ns.length ≤ 63
theorem same_keep {H0 H H' : Hp} {ps : List Addr} (s : Same H0 H) (k : Keep ps H H') (n : ∀ q ∈ ps, H0 q = none) : Same H0 H' := fun a o e => k a o (fun m => by rw [n a m] at e; cases e) (s a o e)
theorem Dr.keep {H0 : Hp} {s sc : Addr} {ns : List Int} {ps : List Addr} {H H' : Hp} (d : Dr K H0 s sc ns H) (k : Keep ps H H') (n1 : s ∉ ps) (n2 : ∀ q ∈ ps, H0 q = none) : Dr K H0 s sc ns H' := by
  obtain ⟨a, j, e, h1, h2⟩ := d.st
  exact ⟨⟨a, j, k _ _ n1 e, h1, h2⟩, d.sq, same_keep d.sm k n2, d.nw, d.le⟩
theorem Dr.same {H0 : Hp} {s sc : Addr} {ns : List Int} {H H' : Hp} (d : Dr K H0 s sc ns H) (k : Same H H') : Dr K H0 s sc ns H' := d.keep (Keep.of (ps := []) k) (by simp) (fun _ h => by cases h)
def spCell (K : PySem.W.Frag) : Sp := fun vs H Q _ => match vs with
  | [.ref a, .int k] => ∃ ns : List Int, SqL K H a (ns.map V.int) ∧ ns.length ≤ 63 ∧ 0 ≤ k ∧ ∀ v : Int, Q (.int v) H
  | _ => False
theorem ok_cell (A : At K mg "_law_cell" "_law_cell" s_law_cell ["script", "k"]) (T : Txt K mg c) : Has P w K mg base CX0 "_law_cell" 1 ["script", "k"] (spCell K) := by
  have Sc := sc_law_cell
  refine has_of A Sc (fun vs H Q E h => ?_) (fun cdv f A outer s H vs Q E hr h => ?_)
  · unfold spCell at h; split at h; rfl; cases h
  · unfold spCell at h
    split at h
    · rename_i a k
      obtain ⟨ns, hS, hn, h0, kk⟩ := h
      refine ⟨_, (pss_cons (ps_if (pt_cmpR op_fLt (fe_var 1) (pe_callB call_fLen (by rfl) T.no_len (by decide +kernel) (pa_cons (fe_var 0) pa_nil)) (nomark _)) (pss_one (ps_ret (pe_ix ix_fx (fe_var 0) (fe_var 1) (fun _ _ => rfl)))) pss_nil)
      (pss_one (ps_ret pe_int))), ?_⟩
      walk_at "fx0"
      walk_at "fx"
      refine ifs_ ?_
      walk_at "fx"
      refine ⟨_, .inl hS, ?_⟩
      rw [List.length_map]
      split
      · rename_i hlt
        obtain ⟨z, ez⟩ := at_ints (ns := ns) (i := k) h0 hlt
        exact ⟨_, .inl hS, _, ez, kk z⟩
      · exact kk 0
    · cases h
def spBegin (K : PySem.W.Frag) : Sp := fun vs H Q _ => match vs with
  | [.ref a, .int k] => 0 ≤ k ∧ ∀ s H1, H s = none → Same H H1 → H1 s = some (.lst [.int 0, .int k, .ref a]) → Q (.ref s) H1
  | _ => False
theorem ok_begin (A : At K mg "_law_begin" "_law_begin" s_law_begin ["script", "k"]) (T : Txt K mg c) : Has P w K mg base CX0 "_law_begin" 1 ["script", "k"] (spBegin K) := by
  have Sc := sc_law_begin
  refine has_of A Sc (fun vs H Q E h => ?_) (fun cdv f A outer s H vs Q E hr h => ?_)
  · unfold spBegin at h; split at h; rfl; cases h
  · unfold spBegin at h
    split at h
    · rename_i a k
      obtain ⟨h0, kk⟩ := h
      refine ⟨_, (pss_one (ps_ret (fe_lst (pa_cons pe_int (pa_cons (fe_var 1) (pa_cons (fe_var 0) pa_nil)))))), ?_⟩
      walk_at "fx0"
      walk_at "fx"
      exact kk
    · cases h
def spDraw (K : PySem.W.Frag) : Sp := fun vs H Q _ => match vs with
  | [.ref s, .int m] => ∃ H0 sc ns, Dr K H0 s sc ns H ∧ 0 < m ∧ m < 1000000000000000000000000000000 ∧ ∀ H1 (d : Int), Keep [s] H H1 → Dr K H0 s sc ns H1 → 0 ≤ d → d < m → Q (.int d) H1
  | _ => False
theorem big_mul {i : Int} (h0 : 0 ≤ i) (h : i < 2 ^ 100) : IntMulOk i i := by
  have b : Builtin.Int.intBits i ≤ 128 := by
    unfold Builtin.Int.intBits
    by_cases hz : i = 0
    · subst hz; decide
    · rw [if_neg (by simpa using hz)]
      have : i.natAbs.log2 < 100 := (Nat.log2_lt (by omega)).mpr (by omega)
      omega
  exact IntMulOk.of_le b b (by decide)
theorem ok_draw (A : At K mg "_law_draw" "_law_draw" s_law_draw ["state", "many"]) (T : Txt K mg c) (H_law_cell : Has P w K mg base CX0 "_law_cell" 1 ["script", "k"] (spCell K)) : Has P w K mg base CX0 "_law_draw" 2 ["state", "many"] (spDraw K) := by
  have Sc := sc_law_draw
  refine has_of A Sc (fun vs H Q E h => ?_) (fun cdv f A outer s H vs Q E hr h => ?_)
  · unfold spDraw at h; split at h; rfl; cases h
  · unfold spDraw at h
    split at h
    · rename_i st m
      obtain ⟨H0, sc, ns, D, h0, h1, kk⟩ := h
      obtain ⟨x, k, es, hx, hk⟩ := D.st
      refine ⟨_, (pss_cons (ps_if (pt_cmpR op_fLt (pe_ix ix_fx (fe_var 0) pe_int (fun _ _ => rfl)) (fe_var 1) (nomark _)) (pss_cons (ps_set (i := 2) Sc.nd rfl (.inl rfl) (pe_ix ix_fx (fe_var 0) pe_int (fun _ _ => rfl)))
      (pss_cons (ps_set (i := 3) Sc.nd rfl (.inl rfl) (fe_call H_law_cell (hr.mono (by walk_at "rm")) (by rfl) pass0 (pa_cons (pe_ix ix_fx (fe_var 0) pe_int (fun _ _ => rfl)) (pa_cons (fe_var 2) pa_nil))))
      (pss_cons (ps_set (i := 4) Sc.nd rfl (.inl rfl) pe_int)
      (pss_cons (ps_asg (pe_op op_fAdd (fe_var 2) pe_int) (pg_sub (fe_var 0) pe_int set_fx))
      (pss_cons (ps_asg (pe_callB call_fAbs (by rfl) T.no_abs (by decide +kernel) (pa_cons (fe_var 3) pa_nil)) (pg_sub (fe_var 0) pe_int set_fx))
      (pss_one (ps_if (pt_chain op_fLt op_fLt (pe_un un_fNeg pe_int) (fe_var 3) pe_int) (pss_cons (ps_set (i := 5) Sc.nd rfl (.inl rfl) (pe_op op_fMod (pe_callTy call_fInt (by rfl) T.no_int (by decide +kernel) (pa_cons (pe_op op_fAdd (pe_op op_fMul (fe_var 3) pe_int) (pe_op op_fMul (pe_op op_fAdd (fe_var 2) pe_int) pe_int)) pa_nil)) (fe_var 4)))
      (pss_one (ps_asg (pe_op op_fAdd (pe_op op_fMod (pe_callTy call_fInt (by rfl) T.no_int (by decide +kernel) (pa_cons (pe_op op_fAdd (pe_op op_fAdd (pe_op op_fMul (fe_var 5) (fe_var 5)) (pe_op op_fMul pe_int (fe_var 5))) (fe_var 2)) pa_nil)) (fe_var 4)) (fe_var 4)) (pg_sub (fe_var 0) pe_int set_fx)))) pss_nil))))))) pss_nil)
      (pss_cons (ps_set (i := 6) Sc.nd rfl (.inl rfl) (pe_op op_fMod (pe_callTy call_fInt (by rfl) T.no_int (by decide +kernel) (pa_cons (pe_ix ix_fx (fe_var 0) pe_int (fun _ _ => rfl)) pa_nil)) (fe_var 1)))
      (pss_cons (ps_asg (pe_op op_fDiv (pe_ix ix_fx (fe_var 0) pe_int (fun _ _ => rfl)) (fe_var 1)) (pg_sub (fe_var 0) pe_int set_fx))
      (pss_one (ps_ret (fe_var 6)))))), ?_⟩
      walk_at "fx0"
      walk_at "fx"
      refine cut_ fun N hN => ifs_ ?_
      walk_at "fx"
      refine ⟨_, rl_l es, _, atI_nat (j := 0) rfl, ?_⟩
      walk_at "fx"
      have fin : ∀ (y : Int) (k' : Int) (v2 v3 v4 v5 : Option V) (H1 : Hp), Keep [st] H H1 → H1 st = some (.lst [.int y, .int k', .ref sc]) → 0 ≤ y → 0 ≤ k' → N [some (.ref st), some (.int m), v2, v3, v4, v5, none] H1 := by
        intro y k' v3 v4 v5 v6 H1 kp e1 g0 g1
        refine hN _ _ ?_
        walk_at "fx"
        refine ⟨_, rl_l e1, _, atI_nat (j := 0) rfl, h0, _, rl_l e1, _, atI_nat (j := 0) rfl, wide_div (b := 100) h0 (by omega) (by decide) (by decide), ?_⟩
        rw [e1]
        refine ⟨0, rfl, ?_⟩
        have kp2 : Keep [st] H (upd H1 st (.lst ([V.int y, .int k', .ref sc].set 0 (.int (y / m))))) := kp.upd (by simp)
        exact kk _ _ kp2 ⟨⟨y / m, k', upd_same, Int.ediv_nonneg g0 (by omega), g1⟩, D.sq, same_keep D.sm kp2 (by intro q hq; rw [List.mem_singleton.mp hq]; exact D.nw), D.nw, D.le⟩ (emod_lo y h0) (emod_hi y h0)
      split
      · refine ⟨_, rl_l es, _, atI_nat (j := 1) rfl, _, rl_l es, _, atI_nat (j := 2) rfl, ?_⟩
        unfold spCell
        refine ⟨ns, D.sm.seq D.sq, D.le, hk, fun v => ?_⟩
        walk_at "fx"
        simp only [es]
        walk_at "fx"
        refine ⟨1, rfl, 0, rfl, ?_⟩
        refine ifs_ ?_
        walk_at "fx"
        have kp : Keep [st] H (upd (upd H st (.lst [.int x, .int (k + 1), .ref sc])) st (.lst [.int (if v < 0 then -v else v), .int (k + 1), .ref sc])) := (Keep.refl.upd (by simp)).upd (by simp)
        have ha : 0 ≤ (if v < 0 then -v else v) := by split <;> omega
        split
        · split
          · have g0 := emod_lo (v * 2654435761 + (k + 1) * 6700417) (m := 618970019642690137449562111) (by decide)
            have g1 := emod_hi (v * 2654435761 + (k + 1) * 6700417) (m := 618970019642690137449562111) (by decide)
            generalize (v * 2654435761 + (k + 1) * 6700417) % 618970019642690137449562111 = y at g0 g1
            have g2 := emod_lo (y * y + 7 * y + k) (m := 618970019642690137449562111) (by decide)
            refine ⟨by walk_at "mul", by walk_at "mul", big_mul g0 (by omega), by walk_at "mul", 0, rfl, ?_⟩
            exact fin _ (k + 1) _ _ _ _ _ (kp.upd (by simp)) upd_same (by omega) (by omega)
          · exact fin _ (k + 1) _ _ _ _ _ kp upd_same ha (by omega)
        · exact fin _ (k + 1) _ _ _ _ _ kp upd_same ha (by omega)
      · exact fin x k _ _ _ _ H Keep.refl es hx hk
    · cases h
end

section
variable {P : Program} {w : World} {K : PySem.W.Frag} {mg : Str → Option Value} {base : Heap} {c : Cs}
def spMk_Ref (K : PySem.W.Frag) (c : Cs) : Sp := fun vs H Q _ => match vs with
  | [v_number] => ∀ y dx H1, H y = none → Same H H1 → H1 y = some (.ins c.Ref dx [("number", v_number)]) → Q (.ref y) H1
  | _ => False
theorem mk_Ref (A : AtM K c.Ref "__init__" "Ref.__init__" s_Ref___init__ ["self", "number"]) (T : Txt K mg c) : HasC P w K mg base CX0 c.Ref "Ref" 1 ["self", "number"] (spMk_Ref K c) := by
  have Sc := sc_Ref___init__
  refine hasC_of T.mk_Ref A Sc (fun vs H Q E h => ?_) (fun cdv f A outer s H vs Q E y dx H0 hr h hy hs h0 => ?_)
  · unfold spMk_Ref at h; split at h; rfl; cases h
  · unfold spMk_Ref at h
    split at h
    · rename_i v_number
      refine ⟨_, (pss_one (fs_fld (fe_var 0) (fe_var 1) T.pl_number rfl)), ?_⟩
      walk_at "fx0"
      walk_at "ox"
      simp only [h0]
      walk_at "ox"
      first
        | exact h y dx _ hy (mk_same hs hy) upd_same
        | exact ⟨by decide, h y dx _ hy (mk_same hs hy) upd_same⟩
    · cases h
def spMk_Builtin (K : PySem.W.Frag) (c : Cs) : Sp := fun vs H Q _ => match vs with
  | [v_name] => ∀ y dx H1, H y = none → Same H H1 → H1 y = some (.ins c.Builtin dx [("name", v_name)]) → Q (.ref y) H1
  | _ => False
theorem mk_Builtin (A : AtM K c.Builtin "__init__" "Builtin.__init__" s_Builtin___init__ ["self", "name"]) (T : Txt K mg c) : HasC P w K mg base CX0 c.Builtin "Builtin" 1 ["self", "name"] (spMk_Builtin K c) := by
  have Sc := sc_Builtin___init__
  refine hasC_of T.mk_Builtin A Sc (fun vs H Q E h => ?_) (fun cdv f A outer s H vs Q E y dx H0 hr h hy hs h0 => ?_)
  · unfold spMk_Builtin at h; split at h; rfl; cases h
  · unfold spMk_Builtin at h
    split at h
    · rename_i v_name
      refine ⟨_, (pss_one (fs_fld (fe_var 0) (fe_var 1) T.pl_name rfl)), ?_⟩
      walk_at "fx0"
      walk_at "ox"
      simp only [h0]
      walk_at "ox"
      first
        | exact h y dx _ hy (mk_same hs hy) upd_same
        | exact ⟨by decide, h y dx _ hy (mk_same hs hy) upd_same⟩
    · cases h
def spMk_Instance (K : PySem.W.Frag) (c : Cs) : Sp := fun vs H Q _ => match vs with
  | [v_owner] => ∀ y dx p_named H1, H y = none → Same H H1 → H1 y = some (.ins c.Instance dx [("owner", v_owner), ("named", (.ref p_named))]) → H p_named = none → H1 p_named = some (.dK []) → p_named ≠ y → Q (.ref y) H1
  | _ => False
theorem mk_Instance (A : AtM K c.Instance "__init__" "Instance.__init__" s_Instance___init__ ["self", "owner"]) (T : Txt K mg c) : HasC P w K mg base CX0 c.Instance "Instance" 1 ["self", "owner"] (spMk_Instance K c) := by
  have Sc := sc_Instance___init__
  refine hasC_of T.mk_Instance A Sc (fun vs H Q E h => ?_) (fun cdv f A outer s H vs Q E y dx H0 hr h hy hs h0 => ?_)
  · unfold spMk_Instance at h; split at h; rfl; cases h
  · unfold spMk_Instance at h
    split at h
    · rename_i v_owner
      refine ⟨_, (pss_cons (fs_fld (fe_var 0) (fe_var 1) T.pl_owner rfl)
      (pss_one (fs_fld (fe_var 0) fe_dnew T.pl_named rfl))), ?_⟩
      walk_at "fx0"
      walk_at "ox"
      simp only [h0]
      walk_at "ox"
      intro p_named G_named n_named s_named e_named
      have ny_named : p_named ≠ y := fun q => by rw [q, upd_same] at n_named; cases n_named
      have y_named := s_named _ _ (upd_same)
      have t_named := (mk_same hs hy).trans s_named
      have f_named := Same.free (mk_same hs hy) n_named
      simp only [y_named]
      walk_at "ox"
      first
        | exact h y dx p_named _ hy (mk_same t_named hy) upd_same f_named ((upd_ne ny_named).trans e_named) ny_named
        | exact ⟨by decide, h y dx p_named _ hy (mk_same t_named hy) upd_same f_named ((upd_ne ny_named).trans e_named) ny_named⟩
    · cases h
def spMk_Kin (K : PySem.W.Frag) (c : Cs) : Sp := fun vs H Q _ => match vs with
  | [v_name, v_parent] => ∀ y dx p_methods H1, H y = none → Same H H1 → H1 y = some (.ins c.Kin dx [("name", v_name), ("parent", v_parent), ("methods", (.ref p_methods))]) → H p_methods = none → H1 p_methods = some (.dK []) → p_methods ≠ y → Q (.ref y) H1
  | _ => False
theorem mk_Kin (A : AtM K c.Kin "__init__" "Kin.__init__" s_Kin___init__ ["self", "name", "parent"]) (T : Txt K mg c) : HasC P w K mg base CX0 c.Kin "Kin" 1 ["self", "name", "parent"] (spMk_Kin K c) := by
  have Sc := sc_Kin___init__
  refine hasC_of T.mk_Kin A Sc (fun vs H Q E h => ?_) (fun cdv f A outer s H vs Q E y dx H0 hr h hy hs h0 => ?_)
  · unfold spMk_Kin at h; split at h; rfl; cases h
  · unfold spMk_Kin at h
    split at h
    · rename_i v_name v_parent
      refine ⟨_, (pss_cons (fs_fld (fe_var 0) (fe_var 1) T.pl_name rfl)
      (pss_cons (fs_fld (fe_var 0) (fe_var 2) T.pl_parent rfl)
      (pss_one (fs_fld (fe_var 0) fe_dnew T.pl_methods rfl)))), ?_⟩
      walk_at "fx0"
      walk_at "ox"
      simp only [h0]
      walk_at "ox"
      intro p_methods G_methods n_methods s_methods e_methods
      have ny_methods : p_methods ≠ y := fun q => by rw [q, upd_same] at n_methods; cases n_methods
      have y_methods := s_methods _ _ (upd_same)
      have t_methods := (mk_same hs hy).trans s_methods
      have f_methods := Same.free (mk_same hs hy) n_methods
      simp only [y_methods]
      walk_at "ox"
      first
        | exact h y dx p_methods _ hy (mk_same t_methods hy) upd_same f_methods ((upd_ne ny_methods).trans e_methods) ny_methods
        | exact ⟨by decide, h y dx p_methods _ hy (mk_same t_methods hy) upd_same f_methods ((upd_ne ny_methods).trans e_methods) ny_methods⟩
    · cases h
def spMk_Parts (K : PySem.W.Frag) (c : Cs) : Sp := fun vs H Q _ => match vs with
  | [.ref v_held] => ∃ xs_held, Rl K H v_held xs_held ∧ ∀ y dx p_held H1, H y = none → Same H H1 → H1 y = some (.ins c.Parts dx [("held", (.ref p_held))]) → H p_held = none → H1 p_held = some (.lst xs_held) → p_held ≠ y → Q (.ref y) H1
  | _ => False
theorem mk_Parts (A : AtM K c.Parts "__init__" "Parts.__init__" s_Parts___init__ ["self", "held"]) (T : Txt K mg c) : HasC P w K mg base CX0 c.Parts "Parts" 1 ["self", "held"] (spMk_Parts K c) := by
  have Sc := sc_Parts___init__
  refine hasC_of T.mk_Parts A Sc (fun vs H Q E h => ?_) (fun cdv f A outer s H vs Q E y dx H0 hr h hy hs h0 => ?_)
  · unfold spMk_Parts at h; split at h; rfl; cases h
  · unfold spMk_Parts at h
    split at h
    · rename_i v_held
      obtain ⟨xs_held, r_held, h⟩ := h
      refine ⟨_, (pss_one (fs_fld (fe_var 0) (pe_callTy call_fListOf (by rfl) T.no_list (by decide +kernel) (pa_cons (fe_var 1) pa_nil)) T.pl_held rfl)), ?_⟩
      walk_at "fx0"
      walk_at "ox"
      refine ⟨_, rl_keep (hs) r_held, ?_⟩
      intro p_held G_held n_held s_held e_held
      have ny_held : p_held ≠ y := fun q => by rw [q, h0] at n_held; cases n_held
      have y_held := s_held _ _ (h0)
      have t_held := (hs).trans s_held
      have f_held := Same.free (hs) n_held
      simp only [y_held]
      walk_at "ox"
      first
        | exact h y dx p_held _ hy (mk_same t_held hy) upd_same f_held ((upd_ne ny_held).trans e_held) ny_held
        | exact ⟨by decide, h y dx p_held _ hy (mk_same t_held hy) upd_same f_held ((upd_ne ny_held).trans e_held) ny_held⟩
    · cases h
def spMk_Closure (K : PySem.W.Frag) (c : Cs) : Sp := fun vs H Q _ => match vs with
  | [v_number, v_wanted, v_scope] => ∀ y dx H1, H y = none → Same H H1 → H1 y = some (.ins c.Closure dx [("number", v_number), ("wanted", v_wanted), ("scope", v_scope)]) → Q (.ref y) H1
  | _ => False
theorem mk_Closure (A : AtM K c.Closure "__init__" "Closure.__init__" s_Closure___init__ ["self", "number", "wanted", "scope"]) (T : Txt K mg c) : HasC P w K mg base CX0 c.Closure "Closure" 1 ["self", "number", "wanted", "scope"] (spMk_Closure K c) := by
  have Sc := sc_Closure___init__
  refine hasC_of T.mk_Closure A Sc (fun vs H Q E h => ?_) (fun cdv f A outer s H vs Q E y dx H0 hr h hy hs h0 => ?_)
  · unfold spMk_Closure at h; split at h; rfl; cases h
  · unfold spMk_Closure at h
    split at h
    · rename_i v_number v_wanted v_scope
      refine ⟨_, (pss_cons (fs_fld (fe_var 0) (fe_var 1) T.pl_number rfl)
      (pss_cons (fs_fld (fe_var 0) (fe_var 2) T.pl_wanted rfl)
      (pss_one (fs_fld (fe_var 0) (fe_var 3) T.pl_scope rfl)))), ?_⟩
      walk_at "fx0"
      walk_at "ox"
      simp only [h0]
      walk_at "ox"
      first
        | exact h y dx _ hy (mk_same hs hy) upd_same
        | exact ⟨by decide, h y dx _ hy (mk_same hs hy) upd_same⟩
    · cases h
theorem mkE_ScriptError (A : AtE K c.ScriptError "ScriptError.__init__" s_ScriptError___init__ ["self", "kind", "message"]) (T : Txt K mg c) : HasE P w K mg base c.ScriptError "ScriptError" 2 (two "kind" "message") :=
  hasE2 A sc_ScriptError___init__ rfl (T.xf _ (by simp)) T.xn_kind_ScriptError T.xn_message_ScriptError T.mg_ScriptError (by decide) (by decide) (by decide) (by decide)
end
section
variable {P : Program} {w : World} {K : PySem.W.Frag} {mg : Str → Option Value} {base : Heap} {c : Cs}
/-- the content of a key's tuple -/
def kxs (v : V) : List V := match v with
  | .bl _ => [.str "boolean", v]
  | _ => [.str "key", v]
def kN (v : V) : NestedKey := tupK (kxs v)
theorem kxs_sc {v : V} (h : scV v = true) : (kxs v).all scV = true := by cases v <;> first | rfl | cases h
theorem leaf_bl {p q : Bool} (h : leafK (.bl p) = leafK (.bl q)) : p = q := by
  have h' := NestedKey.num.inj (show NestedKey.num (if p = true then 1 else 0) = .num (if q = true then 1 else 0) from h)
  cases p <;> cases q <;> first
    | rfl
    | exact absurd h' (by decide)
theorem leafK_inj {x y : V} (hx : scV x = true) (hy : scV y = true) (b : (∃ p, x = .bl p) ↔ ∃ p, y = .bl p) (h : leafK x = leafK y) : x = y := by
  cases x <;> cases y <;> first
    | rfl
    | (exact congrArg V.bl (leaf_bl h))
    | (cases hx; done)
    | (cases hy; done)
    | (exact absurd (b.mp ⟨_, rfl⟩) (fun ⟨_, z⟩ => by cases z))
    | (exact absurd (b.mpr ⟨_, rfl⟩) (fun ⟨_, z⟩ => by cases z))
    | (cases h; done)
    | (cases h; rfl)
def tagV : V → Str
  | .bl _ => "boolean"
  | _ => "key"
theorem kN_inj {x y : V} (hx : scV x = true) (hy : scV y = true) (h : kN x = kN y) : x = y := by
  have h' := NestedKey.tup.inj (show NestedKey.tup ((kxs x).map leafK) = .tup ((kxs y).map leafK) from h)
  have e : ∀ v : V, (kxs v).map leafK = [.text (tagV v), leafK v] := fun v => by cases v <;> rfl
  rw [e, e] at h'
  have ht := NestedKey.text.inj (List.cons.inj h').1
  have hl := (List.cons.inj (List.cons.inj h').2).1
  refine leafK_inj hx hy ?_ hl
  have n1 : ¬ ((Str.ofString "boolean") = Str.ofString "key") := by decide +kernel
  have n2 : ¬ ((Str.ofString "key") = Str.ofString "boolean") := by decide +kernel
  cases x <;> cases y <;> first
    | (exact absurd ht n1)
    | (exact absurd ht n2)
    | (simp; done)
/-- the entries of a table: keys and values in order -/
def RowE (H : Hp) (e : NEnt) (r : V × V) : Prop := e.1 = kN r.1 ∧ scV r.1 = true ∧ ∃ tp, e.2.2 = .ref tp ∧ H tp = some (.tup [r.1, r.2])
structure TabR (w : World) (H : Hp) (d : Addr) (rows : List (V × V)) : Prop where
  ex : ∃ es, DN w H d es ∧ H d = some (nkO w d es) ∧ Paired (RowE H) es rows
  nd : (rows.map (·.1)).Nodup
def IsTab (c : Cs) (H : Hp) (a d : Addr) : Prop := ∃ dx, H a = some (.ins c.Table dx [("_rows", .ref d)])
theorem IsTab.same {H H' : Hp} {a d : Addr} (h : IsTab c H a d) (s : Same H H') : IsTab c H' a d := h.imp fun _ e => s _ _ e
theorem RowE.mono {H H' : Hp} {e : NEnt} {r : V × V} (h : RowE H e r) (s : ∀ b xs, H b = some (.tup xs) → H' b = some (.tup xs)) : RowE H' e r := ⟨h.1, h.2.1, h.2.2.imp fun _ ⟨x, y⟩ => ⟨x, s _ _ y⟩⟩
theorem TabR.mono {H H' : Hp} {d : Addr} {rows : List (V × V)} (h : TabR w H d rows) (hd : ∀ o, H d = some o → H' d = some o) (s : ∀ b xs, H b = some (.tup xs) → H' b = some (.tup xs)) : TabR w H' d rows := by
  obtain ⟨⟨es, D, e0, r⟩, nd⟩ := h
  exact ⟨⟨es, ⟨.inl (hd _ e0), fun e he => (D.ks e he).mono s⟩, hd _ e0, Paired.mapP r fun _ _ q => q.mono s⟩, nd⟩
theorem TabR.same {H H' : Hp} {d : Addr} {rows : List (V × V)} (h : TabR w H d rows) (s : Same H H') : TabR w H' d rows := h.mono (fun _ e => s _ _ e) fun _ _ e => s _ _ e
/-- behind a change of something that is no tuple, elsewhere -/
theorem TabR.keep {H H' : Hp} {d : Addr} {rows : List (V × V)} {ps : List Addr} (h : TabR w H d rows) (k : Keep ps H H') (n : d ∉ ps) (nt : ∀ p ∈ ps, ∀ xs, H p ≠ some (.tup xs)) : TabR w H' d rows :=
  h.mono (fun _ e => k _ _ n e) fun b xs e => k _ _ (fun m => nt b m xs e) e
def rowAt (rows : List (V × V)) (k : V) : Option V := (rows.find? fun r => decide (r.1 = k)).map (·.2)
def putR (rows : List (V × V)) (k v : V) : List (V × V) := if (rowAt rows k).isSome = true then rows.map (fun r => if r.1 = k then (k, v) else r) else rows ++ [(k, v)]
def dropR (rows : List (V × V)) (k : V) : List (V × V) := rows.filter fun r => decide (r.1 ≠ k)
theorem rows_at {H : Hp} {k : V} (hk : scV k = true) : ∀ {es : List NEnt} {rows : List (V × V)}, Paired (RowE H) es rows → match atN es (kN k), rowAt rows k with
    | some (.ref tp), some v => H tp = some (.tup [k, v])
    | none, none => True
    | _, _ => False := by
  intro es rows h
  induction h with
  | nil => exact trivial
  | @cons e r es rows h t ih =>
    obtain ⟨h1, h2, tp, h3, h4⟩ := h
    by_cases q : r.1 = k
    · have a : atN (e :: es) (kN k) = some e.2.2 := by simp [atN, List.find?_cons, h1, q]
      have b : rowAt (r :: rows) k = some r.2 := by simp [rowAt, List.find?_cons, q]
      rw [a, b, h3]
      rw [q] at h4
      exact h4
    · have nq : ¬ e.1 = kN k := fun z => q (kN_inj h2 hk (h1.symm.trans z))
      have a : atN (e :: es) (kN k) = atN es (kN k) := by simp [atN, List.find?_cons, nq]
      have b : rowAt (r :: rows) k = rowAt rows k := by simp [rowAt, List.find?_cons, q]
      rw [a, b]
      exact ih
theorem rows_some {H : Hp} {k : V} (hk : scV k = true) {es : List NEnt} {rows : List (V × V)} (h : Paired (RowE H) es rows) : (atN es (kN k)).isSome = (rowAt rows k).isSome := by
  have := rows_at hk h
  split at this
  · rename_i e1 e2; rw [e1, e2]; rfl
  · rename_i e1 e2; rw [e1, e2]
  · exact this.elim
theorem rows_put {H : Hp} {k v : V} {q tp : Addr} (hk : scV k = true) (ht : H tp = some (.tup [k, v])) {es : List NEnt} {rows : List (V × V)} (h : Paired (RowE H) es rows) : Paired (RowE H) (putN es (kN k) q (.ref tp)) (putR rows k v) := by
  unfold putN putR
  rw [rows_some hk h]
  split
  · rename_i hs
    clear hs
    induction h with
    | nil => exact .nil
    | @cons e r es rows h t ih =>
      rw [List.map_cons, List.map_cons]
      refine .cons ?_ ih
      obtain ⟨h1, h2, h3⟩ := h
      by_cases z : r.1 = k
      · rw [if_pos z, if_pos (by rw [h1, z])]
        exact ⟨by rw [h1, z], hk, tp, rfl, ht⟩
      · rw [if_neg z, if_neg (fun w => z (kN_inj h2 hk (h1.symm.trans w)))]
        exact ⟨h1, h2, h3⟩
  · exact Paired.snoc h ⟨rfl, hk, tp, rfl, ht⟩
theorem rows_drop {H : Hp} {k : V} (hk : scV k = true) {es : List NEnt} {rows : List (V × V)} (h : Paired (RowE H) es rows) : Paired (RowE H) (dropN es (kN k)) (dropR rows k) := by
  unfold dropN dropR
  induction h with
  | nil => exact .nil
  | @cons e r es rows h t ih =>
    obtain ⟨h1, h2, h3⟩ := h
    rw [List.filter_cons, List.filter_cons]
    by_cases z : r.1 = k
    · rw [if_neg (by simp [h1, z]), if_neg (by simp [z])]
      exact ih
    · rw [if_pos (by simpa using fun w => z (kN_inj h2 hk (h1.symm.trans w))), if_pos (by simp [z])]
      exact .cons ⟨h1, h2, h3⟩ ih
theorem rowAt_mem {rows : List (V × V)} {k : V} : (rowAt rows k).isSome = true ↔ k ∈ rows.map (·.1) := by
  unfold rowAt
  rw [Option.isSome_map, List.find?_isSome]
  simp
theorem putR_nd {rows : List (V × V)} {k v : V} (h : (rows.map (·.1)).Nodup) : ((putR rows k v).map (·.1)).Nodup := by
  unfold putR
  split
  · have e : (rows.map fun r => if r.1 = k then (k, v) else r).map (·.1) = rows.map (·.1) := by
      rw [List.map_map]
      refine List.map_congr_left fun r _ => ?_
      show (if r.1 = k then (k, v) else r).1 = r.1
      split
      · rename_i z; exact z.symm
      · rfl
    rw [e]; exact h
  · rename_i z
    rw [rowAt_mem] at z
    rw [List.map_append, List.nodup_append]
    refine ⟨h, by simp, fun a ha b hb e => ?_⟩
    simp at hb
    subst hb
    subst e
    exact z ha
theorem dropR_nd {rows : List (V × V)} {k : V} (h : (rows.map (·.1)).Nodup) : ((dropR rows k).map (·.1)).Nodup := (List.filter_sublist.map _).nodup h
theorem rows_get {H : Hp} : ∀ {es : List NEnt} {rows : List (V × V)}, Paired (RowE H) es rows → (rows.map (·.1)).Nodup → ∀ {i : Nat} {x : NEnt}, es[i]? = some x → atN es x.1 = some x.2.2 := by
  intro es rows h
  induction h with
  | nil => intro _ i x hx; simp at hx
  | @cons e r es rows h t ih =>
    intro nd i x hx
    obtain ⟨h1, h2, h3⟩ := h
    rw [List.map_cons, List.nodup_cons] at nd
    cases i with
    | zero =>
      simp at hx
      subst hx
      simp [atN, List.find?_cons]
    | succ j =>
      simp at hx
      obtain ⟨r', hr', k1, k2, k3⟩ := paired_get t hx
      have ne : ¬ e.1 = x.1 := fun z => by
        rw [h1, k1] at z
        have := kN_inj h2 k2 z
        exact nd.1 (by rw [this]; exact List.mem_map_of_mem (List.mem_of_getElem? hr'))
      have a : atN (e :: es) x.1 = atN es x.1 := by simp [atN, List.find?_cons, ne]
      rw [a]
      exact ih nd.2 hx
theorem rowAt_get : ∀ {rows : List (V × V)}, (rows.map (·.1)).Nodup → ∀ {i : Nat} {r : V × V}, rows[i]? = some r → rowAt rows r.1 = some r.2
  | [], _, i, r, h => by simp at h
  | q :: rows, nd, 0, r, h => by
    simp at h
    subst h
    simp [rowAt, List.find?_cons]
  | q :: rows, nd, i + 1, r, h => by
    simp at h
    rw [List.map_cons, List.nodup_cons] at nd
    have ne : ¬ q.1 = r.1 := fun z => nd.1 (by rw [z]; exact List.mem_map_of_mem (List.mem_of_getElem? h))
    have a : rowAt (q :: rows) r.1 = rowAt rows r.1 := by simp [rowAt, List.find?_cons, ne]
    rw [a]
    exact rowAt_get nd.2 h
theorem map_off {rows : List (V × V)} {k v : V} (h : k ∉ rows.map (·.1)) : (rows.map fun r => if r.1 = k then (k, v) else r) = rows := by
  induction rows with
  | nil => rfl
  | cons r rows ih =>
    rw [List.map_cons, List.mem_cons, not_or] at h
    rw [List.map_cons, if_neg (Ne.symm h.1), ih h.2]
theorem drop_off {rows : List (V × V)} {k : V} (h : k ∉ rows.map (·.1)) : dropR rows k = rows := by
  unfold dropR
  rw [List.filter_eq_self]
  intro r hr
  exact decide_eq_true fun e => h (by rw [← e]; exact List.mem_map_of_mem hr)
/-- where a key stands -/
theorem row_cases (k : V) : ∀ {rows : List (V × V)}, (rows.map (·.1)).Nodup → (∃ i r, rows[i]? = some r ∧ r.1 = k ∧ rows.findIdx? (fun r => decide (r.1 = k)) = some i ∧ (rowAt rows k).isSome = true ∧ dropR rows k = rows.eraseIdx i ∧ ∀ v, putR rows k v = rows.set i (k, v)) ∨
    (rows.findIdx? (fun r => decide (r.1 = k)) = none ∧ (rowAt rows k).isSome = false ∧ k ∉ rows.map (·.1) ∧ ∀ v, putR rows k v = rows ++ [(k, v)])
  | [], _ => .inr ⟨rfl, rfl, by simp, fun v => rfl⟩
  | r :: rows, nd => by
    rw [List.map_cons, List.nodup_cons] at nd
    by_cases e : r.1 = k
    · have hno : k ∉ rows.map (·.1) := by rw [← e]; exact nd.1
      have hs : (rowAt (r :: rows) k).isSome = true := by simp [rowAt, List.find?_cons, e]
      refine .inl ⟨0, r, rfl, e, by simp [List.findIdx?_cons, e], hs, ?_, fun v => ?_⟩
      · have : dropR (r :: rows) k = dropR rows k := by
          unfold dropR
          rw [List.filter_cons, if_neg (by simp [e])]
        rw [this, drop_off hno]
        rfl
      · unfold putR
        rw [if_pos hs, List.map_cons, if_pos e, map_off hno]
        rfl
    · have hs : (rowAt (r :: rows) k) = rowAt rows k := by simp [rowAt, List.find?_cons, e]
      rcases row_cases k nd.2 with ⟨i, r', h1, h2, h3, h4, h5, h6⟩ | ⟨h3, h4, hno, h6⟩
      · refine .inl ⟨i + 1, r', h1, h2, by simp [List.findIdx?_cons, e, h3], by rw [hs]; exact h4, ?_, fun v => ?_⟩
        · have : dropR (r :: rows) k = r :: dropR rows k := by
            unfold dropR
            rw [List.filter_cons, if_pos (by simp [e])]
          rw [this, h5]
          first | rfl | skip
        · have := h6 v
          unfold putR at this ⊢
          rw [if_pos h4] at this
          rw [hs, if_pos h4, List.map_cons, if_neg e, this]
          try rfl
      · refine .inr ⟨by simp [List.findIdx?_cons, e, h3], by rw [hs]; exact h4, by rw [List.map_cons, List.mem_cons, not_or]; exact ⟨Ne.symm e, hno⟩, fun v => ?_⟩
        unfold putR
        rw [hs, if_neg (by rw [h4]; decide)]
        try rfl
theorem paired_erase {α β : Type} {F : α → β → Prop} {xs : List α} {ys : List β} (h : Paired F xs ys) : ∀ i : Nat, Paired F (xs.eraseIdx i) (ys.eraseIdx i) := by
  induction h with
  | nil => intro i; exact .nil
  | cons r t ih =>
    intro i
    cases i with
    | zero => exact t
    | succ j => exact .cons r (ih j)
theorem paired_set {α β : Type} {F : α → β → Prop} {xs : List α} {ys : List β} {a : α} {b : β} (h : Paired F xs ys) (hab : F a b) : ∀ i : Nat, Paired F (xs.set i a) (ys.set i b) := by
  induction h with
  | nil => intro i; exact .nil
  | cons r t ih =>
    intro i
    cases i with
    | zero => exact .cons hab t
    | succ j => exact .cons r (ih j)
theorem putR_len (rows : List (V × V)) (k v : V) : (putR rows k v).length ≤ rows.length + 1 := by
  unfold putR
  split
  · rw [List.length_map]; omega
  · rw [List.length_append]; exact Nat.le_refl _
end

section
variable {P : Program} {w : World} {K : PySem.W.Frag} {mg : Str → Option Value} {base : Heap} {c : Cs}
def spMkTab (w : World) (c : Cs) : Sp := fun vs H Q _ => match vs with
  | [] => ∀ y d H1, H y = none → H d = none → Same H H1 → IsTab c H1 y d → TabR w H1 d [] → Q (.ref y) H1
  | _ => False
theorem ok_mktab (A : AtM K c.Table "__init__" "Table.__init__" s_Table___init__ ["self"]) (T : Txt K mg c) : HasC P w K mg base CX0 c.Table "Table" 1 ["self"] (spMkTab w c) := by
  have Sc := sc_Table___init__
  refine hasC_of T.mk_Table A Sc (fun vs H Q E h => ?_) (fun cdv f A outer s H vs Q E y dx H0 hr h hy hs h0 => ?_)
  · unfold spMkTab at h; split at h; rfl; cases h
  · unfold spMkTab at h
    split at h
    · refine ⟨_, (pss_one (fs_fld (fe_var 0) (pe_newN (w := w) rfl) T.pl__rows rfl)), ?_⟩
      walk_at "fx0"
      walk_at "ox"
      intro d H1 nd s1 e1
      have ny : d ≠ y := fun q => by rw [q, h0] at nd; cases nd
      have ey := s1 _ _ h0
      simp only [ey]
      walk_at "ox"
      first
        | exact h y d _ hy (hs.free nd) (mk_same (hs.trans s1) hy) ⟨dx, upd_same⟩ ⟨⟨[], ⟨.inl ((upd_ne ny).trans e1), fun _ z => by cases z⟩, (upd_ne ny).trans e1, .nil⟩, List.nodup_nil⟩
        | exact ⟨by decide, h y d _ hy (hs.free nd) (mk_same (hs.trans s1) hy) ⟨dx, upd_same⟩ ⟨⟨[], ⟨.inl ((upd_ne ny).trans e1), fun _ z => by cases z⟩, (upd_ne ny).trans e1, .nil⟩, List.nodup_nil⟩⟩
    · cases h
def spKeyOf : Sp := fun vs H Q _ => match vs with
  | [v] => scV v = true ∧ ∀ q H1, H q = none → Same H H1 → isKey H1 q (kxs v) → Q (.ref q) H1
  | _ => False
theorem ok_keyof (A : At K mg "key_of" "key_of" s_key_of ["value"]) (T : Txt K mg c) : Has P w K mg base CX0 "key_of" 1 ["value"] spKeyOf := by
  have Sc := sc_key_of
  refine has_of A Sc (fun vs H Q E h => ?_) (fun cdv f A outer s H vs Q E hr h => ?_)
  · unfold spKeyOf at h; split at h; rfl; cases h
  · unfold spKeyOf at h
    split at h
    · rename_i v
      obtain ⟨hv, h⟩ := h
      refine ⟨_, (pss_cons (ps_if (pt_val (pe_callB (call_fIsiA T.kit) (by rfl) T.no_isinstance (by decide +kernel) (pa_cons (fe_var 0) (pa_cons (fe_ty (n := "bool") (by rfl) T.no_bool (by decide +kernel)) pa_nil)))) (pss_one (ps_ret (fe_tup (pa_cons pe_str (pa_cons (fe_var 0) pa_nil))))) pss_nil)
      (pss_one (ps_ret (fe_tup (pa_cons pe_str (pa_cons (fe_var 0) pa_nil)))))), ?_⟩
      walk_at "fx0"
      cases v <;> first
        | (cases hv; done)
        | (repeat (walk_at "oxs")
           intro q H1 nq sm eq
           exact h q H1 nq sm ⟨eq, rfl⟩)
    · cases h
def spHas (w : World) (c : Cs) : Sp := fun vs H Q _ => match vs with
  | [.ref a, v] => ∃ d rows, IsTab c H a d ∧ TabR w H d rows ∧ scV v = true ∧ ∀ H1, Same H H1 → Q (.bl (rowAt rows v).isSome) H1
  | _ => False
theorem ok_has (A : AtM K c.Table "has" "Table.has" s_Table_has ["self", "key"]) (T : Txt K mg c) (H_key_of : Has P w K mg base CX0 "key_of" 1 ["value"] spKeyOf) : HasM P w K mg base CX0 c.Table "has" 2 ["self", "key"] (spHas w c) := by
  have Sc := sc_Table_has
  refine hasM_of A Sc (fun vs H Q E h => ?_) (fun cdv f A outer s H vs Q E hr h => ?_)
  · unfold spHas at h; split at h; rfl; cases h
  · unfold spHas at h
    split at h
    · rename_i a v
      obtain ⟨d, rows, ⟨dx, ea⟩, TR, hv, h⟩ := h
      refine ⟨_, (pss_one (ps_ret (pe_cmp (pc_inN (w := w) rfl hr.units (fe_call H_key_of (hr.mono (by walk_at "rm")) (by rfl) pass0 (pa_cons (fe_var 1) pa_nil)) (fe_fld (fe_var 0) T.pl__rows rfl))))), ?_⟩
      walk_at "fx0"
      walk_at "ox"
      refine ⟨hv, fun q H1 nq s1 kq => ?_⟩
      have ea1 := s1 _ _ ea
      simp only [ea1]
      walk_at "ox"
      obtain ⟨⟨es, D, e0, r⟩, nd⟩ := TR.same s1
      refine ⟨es, D, _, kq, ?_⟩
      have e := rows_some hv r
      unfold kN at e
      rw [e]
      exact h H1 s1
    · cases h
def spValOf (w : World) (c : Cs) : Sp := fun vs H Q _ => match vs with
  | [.ref a, v] => ∃ d rows x, IsTab c H a d ∧ TabR w H d rows ∧ scV v = true ∧ rowAt rows v = some x ∧ ∀ H1, Same H H1 → Q x H1
  | _ => False

def spPut (w : World) (c : Cs) : Sp := fun vs H Q _ => match vs with
  | [.ref a, k, v] => ∃ d rows, IsTab c H a d ∧ TabR w H d rows ∧ scV k = true ∧ rows.length < 100000 ∧ ∀ H1, Keep [d] H H1 → TabR w H1 d (putR rows k v) → Q .non H1
  | _ => False
theorem DN.upd {H : Hp} {d : Addr} {es es' : List NEnt} (D : DN w H d es) (e0 : H d = some (nkO w d es)) (sub : ∀ e ∈ es', KeyT H e.1 e.2.1) : DN w (upd H d (nkO w d es')) d es' :=
  ⟨.inl upd_same, fun e he => (sub e he).mono fun b xs eb => by rw [upd_ne (ne_of eb e0 (Ne.symm nkO_ne_tup))]; exact eb⟩
theorem putN_mem {es : List NEnt} {k : NestedKey} {q : Addr} {v : V} {e : NEnt} (h : e ∈ putN es k q v) : (∃ e0 ∈ es, e.1 = e0.1 ∧ e.2.1 = e0.2.1) ∨ (e.1 = k ∧ e.2.1 = q) := by
  unfold putN at h
  split at h
  · obtain ⟨e0, he, rfl⟩ := List.mem_map.mp h
    refine .inl ⟨e0, he, ?_⟩
    split <;> exact ⟨rfl, rfl⟩
  · rcases List.mem_append.mp h with h | h
    · exact .inl ⟨e, h, rfl, rfl⟩
    · rw [List.mem_singleton.mp h]; exact .inr ⟨rfl, rfl⟩
theorem ok_put (A : AtM K c.Table "put" "Table.put" s_Table_put ["self", "key", "value"]) (T : Txt K mg c) (H_key_of : Has P w K mg base CX0 "key_of" 1 ["value"] spKeyOf) : HasM P w K mg base CX0 c.Table "put" 2 ["self", "key", "value"] (spPut w c) := by
  have Sc := sc_Table_put
  refine hasM_of A Sc (fun vs H Q E h => ?_) (fun cdv f A outer s H vs Q E hr h => ?_)
  · unfold spPut at h; split at h; rfl; cases h
  · unfold spPut at h
    split at h
    · rename_i a k v
      obtain ⟨d, rows, ⟨dx, ea⟩, TR, hk, hl, h⟩ := h
      refine ⟨_, (pss_one (ps_putN (w := w) rfl hr.units (fe_fld (fe_var 0) T.pl__rows rfl) (fe_call H_key_of (hr.mono (by walk_at "rm")) (by rfl) pass0 (pa_cons (fe_var 1) pa_nil)) (fe_tup (pa_cons (fe_var 1) (pa_cons (fe_var 2) pa_nil))) rfl)), ?_⟩
      walk_at "fx0"
      walk_at "ox"
      intro tp H1 ntp s1 etp
      have ea1 := s1 _ _ ea
      simp only [ea1]
      walk_at "ox"
      refine ⟨hk, fun q H2 nq s2 kq => ?_⟩
      obtain ⟨⟨es, D, e0, r⟩, nd⟩ := TR.same (s1.trans s2)
      have hle : es.length = rows.length := Paired.length r
      refine ⟨es, D, e0, _, kq, len_line' (by omega), ?_⟩
      have ne : ∀ b xs, H2 b = some (.tup xs) → upd H2 d (nkO w d (putN es (tupK (kxs k)) q (.ref tp))) b = some (.tup xs) := fun b xs eb => by
        rw [upd_ne (ne_of eb e0 (Ne.symm nkO_ne_tup))]; exact eb
      refine h _ ((Keep.of (s1.trans s2)).upd (by simp)) ⟨⟨_, DN.upd D e0 (fun e he => ?_), upd_same, Paired.mapP (rows_put (q := q) hk (s2 _ _ etp) r) fun _ _ z => z.mono ne⟩, putR_nd nd⟩
      rcases putN_mem he with ⟨e', he', h1, h2⟩ | ⟨h1, h2⟩
      · rw [h1, h2]; exact D.ks e' he'
      · rw [h1, h2]; exact kq.t
    · cases h
def spTake (w : World) (c : Cs) : Sp := fun vs H Q _ => match vs with
  | [.ref a, k] => ∃ d rows, IsTab c H a d ∧ TabR w H d rows ∧ scV k = true ∧ (rowAt rows k).isSome = true ∧ ∀ H1, Keep [d] H H1 → TabR w H1 d (dropR rows k) → Q .non H1
  | _ => False

def spMany (w : World) (c : Cs) : Sp := fun vs H Q _ => match vs with
  | [.ref a] => ∃ d rows, IsTab c H a d ∧ TabR w H d rows ∧ Q (.int rows.length) H
  | _ => False
theorem ok_many (A : AtP K c.Table "many" "Table.many" s_Table_many ["self"]) (T : Txt K mg c) : HasP P w K mg base CX0 c.Table "many" 1 ["self"] (spMany w c) := by
  have Sc := sc_Table_many
  refine hasP_of A Sc (fun vs H Q E h => ?_) (fun cdv f A outer s H vs Q E hr h => ?_)
  · unfold spMany at h; split at h; rfl; cases h
  · unfold spMany at h
    split at h
    · rename_i a
      obtain ⟨d, rows, ⟨dx, ea⟩, ⟨⟨es, D, e0, r⟩, nd⟩, h⟩ := h
      refine ⟨_, (pss_one (ps_ret (pe_callB (call_fLenN (w := w) rfl) (by rfl) T.no_len (by decide +kernel) (pa_cons (fe_fld (fe_var 0) T.pl__rows rfl) pa_nil)))), ?_⟩
      walk_at "fx0"
      walk_at "ox"
      simp only [ea]
      walk_at "ox"
      refine ⟨es, D, ?_⟩
      rw [show es.length = rows.length from Paired.length r]
      exact h
    · cases h
/-- the entries as tuples -/
def RowsT (H : Hp) (ts : List Addr) (rows : List (V × V)) : Prop := Paired (fun t r => H t = some (.tup [r.1, r.2])) ts rows
def spPairs (w : World) (c : Cs) : Sp := fun vs H Q _ => match vs with
  | [.ref a] => ∃ d rows, IsTab c H a d ∧ TabR w H d rows ∧ rows.length ≤ 100000 ∧ ∀ p ts H1, H p = none → Same H H1 → H1 p = some (.lst (ts.map V.ref)) → RowsT H1 ts rows → Q (.ref p) H1
  | _ => False
theorem paired_take {α β : Type} {F : α → β → Prop} {xs : List α} {ys : List β} (h : Paired F xs ys) {i : Nat} {x : α} (e : xs[i]? = some x) : ∃ y, ys[i]? = some y ∧ F x y := paired_get h e
theorem ok_pairs (A : AtM K c.Table "pairs" "Table.pairs" s_Table_pairs ["self"]) (T : Txt K mg c) : HasM P w K mg base CX0 c.Table "pairs" 1 ["self"] (spPairs w c) := by
  have Sc := sc_Table_pairs
  refine hasM_of A Sc (fun vs H Q E h => ?_) (fun cdv f A outer s H vs Q E hr h => ?_)
  · unfold spPairs at h; split at h; rfl; cases h
  · unfold spPairs at h
    split at h
    · rename_i a
      obtain ⟨d, rows, ⟨dx, ea⟩, ⟨⟨es, D, e0, r⟩, nd⟩, hl, h⟩ := h
      refine ⟨_, (pss_one (ps_ret (pe_lock (pe_lc (own := [("at", 1)]) (by rfl) Sc.nd (pi_keysN (w := w) rfl (fe_fld (fe_var 0) T.pl__rows rfl)) (blkOk_by (own := [("at", 1)]) (N := ["self", "at"]) (sc := defScope s_Table_pairs) (by decide +kernel)) (fun _ _ _ _ _ => (pg_name (i := 1) Sc.nd rfl (.inl rfl))) (fun _ _ _ _ _ => pts_nil) (fun _ _ _ _ _ => (pe_getN (w := w) rfl hr.units (fe_fld (fe_var 0) T.pl__rows rfl) (fe_var 1) (fun _ _ => rfl))))))), ?_⟩
      walk_at "fx0"
      refine ⟨d, _, e0, trivial, fun od => ?_⟩
      have nad : a ≠ d := fun q => by
        rw [q, e0] at ea
        have z' : HO.ext _ = HO.ins _ _ _ := Option.some.inj ea
        cases z'
      have ea1 : upd H d (.frz od (nkO w d es)) a = some (.ins c.Table dx [("_rows", .ref d)]) := (upd_ne nad).trans ea
      refine lc_ ?_
      repeat (first | walk_at "oxs" | simp only [ea1])
      refine ⟨od, es, rfl, fun D0 nD => ?_⟩
      have nDd : D0 ≠ d := fun q => by rw [q, upd_same] at nD; cases nD
      have nDH : H D0 = none := by rw [upd_ne nDd] at nD; exact nD
      have hle : es.length = rows.length := Paired.length r
      refine lcx_keysN (fun i H1 => H1 d = some (.frz od (nkO w d es)) ∧ (∀ b o, b ≠ d → H b = some o → H1 b = some o) ∧ ∃ ts : List Addr, H1 D0 = some (.lst (ts.map V.ref)) ∧ RowsT H ts (rows.take i)) ⟨?_, ?_, [], upd_same, .nil⟩ ?_ ?_ ?_
      · rw [upd_ne (Ne.symm nDd)]; exact upd_same
      · intro b o nb eb
        rw [upd_ne (ne_of_none eb nDH), upd_ne nb]
        exact eb
      · rintro i H1 _ ⟨h1, _⟩
        exact h1
      · rintro i x H1 hx ⟨h1, h2, ts, h3, h4⟩
        obtain ⟨row, hr1, k1, k2, tp, k3, k4⟩ := paired_get r hx
        obtain ⟨kxs', g1, g2, g3⟩ := D.ks x (List.mem_of_getElem? hx)
        have nx : x.2.1 ≠ d := fun q => by rw [q, e0] at g1; exact nkO_ne_tup (Option.some.inj g1)
        have ea2 := h2 _ _ nad ea
        repeat (first | walk_at "oxs" | simp only [ea2])
        refine ⟨es, ⟨.inr ⟨od, h1⟩, fun e he => ?_⟩, kxs', ⟨h2 _ _ nx g1, g2⟩, x.2.2, ?_, ?_⟩
        · obtain ⟨ys, y1, y2, y3⟩ := D.ks e he
          exact ⟨ys, h2 _ _ (fun q => by rw [q, e0] at y1; exact nkO_ne_tup (Option.some.inj y1)) y1, y2, y3⟩
        · rw [← g3]
          exact rows_get r nd hx
        · rw [k3]
          refine ⟨_, h3, len_line' ?_, ?_, ?_, ts ++ [tp], ?_, ?_⟩
          · have := Paired.length h4
            have hi := (List.getElem?_eq_some_iff.mp hx).1
            rw [List.length_take] at this
            rw [List.length_map]
            omega
          · rw [upd_ne (Ne.symm nDd)]; exact h1
          · intro b o nb eb
            rw [upd_ne (ne_of_none eb nDH)]
            exact h2 b o nb eb
          · rw [List.map_append]; rfl
          · have et : rows.take (i + 1) = rows.take i ++ [row] := by rw [List.take_add_one, hr1]; rfl
            rw [et]
            exact Paired.snoc h4 k4
      · rintro H1 ⟨h1, h2, ts, h3, h4⟩
        refine ⟨h1, ?_⟩
        have et : rows.take es.length = rows := by rw [hle]; exact List.take_length
        rw [et] at h4
        have sm : Same H (upd H1 d (nkO w d es)) := fun b o eb => by
          by_cases q : b = d
          · rw [q, upd_same, ← e0, ← q]; exact eb
          · rw [upd_ne q]; exact h2 b o q eb
        exact h D0 ts _ nDH sm (by rw [upd_ne nDd]; exact h3) (Paired.mapP h4 fun _ _ z => sm _ _ z)
    · cases h
end

section
variable {P : Program} {w : World} {K : PySem.W.Frag} {mg : Str → Option Value} {base : Heap} {c : Cs}
/-! ### the store as a model -/
theorem take_get {α : Type} {xs : List α} {i : Nat} {x : α} (h : xs[i]? = some x) : xs.take (i + 1) = xs.take i ++ [x] := by rw [List.take_succ, h]; rfl
/-- a value of the language: null, a boolean, an integer, a text, a built-in function, an object's number -/
inductive RV where
  | nul
  | boo (b : Bool)
  | num (n : Int)
  | txt (z : Str)
  | bt (z : Str)
  | ob (n : Nat)
  deriving DecidableEq
inductive Th where
  | parts (xs : List RV)
  | table (rows : List (RV × RV))
  | inst (owner : Nat) (fs : List (Str × RV))
  | kin (name : Str) (parent : Option Nat) (ms : List (Str × Nat))
  | clo (number wanted : Int) (scope : List Nat)
  | bound (owner fn : Nat)
  | var (v : RV)
  | cur (xs : List RV)
def IsRef (c : Cs) (H : Hp) (a : Addr) (n : Int) : Prop := ∃ dx, H a = some (.ins c.Ref dx [("number", .int n)])
def IsRefV (c : Cs) (H : Hp) (v : V) (n : Nat) : Prop := ∃ a, v = .ref a ∧ IsRef c H a (n : Nat)
def IsBt (c : Cs) (H : Hp) (a : Addr) (n : Str) : Prop := ∃ dx, H a = some (.ins c.Builtin dx [("name", .str n)])

def IsVal (c : Cs) (H : Hp) (v : V) : RV → Prop
  | .nul => v = .non
  | .boo b => v = .bl b
  | .num n => v = .int n
  | .txt z => v = .str z
  | .bt n => ∃ a, v = .ref a ∧ IsBt c H a n
  | .ob n => IsRefV c H v n
/-- what never changes: tuples, references, built-in functions -/
def Hard (c : Cs) (o : HO) : Prop := (∃ xs, o = .tup xs) ∨ (∃ dx fs, o = .ins c.Ref dx fs)
  ∨ (∃ dx fs, o = .ins c.Builtin dx fs)
def Soft (c : Cs) (H : Hp) (p : Addr) : Prop := ∀ o, H p = some o → ¬ Hard c o
theorem Hard.t (xs : List V) : Hard c (.tup xs) := .inl ⟨xs, rfl⟩

theorem Hard.r {dx : Addr} {fs : List (Str × V)} : Hard c (.ins c.Ref dx fs) := .inr (.inl ⟨dx, fs, rfl⟩)
theorem Hard.b {dx : Addr} {fs : List (Str × V)} : Hard c (.ins c.Builtin dx fs) := .inr (.inr ⟨dx, fs, rfl⟩)
/-- the hard things stay -/
def HardStay (c : Cs) (H H' : Hp) : Prop := ∀ a o, H a = some o → Hard c o → H' a = some o
theorem HardStay.same {H H' : Hp} (s : Same H H') : HardStay c H H' := fun a o e _ => s a o e
theorem HardStay.keep {H H' : Hp} {ps : List Addr} (k : Keep ps H H') (s : ∀ p ∈ ps, Soft c H p) : HardStay c H H' := fun a o e hd => k a o (fun m => s a m o e hd) e
theorem HardStay.trans {H H1 H2 : Hp} (h : HardStay c H H1) (g : HardStay c H1 H2) : HardStay c H H2 := fun a o e hd => g a o (h a o e hd) hd
theorem IsRef.hs {H H' : Hp} {a : Addr} {n : Int} (h : IsRef c H a n) (s : HardStay c H H') : IsRef c H' a n := h.imp fun _ e => s _ _ e Hard.r
theorem IsRef.same {H H' : Hp} {a : Addr} {n : Int} (h : IsRef c H a n) (s : Same H H') : IsRef c H' a n := h.imp fun _ e => s _ _ e
theorem IsRefV.hs {H H' : Hp} {v : V} {n : Nat} (h : IsRefV c H v n) (s : HardStay c H H') : IsRefV c H' v n := h.imp fun _ ⟨e, r⟩ => ⟨e, r.hs s⟩
theorem IsVal.hs {H H' : Hp} {v : V} {r : RV} (h : IsVal c H v r) (s : HardStay c H H') : IsVal c H' v r := by
  cases r <;> first
    | exact h
    | exact IsRefV.hs h s
    | (obtain ⟨a, e, dx, h⟩ := h; exact ⟨a, e, dx, s _ _ h Hard.b⟩)

theorem IsVal.same {H H' : Hp} {v : V} {r : RV} (h : IsVal c H v r) (s : Same H H') : IsVal c H' v r := h.hs (.same s)
abbrev VsAt (c : Cs) (H : Hp) : List V → List RV → Prop := Paired (IsVal c H)
theorem VsAt.hs {H H' : Hp} {xs : List V} {rs : List RV} (h : VsAt c H xs rs) (s : HardStay c H H') : VsAt c H' xs rs := Paired.mapP h fun _ _ z => z.hs s
abbrev RefsAt (c : Cs) (H : Hp) : List V → List Nat → Prop := Paired (IsRefV c H)
/-- an object of the store at a, its content at b -/
def ThAt (w : World) (c : Cs) (H : Hp) (a : Addr) (b : Option Addr) : Th → Prop
  | .parts rs => ∃ dx l xs, b = some l ∧ H a = some (.ins c.Parts dx [("held", .ref l)]) ∧ H l = some (.lst xs) ∧ VsAt c H xs rs
  | .table rows => ∃ d rws, b = some d ∧ IsTab c H a d ∧ TabR w H d rws ∧ Paired (fun x r => IsVal c H x.1 r.1 ∧ IsVal c H x.2 r.2) rws rows
  | .inst o fs => ∃ dx ra nd kvs, b = some nd ∧ H a = some (.ins c.Instance dx [("owner", .ref ra), ("named", .ref nd)]) ∧ IsRef c H ra (o : Nat) ∧ H nd = some (.dK kvs) ∧ Paired (fun (kv : Key × V) (f : Str × RV) => kv.1 = .inr f.1 ∧ IsVal c H kv.2 f.2) kvs fs
  | .kin n p ms => ∃ dx pv md kvs, b = some md ∧ H a = some (.ins c.Kin dx [("name", .str n), ("parent", pv), ("methods", .ref md)]) ∧ (match p with | none => pv = .non | some k => IsRefV c H pv k) ∧ H md = some (.dK kvs) ∧ Paired (fun (kv : Key × V) (f : Str × Nat) => kv.1 = .inr f.1 ∧ IsRefV c H kv.2 f.2) kvs ms
  | .clo n k sc => ∃ dx t xs, b = none ∧ H a = some (.ins c.Closure dx [("number", .int n), ("wanted", .int k), ("scope", .ref t)]) ∧ H t = some (.tup xs) ∧ RefsAt c H xs sc

  | .bound _ _ => False
  | .var _ => False
  | .cur _ => False
def footT (a : Addr) (b : Option Addr) : List Addr := a :: b.toList
theorem TabR.soft {H : Hp} {d : Addr} {rows : List (V × V)} (h : TabR w H d rows) : Soft c H d := by
  obtain ⟨⟨es, D, e0, r⟩, _⟩ := h
  intro o e hd
  rw [e0] at e
  cases e
  rcases hd with ⟨_, z⟩ | ⟨_, _, z⟩ | ⟨_, _, z⟩
  · exact nkO_ne_tup z
  · have z' : HO.ext _ = HO.ins _ _ _ := z
    cases z'
  · have z' : HO.ext _ = HO.ins _ _ _ := z
    cases z'
theorem putR_new {rows : List (V × V)} {k v : V} (h : k ∉ rows.map (·.1)) : putR rows k v = rows ++ [(k, v)] := by
  unfold putR
  rw [if_neg (by rw [rowAt_mem]; exact h)]
theorem ThAt.mono {H H' : Hp} {a : Addr} {b : Option Addr} {t : Th} (h : ThAt w c H a b t) (s : HardStay c H H') (ka : ∀ o, H a = some o → H' a = some o) (kb : ∀ q o, b = some q → H q = some o → H' q = some o) : ThAt w c H' a b t := by
  cases t with
  | parts rs => obtain ⟨dx, l, xs, rfl, e1, e2, e3⟩ := h; exact ⟨dx, l, xs, rfl, ka _ e1, kb _ _ rfl e2, e3.hs s⟩
  | table rows => obtain ⟨d, rws, rfl, ⟨dx, e1⟩, e2, e3⟩ := h; exact ⟨d, rws, rfl, ⟨dx, ka _ e1⟩, e2.mono (fun o e => kb _ _ rfl e) (fun q xs e => s _ _ e (Hard.t xs)), Paired.mapP e3 fun _ _ z => ⟨z.1.hs s, z.2.hs s⟩⟩
  | inst o fs => obtain ⟨dx, ra, nd, kvs, rfl, e1, e2, e3, e4⟩ := h; exact ⟨dx, ra, nd, kvs, rfl, ka _ e1, e2.hs s, kb _ _ rfl e3, Paired.mapP e4 fun _ _ z => ⟨z.1, z.2.hs s⟩⟩
  | kin n p ms => obtain ⟨dx, pv, md, kvs, rfl, e1, e2, e3, e4⟩ := h; exact ⟨dx, pv, md, kvs, rfl, ka _ e1, (by cases p with | none => exact e2 | some k => exact IsRefV.hs e2 s), kb _ _ rfl e3, Paired.mapP e4 fun _ _ z => ⟨z.1, z.2.hs s⟩⟩
  | clo n k sc => obtain ⟨dx, t, xs, rfl, e1, e2, e3⟩ := h; exact ⟨dx, t, xs, rfl, ka _ e1, s _ _ e2 (Hard.t xs), Paired.mapP e3 fun _ _ z => z.hs s⟩

  | bound _ _ => exact h.elim
  | var _ => exact h.elim
  | cur _ => exact h.elim
theorem ThAt.same {H H' : Hp} {a : Addr} {b : Option Addr} {t : Th} (h : ThAt w c H a b t) (s : Same H H') : ThAt w c H' a b t := h.mono (.same s) (fun _ e => s _ _ e) fun _ _ _ e => s _ _ e
theorem ThAt.keep {H H' : Hp} {a : Addr} {b : Option Addr} {t : Th} {ps : List Addr} (h : ThAt w c H a b t) (k : Keep ps H H') (s : ∀ p ∈ ps, Soft c H p) (n : ∀ q ∈ footT a b, q ∉ ps) : ThAt w c H' a b t :=
  h.mono (.keep k s) (fun _ e => k _ _ (n _ (by simp [footT])) e) fun q _ hb e => k _ _ (n _ (by simp [footT, hb])) e
/-- the addresses of a store's objects; the store as a model -/
structure SA where
  (y tl ol ll : Addr)
  L : List (Addr × Option Addr)
def footL (L : List (Addr × Option Addr)) : List Addr := L.flatMap fun p => footT p.1 p.2
def SA.foot (x : SA) : List Addr := x.y :: x.tl :: x.ol :: x.ll :: footL x.L
structure SV where
  things : List Th
  out : List Str
  lines : List Str
  taken : Nat
def StR (c : Cs) (H : Hp) (y tl ol ll : Addr) (tk : V) : Prop := ∃ dx, H y = some (.ins c.Store dx [("things", .ref tl), ("output", .ref ol), ("lines", .ref ll), ("taken", tk)])
theorem StR.same {H H' : Hp} {y tl ol ll : Addr} {tk : V} (h : StR c H y tl ol ll tk) (s : Same H H') : StR c H' y tl ol ll tk := h.imp fun _ e => s _ _ e
structure Sto (w : World) (c : Cs) (H : Hp) (x : SA) (S : SV) : Prop where
  st : StR c H x.y x.tl x.ol x.ll (.int (S.taken : Nat))
  et : H x.tl = some (.lst (x.L.map fun p => V.ref p.1))
  eo : H x.ol = some (.lst (S.out.map V.str))
  el : H x.ll = some (.lst (S.lines.map V.str))
  th : Paired (fun p t => ThAt w c H p.1 p.2 t) x.L S.things
  nd : x.foot.Nodup
theorem Sto.same {H H' : Hp} {x : SA} {S : SV} (h : Sto w c H x S) (s : Same H H') : Sto w c H' x S := ⟨h.st.same s, s _ _ h.et, s _ _ h.eo, s _ _ h.el, Paired.mapP h.th fun _ _ z => z.same s, h.nd⟩
theorem paired_mem {α β : Type} {F : α → β → Prop} {xs : List α} {ys : List β} (h : Paired F xs ys) : Paired (fun a b => a ∈ xs ∧ F a b) xs ys := by
  induction h with
  | nil => exact .nil
  | cons r t ih => exact .cons ⟨List.mem_cons_self .., r⟩ (Paired.mapP ih fun _ _ z => ⟨List.mem_cons_of_mem _ z.1, z.2⟩)
theorem mem_footL {L : List (Addr × Option Addr)} {p : Addr × Option Addr} {q : Addr} (h : p ∈ L) (hq : q ∈ footT p.1 p.2) : q ∈ footL L := List.mem_flatMap.mpr ⟨p, h, hq⟩
/-- behind a change elsewhere -/
theorem Sto.keep {H H' : Hp} {x : SA} {S : SV} {ps : List Addr} (h : Sto w c H x S) (k : Keep ps H H') (s : ∀ p ∈ ps, Soft c H p) (n : ∀ q ∈ x.foot, q ∉ ps) : Sto w c H' x S := by
  have m1 : x.y ∈ x.foot := by simp [SA.foot]
  have m2 : x.tl ∈ x.foot := by simp [SA.foot]
  have m3 : x.ol ∈ x.foot := by simp [SA.foot]
  have m4 : x.ll ∈ x.foot := by simp [SA.foot]
  obtain ⟨dx, e⟩ := h.st
  exact ⟨⟨dx, k _ _ (n _ m1) e⟩, k _ _ (n _ m2) h.et, k _ _ (n _ m3) h.eo, k _ _ (n _ m4) h.el,
    Paired.mapP (paired_mem h.th) fun p t z => z.2.keep k s fun q hq => n q (by simp only [SA.foot, List.mem_cons]; exact .inr (.inr (.inr (.inr (mem_footL z.1 hq))))), h.nd⟩
theorem Sto.at {H : Hp} {x : SA} {S : SV} (h : Sto w c H x S) {n : Nat} {t : Th} (e : S.things[n]? = some t) : ∃ a b, x.L[n]? = some (a, b) ∧ ThAt w c H a b t := by
  have hl : x.L.length = S.things.length := Paired.length h.th
  obtain ⟨hi, _⟩ := List.getElem?_eq_some_iff.mp e
  have e1 : x.L[n]? = some x.L[n] := List.getElem?_eq_getElem (by omega)
  obtain ⟨t', h1, h2⟩ := paired_get h.th e1
  rw [e] at h1
  cases h1
  exact ⟨x.L[n].1, x.L[n].2, e1, h2⟩
/-! ### Store(..), its methods -/
def st0 (lines : List Str) : SV := ⟨[.kin "Error" none []], [], lines, 0⟩
def spStore (w : World) (K : PySem.W.Frag) (c : Cs) : Sp := fun vs H Q _ => match vs with
  | [.ref l] => ∃ zs : List Str, Rl K H l (zs.map V.str) ∧ ∀ x H1, Sto w c H1 x (st0 zs) → Same H H1 → (∀ q ∈ x.foot, H q = none) → Q (.ref x.y) H1
  | _ => False
theorem ok_store (A : AtM K c.Store "__init__" "Store.__init__" s_Store___init__ ["self", "lines"]) (T : Txt K mg c) (M_Kin : HasC P w K mg base CX0 c.Kin "Kin" 1 ["self", "name", "parent"] (spMk_Kin K c)) : HasC P w K mg base CX0 c.Store "Store" 3 ["self", "lines"] (spStore w K c) := by
  have Sc := sc_Store___init__
  refine hasC_of T.mk_Store A Sc (fun vs H Q E h => ?_) (fun cdv f A outer s H vs Q E y dx H0 hr h hy hs h0 => ?_)
  · unfold spStore at h; split at h; rfl; cases h
  · unfold spStore at h
    split at h
    · rename_i l
      obtain ⟨zs, r, h⟩ := h
      refine ⟨_, (pss_cons (fs_fld (fe_var 0) (fe_lst (pa_cons (fe_make (k := _) M_Kin (hr.mono (by walk_at "rm")) (by rfl) pass0 (pa_cons (fe_gstr (by rfl) T.g_ERROR) (pa_cons pe_non pa_nil))) pa_nil)) T.pl_things rfl)
      (pss_cons (fs_fld (fe_var 0) (fe_lst pa_nil) T.pl_output rfl)
      (pss_cons (fs_fld (fe_var 0) (pe_callTy call_fListOf (by rfl) T.no_list (by decide +kernel) (pa_cons (fe_var 1) pa_nil)) T.pl_lines rfl)
      (pss_one (fs_fld (fe_var 0) pe_int T.pl_taken rfl))))), ?_⟩
      walk_at "fx0"
      walk_at "ox"
      unfold spMk_Kin
      intro k kdx md H1 nk s1 e1 nmd emd hne
      walk_at "ox"
      intro tl H2 ntl s2 etl
      have ey2 := s2 _ _ (s1 _ _ h0)
      simp only [ey2]
      walk_at "ox"
      have ny2 : tl ≠ y := fun q => by rw [q, s1 _ _ h0] at ntl; cases ntl
      have nky : k ≠ y := fun q => by rw [q, h0] at nk; cases nk
      have nmy : md ≠ y := fun q => by rw [q, h0] at nmd; cases nmd
      intro ol H3 nol s3 eol
      have noy : ol ≠ y := fun q => by rw [q, upd_same] at nol; cases nol
      have not_ : tl ≠ ol := fun q => by rw [← q, upd_ne ny2, etl] at nol; cases nol
      have nolH : H2 ol = none := by rw [upd_ne noy] at nol; exact nol
      have ey3 := s3 _ _ upd_same
      simp only [ey3]
      walk_at "ox"
      refine ⟨_, rl_keep (mk_same ((mk_same ((hs.trans s1).trans s2) hy).trans s3) hy) r, ?_⟩
      intro ll H4 nll s4 ell
      have nly : ll ≠ y := fun q => by rw [q, upd_same] at nll; cases nll
      have nllH : H3 ll = none := by rw [upd_ne nly] at nll; exact nll
      have nlt : tl ≠ ll := fun q => by rw [← q, s3 _ _ ((upd_ne ny2).trans etl)] at nllH; cases nllH
      have nlo : ol ≠ ll := fun q => by rw [← q, eol] at nllH; cases nllH
      have ey4 := s4 _ _ upd_same
      simp only [ey4]
      walk_at "ox"
      have S2 : Same H H2 := (hs.trans s1).trans s2
      have S3 : Same H H3 := (mk_same S2 hy).trans s3
      have S4 : Same H H4 := (mk_same S3 hy).trans s4
      have up : ∀ {q : Addr} {o : HO}, q ≠ y → H2 q = some o → upd H4 y (.ins c.Store dx [("things", .ref tl), ("output", .ref ol), ("lines", .ref ll), ("taken", .int 0)]) q = some o := fun nq e =>
        (upd_ne nq).trans (s4 _ _ ((upd_ne nq).trans (s3 _ _ ((upd_ne nq).trans e))))
      have ek2 := s2 _ _ e1
      have em2 := s2 _ _ emd
      have nkt : k ≠ tl := fun q => by rw [q, etl] at ek2; cases ek2
      have nmt : md ≠ tl := fun q => by rw [q, etl] at em2; cases em2
      have nko : k ≠ ol := fun q => by rw [← q, ek2] at nolH; cases nolH
      have nmo : md ≠ ol := fun q => by rw [← q, em2] at nolH; cases nolH
      have nkl : k ≠ ll := fun q => by rw [← q, s3 _ _ ((upd_ne nky).trans ek2)] at nllH; cases nllH
      have nml : md ≠ ll := fun q => by rw [← q, s3 _ _ ((upd_ne nmy).trans em2)] at nllH; cases nllH
      refine h ⟨y, tl, ol, ll, [(k, some md)]⟩ _ ⟨⟨dx, upd_same⟩, up ny2 etl, (upd_ne noy).trans (s4 _ _ ((upd_ne noy).trans eol)), (upd_ne nly).trans ell, .cons ⟨kdx, .non, md, [], rfl, up nky ek2, rfl, up nmy em2, .nil⟩ .nil, ?_⟩ (mk_same S4 hy) ?_
      · simp only [SA.foot, footL, footT, List.flatMap_cons, List.flatMap_nil, Option.toList_some, List.cons_append, List.nil_append, List.append_nil, List.nodup_cons, List.mem_cons, List.not_mem_nil, or_false, not_or, List.nodup_nil, and_true, not_false_eq_true]
        exact ⟨⟨Ne.symm ny2, Ne.symm noy, Ne.symm nly, Ne.symm nky, Ne.symm nmy⟩, ⟨not_, nlt, Ne.symm nkt, Ne.symm nmt⟩, ⟨nlo, Ne.symm nko, Ne.symm nmo⟩, ⟨Ne.symm nkl, Ne.symm nml⟩, Ne.symm hne⟩
      · intro q hq
        simp only [SA.foot, footL, footT, List.flatMap_cons, List.flatMap_nil, Option.toList_some, List.cons_append, List.nil_append, List.append_nil, List.mem_cons, List.not_mem_nil, or_false] at hq
        rcases hq with rfl | rfl | rfl | rfl | rfl | rfl
        · exact hy
        · exact (hs.trans s1).free ntl
        · exact S2.free nolH
        · exact S3.free nllH
        · exact hs.free nk
        · exact hs.free nmd
    · cases h
end

section
variable {P : Program} {w : World} {K : PySem.W.Frag} {mg : Str → Option Value} {base : Heap} {c : Cs}
/-! ### objects of a store, by their classes -/
def clsT (c : Cs) : Th → Addr
  | .parts _ => c.Parts
  | .table _ => c.Table
  | .inst _ _ => c.Instance
  | .kin _ _ _ => c.Kin
  | .clo _ _ _ => c.Closure

  | .bound _ _ => c.Store
  | .var _ => c.Store
  | .cur _ => c.Store

theorem ThAt.ins {H : Hp} {a : Addr} {b : Option Addr} {t : Th} (h : ThAt w c H a b t) : ∃ dx fs, H a = some (.ins (clsT c t) dx fs) := by
  cases t <;> first
    | (obtain ⟨dx, l, xs, _, e, _⟩ := h; exact ⟨_, _, e⟩)
    | (obtain ⟨d, rws, _, ⟨dx, e⟩, _⟩ := h; exact ⟨_, _, e⟩)
    | (obtain ⟨dx, ra, nd, kvs, _, e, _⟩ := h; exact ⟨_, _, e⟩)
    | (obtain ⟨dx, e⟩ := h; exact ⟨_, _, e⟩)
    | (obtain ⟨dx, x, _, e, _⟩ := h; exact ⟨_, _, e⟩)
    | exact h.elim
def tyR (c : Cs) (S : SV) : RV → Value
  | .ob n => match S.things[n]? with
    | some t => .ref (clsT c t)
    | none => .type "NoneType"
  | _ => .type "NoneType"
def WfR (S : SV) (r : RV) : Prop := ∀ n, r = .ob n → n < S.things.length
theorem WfR.num {S : SV} {n : Int} : WfR S (.num n) := fun _ h => by cases h
def kindT : Th → Str
  | .parts _ => "list"
  | .table _ => "map"
  | .inst _ _ => "instance"
  | .kin _ _ _ => "class"
  | _ => "function"
def kindR (S : SV) : RV → Str
  | .nul => "null"
  | .boo _ => "boolean"
  | .num _ => "integer"
  | .txt _ => "text"
  | .bt _ => "function"
  | .ob n => match S.things[n]? with
    | some t => kindT t
    | none => "function"
def SA.add (x : SA) (a : Addr) (b : Option Addr) : SA := { x with L := x.L ++ [(a, b)] }
def SV.add (S : SV) (t : Th) : SV := { S with things := S.things ++ [t] }
theorem foot_add {x : SA} {a : Addr} {b : Option Addr} : (x.add a b).foot = x.foot ++ footT a b := by
  simp [SA.foot, SA.add, footL]
/-- a new object of the store -/
def NewTh (w : World) (c : Cs) (H : Hp) (x : SA) (S : SV) (t : Th) (Q : VK) : Prop := ∀ r a b H1, H r = none → (∀ q ∈ footT a b, H q = none) → Keep [x.tl] H H1 → Sto w c H1 (x.add a b) (S.add t) → IsRef c H1 r (S.things.length : Nat) → Q (.ref r) H1
theorem soft_lst {H : Hp} {p : Addr} {xs : List V} (e : H p = some (.lst xs)) : Soft c H p := fun o h hd => by
  rw [e] at h
  cases h
  rcases hd with ⟨_, h⟩ | hd
  · cases h
  · rcases hd with ⟨_, _, h⟩ | ⟨_, _, h⟩ <;> cases h

theorem soft_dk {H : Hp} {p : Addr} {xs : List (Key × V)} (e : H p = some (.dK xs)) : Soft c H p := fun o h hd => by
  rw [e] at h
  cases h
  rcases hd with ⟨_, h⟩ | hd
  · cases h
  · rcases hd with ⟨_, _, h⟩ | ⟨_, _, h⟩ <;> cases h

theorem Sto.soft_tl {H : Hp} {x : SA} {S : SV} (h : Sto w c H x S) : ∀ p ∈ [x.tl], Soft c H p := fun p m => by
  rw [List.mem_singleton.mp m]; exact soft_lst h.et
theorem mem_add {x : SA} {p : Addr × Option Addr} {q : Addr} (hp : p ∈ x.L) (hq : q ∈ footT p.1 p.2) : q ∈ x.foot := by
  simp only [SA.foot, List.mem_cons]; exact .inr (.inr (.inr (.inr (mem_footL hp hq))))
/-- an object that stands already is put into the store's list -/
theorem Sto.push {H H1 : Hp} {x : SA} {S : SV} {a : Addr} {b : Option Addr} {t : Th} (h : Sto w c H x S) (k : Keep [x.tl] H H1) (e : H1 x.tl = some (.lst ((x.L.map fun p => V.ref p.1) ++ [.ref a]))) (ht : ThAt w c H a b t) (hn : (footT a b).Nodup) (hd : ∀ q ∈ footT a b, q ∉ x.foot) : Sto w c H1 (x.add a b) (S.add t) := by
  have nd := h.nd
  have m2 : x.tl ∈ x.foot := by simp [SA.foot]
  simp only [SA.foot, List.nodup_cons, List.mem_cons, not_or] at nd
  obtain ⟨⟨n1, n2, n3, n4⟩, ⟨n5, n6, n7⟩, ⟨n8, n9⟩, n10, n11⟩ := nd
  obtain ⟨dx, ey⟩ := h.st
  refine ⟨⟨dx, k _ _ (by show x.y ∉ [x.tl]; simpa using n1) ey⟩, by rw [show (x.add a b).tl = x.tl from rfl, e]; simp [SA.add], k _ _ (by show x.ol ∉ [x.tl]; simpa using Ne.symm n5) h.eo, k _ _ (by show x.ll ∉ [x.tl]; simpa using Ne.symm n6) h.el, ?_, ?_⟩
  · refine Paired.snoc (Paired.mapP (paired_mem h.th) fun p t' z => z.2.keep k h.soft_tl fun q hq hm => ?_) (ht.keep k h.soft_tl fun q hq hm => ?_)
    · rw [List.mem_singleton.mp hm] at hq
      exact n7 (mem_footL z.1 hq)
    · rw [List.mem_singleton.mp hm] at hq
      exact hd _ hq m2
  · rw [foot_add, List.nodup_append]
    exact ⟨h.nd, hn, fun p hp q hq e => hd q hq (by rw [← e]; exact hp)⟩
def spMake (w : World) (c : Cs) : Sp := fun vs H Q _ => match vs with
  | [.ref y, .ref a] => ∃ x S b t, y = x.y ∧ Sto w c H x S ∧ ThAt w c H a b t ∧ (footT a b).Nodup ∧ (∀ q ∈ footT a b, q ∉ x.foot) ∧ S.things.length < 99999 ∧
    ∀ r H1, H r = none → Keep [x.tl] H H1 → Sto w c H1 (x.add a b) (S.add t) → IsRef c H1 r (S.things.length : Nat) → Q (.ref r) H1
  | _ => False
theorem ok_make (A : AtM K c.Store "make" "Store.make" s_Store_make ["self", "thing"]) (T : Txt K mg c) (M_Ref : HasC P w K mg base CX0 c.Ref "Ref" 1 ["self", "number"] (spMk_Ref K c)) : HasM P w K mg base CX0 c.Store "make" 3 ["self", "thing"] (spMake w c) := by
  have Sc := sc_Store_make
  refine hasM_of A Sc (fun vs H Q E h => ?_) (fun cdv f A outer s H vs Q E hr h => ?_)
  · unfold spMake at h; split at h; rfl; cases h
  · unfold spMake at h
    split at h
    · rename_i y a
      obtain ⟨x, S, b, t, rfl, hS, ht, hn, hd, hl, h⟩ := h
      have hlen : x.L.length = S.things.length := Paired.length hS.th
      obtain ⟨dx, e0⟩ := hS.st
      have e1 := hS.et
      have ne : x.y ≠ x.tl := fun q => by rw [q, e1] at e0; cases e0
      refine ⟨_, (pss_cons (ps_expr (fe_bm PySem.F.plainAttrs_list PySem.F.slot_list_append PySem.F.type_list_append isLst_ty mt_fAppend (fe_fld (fe_var 0) T.pl_things rfl) (pa_cons (fe_var 1) pa_nil)))
      (pss_one (ps_ret (fe_make (k := _) M_Ref (hr.mono (by walk_at "rm")) (by rfl) pass0 (pa_cons (pe_op op_fSub (pe_callB call_fLen (by rfl) T.no_len (by decide +kernel) (pa_cons (fe_fld (fe_var 0) T.pl_things rfl) pa_nil)) pe_int) pa_nil))))), ?_⟩
      walk_at "fx0"
      walk_at "ox"
      simp only [e0]
      walk_at "ox"
      simp only [e1]
      walk_at "ox"
      have e0' : ∀ o, upd H x.tl o x.y = some (.ins c.Store dx [("things", .ref x.tl), ("output", .ref x.ol), ("lines", .ref x.ll), ("taken", .int (S.taken : Nat))]) := fun o => by rw [upd_ne ne]; exact e0
      refine ⟨len_line' (by rw [List.length_map]; omega), ?_⟩
      simp only [e0']
      walk_at "ox"
      refine ⟨_, rl_l upd_same, ?_⟩
      unfold spMk_Ref
      intro r rdx H1 nr s1 er
      have k1 : Keep [x.tl] H H1 := (Keep.refl.upd (by simp)).trans (Keep.of s1)
      refine h r H1 ?_ k1 (hS.push k1 (s1 _ _ upd_same) ht hn hd) ⟨rdx, ?_⟩
      · by_cases q : r = x.tl
        · rw [q, upd_same] at nr; cases nr
        · rw [upd_ne q] at nr; exact nr
      · rw [er, List.length_append, List.length_map, List.length_cons, List.length_nil]
        have : (((x.L.length + (0 + 1) : Nat) : Int) - 1) = ((S.things.length : Nat) : Int) := by omega
        rw [this]
    · cases h
def spAt (w : World) (c : Cs) : Sp := fun vs H Q _ => match vs with
  | [.ref y, .ref r] => ∃ x S n t, y = x.y ∧ Sto w c H x S ∧ IsRef c H r (n : Nat) ∧ S.things[n]? = some t ∧ ∀ a b, x.L[n]? = some (a, b) → ThAt w c H a b t → Q (.ref a) H
  | _ => False
theorem Sto.num {H : Hp} {x : SA} {S : SV} (h : Sto w c H x S) {n : Nat} {t : Th} (e : S.things[n]? = some t) : ∃ a b, x.L[n]? = some (a, b) ∧ ThAt w c H a b t ∧ atI (x.L.map fun p => V.ref p.1) (n : Nat) = some (.ref a) := by
  obtain ⟨a, b, h1, h2⟩ := h.at e
  exact ⟨a, b, h1, h2, atI_nat (by rw [List.getElem?_map, h1]; rfl)⟩
theorem ok_at (A : AtM K c.Store "at" "Store.at" s_Store_at ["self", "ref"]) (T : Txt K mg c) : HasM P w K mg base CX0 c.Store "at" 1 ["self", "ref"] (spAt w c) := by
  have Sc := sc_Store_at
  refine hasM_of A Sc (fun vs H Q E h => ?_) (fun cdv f A outer s H vs Q E hr h => ?_)
  · unfold spAt at h; split at h; rfl; cases h
  · unfold spAt at h
    split at h
    · rename_i y r
      obtain ⟨x, S, n, t, rfl, hS, ⟨rdx, er⟩, et, h⟩ := h
      obtain ⟨dx, e0⟩ := hS.st
      obtain ⟨a, b, h1, h2, h3⟩ := hS.num et
      refine ⟨_, (pss_one (ps_ret (pe_ix ix_fx (fe_fld (fe_var 0) T.pl_things rfl) (fe_fld (fe_var 1) T.pl_number rfl) (fun _ _ => rfl)))), ?_⟩
      walk_at "fx0"
      walk_at "ox"
      simp only [e0]
      walk_at "ox"
      simp only [er]
      walk_at "ox"
      exact ⟨_, rl_l hS.et, _, h3, h a b h1 h2⟩
    · cases h
def spThing (w : World) (c : Cs) : Sp := fun vs H Q _ => match vs with
  | [.ref y, v] => ∃ x S r, y = x.y ∧ Sto w c H x S ∧ IsVal c H v r ∧ WfR S r ∧
    ∀ tv, tyV2 H tv = some (tyR c S r) → (∀ n t, r = .ob n → S.things[n]? = some t → ∃ a b, tv = .ref a ∧ x.L[n]? = some (a, b) ∧ ThAt w c H a b t) → ((∀ n, r ≠ .ob n) → tv = .non) → Q tv H
  | _ => False
theorem ok_thing (A : At K mg "thing_of" "thing_of" s_thing_of ["store", "value"]) (T : Txt K mg c) (M_Store_at : HasM P w K mg base CX0 c.Store "at" 1 ["self", "ref"] (spAt w c)) : Has P w K mg base CX0 "thing_of" 2 ["store", "value"] (spThing w c) := by
  have Sc := sc_thing_of
  refine has_of A Sc (fun vs H Q E h => ?_) (fun cdv f A outer s H vs Q E hr h => ?_)
  · unfold spThing at h; split at h; rfl; cases h
  · unfold spThing at h
    split at h
    · rename_i y v
      obtain ⟨x, S, r, rfl, hS, hv, hw, h⟩ := h
      obtain ⟨dx0, e0⟩ := hS.st
      refine ⟨_, (pss_cons (ps_if (pt_val (pe_callB (call_fIsiO T.kit) (by rfl) T.no_isinstance (by decide +kernel) (pa_cons (fe_var 1) (pa_cons (pe_glob (v := .ref c.Ref) (by rfl) T.mg_Ref rfl) pa_nil)))) (pss_one (ps_ret (fe_meth M_Store_at T.cl_Store (hr.mono (by walk_at "rm")) pass0 (fe_var 0) (pa_cons (fe_var 1) pa_nil)))) pss_nil)
      (pss_one (ps_ret pe_non))), ?_⟩
      walk_at "fx0"
      cases r with
      | ob n =>
        obtain ⟨a, rfl, dx, e1⟩ := hv
        have hn := hw n rfl
        obtain ⟨t, et⟩ : ∃ t, S.things[n]? = some t := ⟨S.things[n], List.getElem?_eq_getElem hn⟩
        repeat (first | walk_at "oxs" | simp only [e1] | simp only [e0])
        refine ⟨x, S, n, t, rfl, hS, ⟨dx, e1⟩, et, fun a' b h1 h2 => ?_⟩
        obtain ⟨dx2, fs2, e2⟩ := h2.ins
        refine h _ ?_ (fun n' t' e3 e4 => ?_) fun hn => absurd rfl (hn n)
        · show tyV2 H (.ref a') = some (match S.things[n]? with | some t => .ref (clsT c t) | none => .type "NoneType")
          rw [et]
          simp only [tyV2, e2]
        · cases e3
          rw [et] at e4
          cases e4
          exact ⟨a', b, rfl, h1, h2⟩
      | bt z =>
        obtain ⟨a, rfl, dx, e1⟩ := hv
        repeat (first | walk_at "oxs" | simp only [e1])
        exact h _ rfl (fun _ _ z _ => by cases z) fun _ => rfl

      | nul => cases hv; repeat (walk_at "oxs"); exact h _ rfl (fun _ _ z _ => by cases z) fun _ => rfl
      | boo b => cases hv; repeat (walk_at "oxs"); exact h _ rfl (fun _ _ z _ => by cases z) fun _ => rfl
      | num b => cases hv; repeat (walk_at "oxs"); exact h _ rfl (fun _ _ z _ => by cases z) fun _ => rfl
      | txt b => cases hv; repeat (walk_at "oxs"); exact h _ rfl (fun _ _ z _ => by cases z) fun _ => rfl
    · cases h
def spKind (w : World) (c : Cs) : Sp := fun vs H Q _ => match vs with
  | [.ref y, v] => ∃ x S r, y = x.y ∧ Sto w c H x S ∧ IsVal c H v r ∧ WfR S r ∧ Q (.str (kindR S r)) H
  | _ => False
set_option maxHeartbeats 4000000 in
theorem ok_kind (A : At K mg "kind_of" "kind_of" s_kind_of ["store", "value"]) (T : Txt K mg c) (H_thing_of : Has P w K mg base CX0 "thing_of" 2 ["store", "value"] (spThing w c)) : Has P w K mg base CX0 "kind_of" 3 ["store", "value"] (spKind w c) := by
  have Sc := sc_kind_of
  refine has_of A Sc (fun vs H Q E h => ?_) (fun cdv f A outer s H vs Q E hr h => ?_)
  · unfold spKind at h; split at h; rfl; cases h
  · unfold spKind at h
    split at h
    · rename_i y v
      obtain ⟨x, S, r, rfl, hS, hv, hw, h⟩ := h
      refine ⟨_, (pss_cons (ps_if (pt_cmpR op_fIsN (fe_var 1) pe_non (nomark _)) (pss_one (ps_ret pe_str)) pss_nil)
      (pss_cons (ps_if (pt_val (pe_callB (call_fIsiA T.kit) (by rfl) T.no_isinstance (by decide +kernel) (pa_cons (fe_var 1) (pa_cons (fe_ty (n := "bool") (by rfl) T.no_bool (by decide +kernel)) pa_nil)))) (pss_one (ps_ret pe_str)) pss_nil)
      (pss_cons (ps_if (pt_val (pe_callB (call_fIsiA T.kit) (by rfl) T.no_isinstance (by decide +kernel) (pa_cons (fe_var 1) (pa_cons (fe_ty (n := "int") (by rfl) T.no_int (by decide +kernel)) pa_nil)))) (pss_one (ps_ret pe_str)) pss_nil)
      (pss_cons (ps_if (pt_val (pe_callB (call_fIsiA T.kit) (by rfl) T.no_isinstance (by decide +kernel) (pa_cons (fe_var 1) (pa_cons (fe_ty (n := "str") (by rfl) T.no_str (by decide +kernel)) pa_nil)))) (pss_one (ps_ret pe_str)) pss_nil)
      (pss_cons (ps_set (i := 2) Sc.nd rfl (.inl rfl) (fe_call H_thing_of (hr.mono (by walk_at "rm")) (by rfl) pass0 (pa_cons (fe_var 0) (pa_cons (fe_var 1) pa_nil))))
      (pss_cons (ps_if (pt_val (pe_callB (call_fIsiO T.kit) (by rfl) T.no_isinstance (by decide +kernel) (pa_cons (fe_var 2) (pa_cons (pe_glob (v := .ref c.Parts) (by rfl) T.mg_Parts rfl) pa_nil)))) (pss_one (ps_ret pe_str)) pss_nil)
      (pss_cons (ps_if (pt_val (pe_callB (call_fIsiO T.kit) (by rfl) T.no_isinstance (by decide +kernel) (pa_cons (fe_var 2) (pa_cons (pe_glob (v := .ref c.Table) (by rfl) T.mg_Table rfl) pa_nil)))) (pss_one (ps_ret pe_str)) pss_nil)
      (pss_cons (ps_if (pt_val (pe_callB (call_fIsiO T.kit) (by rfl) T.no_isinstance (by decide +kernel) (pa_cons (fe_var 2) (pa_cons (pe_glob (v := .ref c.Instance) (by rfl) T.mg_Instance rfl) pa_nil)))) (pss_one (ps_ret pe_str)) pss_nil)
      (pss_cons (ps_if (pt_val (pe_callB (call_fIsiO T.kit) (by rfl) T.no_isinstance (by decide +kernel) (pa_cons (fe_var 2) (pa_cons (pe_glob (v := .ref c.Kin) (by rfl) T.mg_Kin rfl) pa_nil)))) (pss_one (ps_ret pe_str)) pss_nil)
      (pss_one (ps_ret pe_str))))))))))), ?_⟩
      walk_at "fx0"
      have hv0 := hv
      cases r with
      | ob n =>
        obtain ⟨a, rfl, dx, e1⟩ := hv
        have hn := hw n rfl
        obtain ⟨t, et⟩ : ∃ t, S.things[n]? = some t := ⟨S.things[n], List.getElem?_eq_getElem hn⟩
        repeat (first | walk_at "oxs" | simp only [e1])
        refine ⟨x, S, .ob n, rfl, hS, hv0, hw, fun tv h1 h2 _ => ?_⟩
        obtain ⟨a', b, rfl, h3, h4⟩ := h2 n t rfl et
        obtain ⟨dx2, fs2, e2⟩ := h4.ins
        have hk : kindR S (.ob n) = kindT t := by show (match S.things[n]? with | some t => kindT t | none => "function") = _; rw [et]
        rw [hk] at h
        cases t <;> first
          | exact h4.elim
          | (simp only [clsT] at e2
             repeat (first | walk_at "oxs" | simp only [e2])
             exact h)
      | bt z =>
        obtain ⟨a, rfl, dx, e1⟩ := hv
        repeat (first | walk_at "oxs" | simp only [e1])
        refine ⟨x, S, .bt z, rfl, hS, hv0, hw, fun tv h1 h2 h3 => ?_⟩
        have etv := h3 fun n z => by cases z
        subst etv
        repeat (first | walk_at "oxs" | simp only [e1])
        exact h

      | nul => cases hv; repeat (walk_at "oxs"); exact h
      | boo b => cases hv; repeat (walk_at "oxs"); exact h
      | num b => cases hv; repeat (walk_at "oxs"); exact h
      | txt b => cases hv; repeat (walk_at "oxs"); exact h
    · cases h
theorem kindR_len {S : SV} {r : RV} : (kindR S r).length ≤ 8 := by
  have ht : ∀ t, (kindT t).length ≤ 8 := fun t => by cases t <;> simp only [kindT] <;> decide
  cases r with
  | ob n =>
    show Str.length (match S.things[n]? with | some t => kindT t | none => "function") ≤ 8
    split
    · exact ht _
    · decide
  | _ => show Str.length _ ≤ 8; simp only [kindR]; decide
theorem keys_vs {H : Hp} {rws : List (V × V)} {rows : List (RV × RV)} (h : Paired (fun x r => IsVal c H x.1 r.1 ∧ IsVal c H x.2 r.2) rws rows) : VsAt c H (rws.map fun z => z.1) (rows.map fun z => z.1) := by
  induction h with
  | nil => exact .nil
  | cons a b ih => exact .cons a.1 ih
def rvOf : V → RV
  | .bl b => .boo b
  | .int n => .num n
  | .str z => .txt z
  | _ => .nul
theorem rvOf_is {H : Hp} {v : V} (h : scV v = true) : IsVal c H v (rvOf v) := by cases v <;> first | rfl | cases h
theorem rvOf_nb {v : V} {z : Str} : rvOf v ≠ .bt z := by cases v <;> (intro h; cases h)
theorem vs_rvOf {H : Hp} : ∀ {ks : List V}, (∀ v ∈ ks, scV v = true) → VsAt c H ks (ks.map rvOf)
  | [], _ => .nil
  | a :: t, h => .cons (rvOf_is (h a (List.mem_cons_self ..))) (vs_rvOf fun v m => h v (List.mem_cons_of_mem _ m))
end

section
variable {P : Program} {w : World} {K : PySem.W.Frag} {mg : Str → Option Value} {base : Heap} {c : Cs}
def OutS (c : Cs) (H : Hp) (k m : Str) (E : XK) : Prop := Out c.ScriptError H [("message", .str m), ("kind", .str k)] E
/-! ### new objects -/
theorem ThAt.live {H : Hp} {a : Addr} {b : Option Addr} {t : Th} (h : ThAt w c H a b t) : ∀ q ∈ footT a b, ∃ o, H q = some o := by
  have two_ : ∀ {l : Addr} {o1 o2 : HO}, H a = some o1 → H l = some o2 → ∀ q ∈ footT a (some l), ∃ o, H q = some o := by
    intro l o1 o2 e1 e2 q hq
    simp only [footT, Option.toList_some, List.mem_cons, List.not_mem_nil, or_false] at hq
    rcases hq with rfl | rfl
    · exact ⟨_, e1⟩
    · exact ⟨_, e2⟩
  have one_ : ∀ {o1 : HO}, H a = some o1 → ∀ q ∈ footT a none, ∃ o, H q = some o := by
    intro o1 e1 q hq
    simp only [footT, Option.toList_none, List.mem_cons, List.not_mem_nil, or_false] at hq
    rw [hq]; exact ⟨_, e1⟩
  cases t with
  | parts rs => obtain ⟨dx, l, xs, rfl, e1, e2, e3⟩ := h; exact two_ e1 e2
  | table rows => obtain ⟨d, rws, rfl, ⟨dx, e1⟩, e2, e3⟩ := h; obtain ⟨⟨es, D, e0, r⟩, nd⟩ := e2; exact two_ e1 e0
  | inst o fs => obtain ⟨dx, ra, nd, kvs, rfl, e1, e2, e3, e4⟩ := h; exact two_ e1 e3
  | kin n p ms => obtain ⟨dx, pv, md, kvs, rfl, e1, e2, e3, e4⟩ := h; exact two_ e1 e3
  | clo n k sc => obtain ⟨dx, t, xs, rfl, e1, e2, e3⟩ := h; exact one_ e1

  | bound _ _ => exact h.elim
  | var _ => exact h.elim
  | cur _ => exact h.elim
theorem Sto.live {H : Hp} {x : SA} {S : SV} (h : Sto w c H x S) : ∀ q ∈ x.foot, ∃ o, H q = some o := by
  intro q hq
  simp only [SA.foot, List.mem_cons] at hq
  rcases hq with rfl | rfl | rfl | rfl | hq
  · obtain ⟨dx, e⟩ := h.st; exact ⟨_, e⟩
  · exact ⟨_, h.et⟩
  · exact ⟨_, h.eo⟩
  · exact ⟨_, h.el⟩
  · obtain ⟨p, hp, hq⟩ := List.mem_flatMap.mp hq
    obtain ⟨i, hi, rfl⟩ := List.getElem_of_mem hp
    obtain ⟨t, _, ht⟩ := paired_get h.th (List.getElem?_eq_getElem hi)
    exact ht.live q hq
theorem new_make {H H1 : Hp} {x : SA} {S : SV} {a : Addr} {b : Option Addr} {t : Th} {Q : VK} {E : XK} (hS : Sto w c H x S) (s1 : Same H H1) (ht : ThAt w c H1 a b t) (hn : (footT a b).Nodup) (hf : ∀ q ∈ footT a b, H q = none) (hl : S.things.length < 99999) (h : NewTh w c H x S t Q) : spMake w c [.ref x.y, .ref a] H1 Q E :=
  ⟨x, S, b, t, rfl, hS.same s1, ht, hn, (fun q hq m => by
    obtain ⟨o, e⟩ := hS.live q m
    rw [hf q hq] at e
    cases e), hl, fun r H2 nr k st hr => h r a b H2 (s1.free nr) hf ((Keep.of s1).trans k) st hr⟩
theorem foot_two {a l : Addr} (h : l ≠ a) : (footT a (some l)).Nodup := by simp [footT, Ne.symm h]
theorem free_two {H : Hp} {a l : Addr} (h1 : H a = none) (h2 : H l = none) : ∀ q ∈ footT a (some l), H q = none := by
  intro q hq
  simp only [footT, Option.toList_some, List.mem_cons, List.not_mem_nil, or_false] at hq
  rcases hq with rfl | rfl <;> assumption
theorem foot_one {a : Addr} : (footT a none).Nodup := by simp [footT]
theorem free_one {H : Hp} {a : Addr} (h1 : H a = none) : ∀ q ∈ footT a none, H q = none := by
  intro q hq
  simp only [footT, Option.toList_none, List.mem_cons, List.not_mem_nil, or_false] at hq
  rw [hq]; exact h1
def spCheck (c : Cs) : Sp := fun vs H Q E => match vs with
  | [.int n] => if 1000 < n then OutS c H "SizeError" "too large" E else Q .non H
  | _ => False
theorem ok_check (A : At K mg "check_parts" "check_parts" s_check_parts ["count"]) (T : Txt K mg c) (E_ScriptError : HasE P w K mg base c.ScriptError "ScriptError" 2 (two "kind" "message")) : Has P w K mg base (L2.CX P w) "check_parts" 3 ["count"] (spCheck c) := by
  have Sc := sc_check_parts
  refine hasX_of A Sc (fun vs H Q E h => ?_) (fun cdv f A outer s H vs Q E hr h => ?_)
  · unfold spCheck at h; split at h; rfl; cases h
  · unfold spCheck at h
    split at h
    · rename_i n
      refine ⟨_, (pss_one (ps_if (pt_cmpR op_fGt (fe_var 0) (fe_gint (by rfl) T.g_MOST_PARTS) (nomark _)) (pss_one (fs_raise rfl tk_of E_ScriptError (by decide) (hr.mono (by walk_at "rm")) (by rfl) (pa_cons pe_str (pa_cons pe_str pa_nil)))) pss_nil)), ?_⟩
      walk_at "fx0"
      repeat (walk_at "oxs")
      exact h
    · cases h
def spMkList (w : World) (c : Cs) : Sp := fun vs H Q _ => match vs with
  | [.ref y, .ref l] => ∃ x S xs rs, y = x.y ∧ Sto w c H x S ∧ H l = some (.lst xs) ∧ VsAt c H xs rs ∧ xs.length ≤ 1000 ∧ S.things.length < 99999 ∧ NewTh w c H x S (.parts rs) Q
  | _ => False
theorem ok_mklist (A : At K mg "make_list" "make_list" s_make_list ["store", "values"]) (T : Txt K mg c) (H_check_parts : Has P w K mg base (L2.CX P w) "check_parts" 3 ["count"] (spCheck c)) (M_Parts : HasC P w K mg base CX0 c.Parts "Parts" 1 ["self", "held"] (spMk_Parts K c)) (M_Store_make : HasM P w K mg base CX0 c.Store "make" 3 ["self", "thing"] (spMake w c)) : Has P w K mg base (L2.CX P w) "make_list" 4 ["store", "values"] (spMkList w c) := by
  have Sc := sc_make_list
  refine hasX_of A Sc (fun vs H Q E h => ?_) (fun cdv f A outer s H vs Q E hr h => ?_)
  · unfold spMkList at h; split at h; rfl; cases h
  · unfold spMkList at h
    split at h
    · rename_i y l
      obtain ⟨x, S, xs, rs, rfl, hS, el, hv, hn, hl, h⟩ := h
      obtain ⟨sdx, es⟩ := hS.st
      refine ⟨_, (pss_cons (ps_expr (fe_callX H_check_parts (hr.mono (by walk_at "rm")) (by rfl) tk_of (pa_cons (pe_callB call_fLen (by rfl) T.no_len (by decide +kernel) (pa_cons (fe_var 1) pa_nil)) pa_nil)))
      (pss_one (ps_ret (fe_meth M_Store_make T.cl_Store (hr.mono (by walk_at "rm")) pass0 (fe_var 0) (pa_cons (fe_make (k := _) M_Parts (hr.mono (by walk_at "rm")) (by rfl) pass0 (pa_cons (fe_var 1) pa_nil)) pa_nil))))), ?_⟩
      walk_at "fx0"
      repeat (walk_at "oxs")
      refine ⟨_, rl_l el, ?_⟩
      unfold spCheck
      dsimp only
      rw [if_neg (by omega)]
      repeat (first | walk_at "oxs" | simp only [es])
      refine ⟨_, rl_l el, ?_⟩
      intro a dx p H1 na s1 ea np ep hne
      exact new_make (t := .parts rs) (b := some p) hS s1 ⟨dx, p, xs, rfl, ea, ep, hv.hs (.same s1)⟩ (foot_two hne) (free_two na np) hl h
    · cases h
end

section
variable {P : Program} {w : World} {K : PySem.W.Frag} {mg : Str → Option Value} {base : Heap} {c : Cs}
/-! ### an object of the store changed -/
theorem paired_mk {α β : Type} {F : α → β → Prop} : ∀ {xs : List α} {ys : List β}, xs.length = ys.length → (∀ (i : Nat) (a : α) (b : β), xs[i]? = some a → ys[i]? = some b → F a b) → Paired F xs ys
  | [], [], _, _ => .nil
  | a :: xs, b :: ys, hl, h => .cons (h 0 a b rfl rfl) (paired_mk (by simpa using hl) fun i a b ha hb => h (i + 1) a b ha hb)
  | [], _ :: _, hl, _ => by cases hl
  | _ :: _, [], hl, _ => by cases hl
theorem footL_disj : ∀ {L : List (Addr × Option Addr)} {i j : Nat} {p p' : Addr × Option Addr} {q : Addr}, (footL L).Nodup → L[i]? = some p → L[j]? = some p' → q ∈ footT p.1 p.2 → q ∈ footT p'.1 p'.2 → i = j
  | [], i, _, _, _, _, _, h, _, _, _ => by cases i <;> cases h
  | r :: L, i, j, p, p', q, hn, h1, h2, m1, m2 => by
    have e : footL (r :: L) = footT r.1 r.2 ++ footL L := rfl
    rw [e, List.nodup_append] at hn
    cases i with
    | zero =>
      cases j with
      | zero => rfl
      | succ j =>
        cases h1
        exact absurd rfl (hn.2.2 q m1 q (mem_footL (List.mem_of_getElem? h2) m2))
    | succ i =>
      cases j with
      | zero =>
        cases h2
        exact absurd rfl (hn.2.2 q m2 q (mem_footL (List.mem_of_getElem? h1) m1))
      | succ j => rw [footL_disj hn.2.1 h1 h2 m1 m2]
def SV.setT (S : SV) (n : Nat) (t : Th) : SV := { S with things := S.things.set n t }
theorem Sto.setT {H H1 : Hp} {x : SA} {S : SV} {n : Nat} {a q : Addr} {t : Th} (h : Sto w c H x S) (hx : x.L[n]? = some (a, some q)) (k : Keep [q] H H1) (so : Soft c H q) (ht : ThAt w c H1 a (some q) t) : Sto w c H1 x (S.setT n t) := by
  have nd := h.nd
  have hl : x.L.length = S.things.length := Paired.length h.th
  have mq : q ∈ footL x.L := mem_footL (List.mem_of_getElem? hx) (by simp [footT])
  simp only [SA.foot, List.nodup_cons, List.mem_cons, not_or] at nd
  obtain ⟨⟨n1, n2, n3, n4⟩, ⟨n5, n6, n7⟩, ⟨n8, n9⟩, n10, n11⟩ := nd
  obtain ⟨dx, ey⟩ := h.st
  have no : ∀ {p : Addr}, p ∉ footL x.L → p ∉ [q] := fun hp m => hp (by rw [List.mem_singleton.mp m]; exact mq)
  have so' : ∀ p ∈ [q], Soft c H p := fun p m => by rw [List.mem_singleton.mp m]; exact so
  refine ⟨⟨dx, k _ _ (no n4) ey⟩, k _ _ (no n7) h.et, k _ _ (no n9) h.eo, k _ _ (no n10) h.el, ?_, h.nd⟩
  refine paired_mk (by rw [hl]; exact (List.length_set ..).symm) fun i p t' hp ht' => ?_
  have ht2 : (S.things.set n t)[i]? = some t' := ht'
  rw [List.getElem?_set] at ht2
  by_cases e : n = i
  · subst e
    rw [if_pos rfl] at ht2
    rw [hx] at hp
    cases hp
    split at ht2
    · cases ht2; exact ht
    · cases ht2
  · rw [if_neg e] at ht2
    obtain ⟨t2, e2, h2⟩ := paired_get h.th hp
    rw [ht2] at e2
    cases e2
    refine h2.keep k so' fun z hz m => ?_
    rw [List.mem_singleton.mp m] at hz
    exact e (footL_disj n11 hx hp (by simp [footT]) hz)
theorem footL_mem_set : ∀ {L : List (Addr × Option Addr)} {n : Nat} {p : Addr × Option Addr} {q : Addr}, q ∈ footL (L.set n p) → q ∈ footL L ∨ q ∈ footT p.1 p.2
  | [], _, _, _, h => by simp [footL] at h
  | r :: L, 0, p, q, h => by
    have h : q ∈ footT p.1 p.2 ++ footL L := h
    rcases List.mem_append.mp h with h | h
    · exact .inr h
    · exact .inl (List.mem_append_right _ h)
  | r :: L, n + 1, p, q, h => by
    have h : q ∈ footT r.1 r.2 ++ footL (L.set n p) := h
    rcases List.mem_append.mp h with h | h
    · exact .inl (List.mem_append_left _ h)
    · exact (footL_mem_set h).imp (fun z => List.mem_append_right _ z) id
theorem footL_set : ∀ {L : List (Addr × Option Addr)} {n : Nat} {p p' : Addr × Option Addr}, (footL L).Nodup → L[n]? = some p → (footT p'.1 p'.2).Nodup → (∀ q ∈ footT p'.1 p'.2, q ∈ footT p.1 p.2 ∨ q ∉ footL L) → (footL (L.set n p')).Nodup
  | [], _, _, _, _, h, _, _ => by cases h
  | r :: L, 0, p, p', h, e, hn, hf => by
    cases e
    have h : (footT r.1 r.2 ++ footL L).Nodup := h
    show (footT p'.1 p'.2 ++ footL L).Nodup
    rw [List.nodup_append] at h ⊢
    refine ⟨hn, h.2.1, fun a ha b hb z => ?_⟩
    rcases hf a ha with g | g
    · exact h.2.2 a g b hb z
    · exact g (List.mem_append_right _ (by rw [z]; exact hb))
  | r :: L, n + 1, p, p', h, e, hn, hf => by
    have h : (footT r.1 r.2 ++ footL L).Nodup := h
    have e : L[n]? = some p := e
    show (footT r.1 r.2 ++ footL (L.set n p')).Nodup
    rw [List.nodup_append] at h ⊢
    refine ⟨h.1, footL_set h.2.1 e hn (fun q m => (hf q m).imp id fun g z => g (List.mem_append_right _ z)), fun a ha b hb z => ?_⟩
    rcases footL_mem_set hb with g | g
    · exact h.2.2 a ha b g z
    · rcases hf b g with g | g
      · exact h.2.2 a ha b (mem_footL (List.mem_of_getElem? e) g) z
      · exact g (List.mem_append_left _ (by rw [← z]; exact ha))
def SA.setL (x : SA) (n : Nat) (a : Addr) (b : Option Addr) : SA := { x with L := x.L.set n (a, b) }
/-- an object of the store is changed at its own places, and may get a new second place -/
theorem Sto.mvT {H H1 : Hp} {x : SA} {S : SV} {n : Nat} {a : Addr} {b b' : Option Addr} {t : Th} {ps : List Addr} (h : Sto w c H x S) (hx : x.L[n]? = some (a, b)) (k : Keep ps H H1) (hps : ∀ p ∈ ps, p ∈ footT a b) (so : ∀ p ∈ ps, Soft c H p) (ht : ThAt w c H1 a b' t) (hn : (footT a b').Nodup) (hf : ∀ q ∈ footT a b', q ∈ footT a b ∨ H q = none) :
    Sto w c H1 (x.setL n a b') (S.setT n t) ∧ ∀ q ∈ (x.setL n a b').foot, q ∈ x.foot ∨ H q = none := by
  have nd := h.nd
  have lv := h.live
  have hl : x.L.length = S.things.length := Paired.length h.th
  have mq : ∀ p ∈ ps, p ∈ footL x.L := fun p m => mem_footL (List.mem_of_getElem? hx) (hps p m)
  simp only [SA.foot, List.nodup_cons, List.mem_cons, not_or] at nd
  obtain ⟨⟨n1, n2, n3, n4⟩, ⟨n5, n6, n7⟩, ⟨n8, n9⟩, n10, n11⟩ := nd
  obtain ⟨dx, ey⟩ := h.st
  have no : ∀ {p : Addr}, p ∉ footL x.L → p ∉ ps := fun hp m => hp (mq _ m)
  have hfx : ∀ q ∈ footL (x.L.set n (a, b')), q ∈ footL x.L ∨ H q = none := fun q m => by
    rcases footL_mem_set m with g | g
    · exact .inl g
    · exact (hf q g).imp (fun z => mem_footL (List.mem_of_getElem? hx) z) id
  have off : ∀ {q : Addr} {o : HO}, q ∉ footL x.L → H q = some o → q ∉ footL (x.L.set n (a, b')) := fun g e m => by
    rcases hfx _ m with z | z
    · exact g z
    · rw [e] at z; cases z
  have em : (x.L.set n (a, b')).map (fun p => V.ref p.1) = x.L.map fun p => V.ref p.1 := by
    rw [List.map_set]
    refine List.ext_getElem? fun i => ?_
    rw [List.getElem?_set]
    split
    · rename_i q
      subst q
      rw [List.getElem?_map, hx]
      rw [List.length_map, if_pos (List.getElem?_eq_some_iff.mp hx).1]; rfl
    · rfl
  refine ⟨⟨⟨dx, k _ _ (no n4) ey⟩, ?_, k _ _ (no n9) h.eo, k _ _ (no n10) h.el, ?_, ?_⟩, fun q m => ?_⟩
  · show H1 x.tl = some (.lst ((x.L.set n (a, b')).map fun p => V.ref p.1))
    rw [em]; exact k _ _ (no n7) h.et
  · refine paired_mk (by show (x.L.set n (a, b')).length = (S.things.set n t).length; rw [List.length_set, List.length_set, hl]) fun i p t' hp ht' => ?_
    have ht2 : (S.things.set n t)[i]? = some t' := ht'
    have hp2 : (x.L.set n (a, b'))[i]? = some p := hp
    rw [List.getElem?_set] at ht2 hp2
    by_cases e : n = i
    · subst e
      rw [if_pos rfl] at ht2 hp2
      split at ht2
      · split at hp2
        · cases ht2; cases hp2; exact ht
        · cases hp2
      · cases ht2
    · rw [if_neg e] at ht2 hp2
      obtain ⟨t2, e2, h2⟩ := paired_get h.th hp2
      rw [ht2] at e2
      cases e2
      exact h2.keep k so fun z hz m => e (footL_disj n11 hx hp2 (hps z m) hz)
  · obtain ⟨_, ey1⟩ := lv x.y (by simp [SA.foot])
    simp only [SA.foot, SA.setL, List.nodup_cons, List.mem_cons, not_or]
    exact ⟨⟨n1, n2, n3, off n4 ey⟩, ⟨n5, n6, off n7 h.et⟩, ⟨n8, off n9 h.eo⟩, off n10 h.el, footL_set n11 hx hn fun q m => (hf q m).imp id fun z g => by
      obtain ⟨o, eo⟩ := lv q (by simp [SA.foot, g])
      rw [z] at eo; cases eo⟩
  · simp only [SA.foot, SA.setL, List.mem_cons] at m ⊢
    rcases m with m | m | m | m | m
    · exact .inl (.inl m)
    · exact .inl (.inr (.inl m))
    · exact .inl (.inr (.inr (.inl m)))
    · exact .inl (.inr (.inr (.inr (.inl m))))
    · exact (hfx q m).imp (fun z => .inr (.inr (.inr (.inr z)))) id
theorem setL_foot {x : SA} {n : Nat} {a q : Addr} {b : Option Addr} (h : q ∈ (x.setL n a b).foot) : q ∈ x.foot ∨ q ∈ footT a b := by
  simp only [SA.foot, SA.setL, List.mem_cons] at h ⊢
  rcases h with m | m | m | m | m
  · exact .inl (.inl m)
  · exact .inl (.inr (.inl m))
  · exact .inl (.inr (.inr (.inl m)))
  · exact .inl (.inr (.inr (.inr (.inl m))))
  · exact (footL_mem_set m).imp (fun z => .inr (.inr (.inr (.inr z)))) id
end

section
variable {P : Program} {w : World} {K : PySem.W.Frag} {mg : Str → Option Value} {base : Heap} {c : Cs}
/-! ### the law's state, the store and the law's own things, apart from each other -/
structure Wd (K : PySem.W.Frag) (w : World) (c : Cs) (H0 : Hp) (s sc : Addr) (ns : List Int) (x : SA) (S : SV) (G : Hp → Prop) (gf : List Addr) (H : Hp) : Prop where
  dr : Dr K H0 s sc ns H
  st : Sto w c H x S
  g : G H
  gm : ∀ H H', G H → HardStay c H H' → (∀ q ∈ gf, ∀ o, H q = some o → H' q = some o) → G H'
  gl : ∀ q ∈ gf, ∃ o, H q = some o
  nd : (s :: (x.foot ++ gf)).Nodup
  fr : ∀ q ∈ s :: (x.foot ++ gf), H0 q = none
section
variable {H0 : Hp} {s sc : Addr} {ns : List Int} {x : SA} {S : SV} {G : Hp → Prop} {gf : List Addr} {H H1 : Hp}
theorem Wd.s_foot (W : Wd K w c H0 s sc ns x S G gf H) : ∀ {q : Addr}, q ∈ x.foot → s ≠ q := fun {q} m e => (List.nodup_cons.mp W.nd).1 (by rw [e]; exact List.mem_append_left _ m)
theorem Wd.s_gf (W : Wd K w c H0 s sc ns x S G gf H) : ∀ {q : Addr}, q ∈ gf → s ≠ q := fun {q} m e => (List.nodup_cons.mp W.nd).1 (by rw [e]; exact List.mem_append_right _ m)
theorem Wd.f_gf (W : Wd K w c H0 s sc ns x S G gf H) : ∀ {p q : Addr}, p ∈ x.foot → q ∈ gf → p ≠ q := fun {p q} m n e => (List.nodup_append.mp (List.nodup_cons.mp W.nd).2).2.2 p m q n e
theorem Wd.f0 (W : Wd K w c H0 s sc ns x S G gf H) : ∀ {q : Addr}, q ∈ x.foot → H0 q = none := fun m => W.fr _ (List.mem_cons_of_mem _ (List.mem_append_left _ m))
theorem Wd.g0 (W : Wd K w c H0 s sc ns x S G gf H) : ∀ {q : Addr}, q ∈ gf → H0 q = none := fun m => W.fr _ (List.mem_cons_of_mem _ (List.mem_append_right _ m))
theorem Wd.s_soft (W : Wd K w c H0 s sc ns x S G gf H) : ∀ p ∈ [s], Soft c H p := fun p m => by
  obtain ⟨a, k, e, _⟩ := W.dr.st
  rw [List.mem_singleton.mp m]; exact soft_lst e
theorem Wd.live (W : Wd K w c H0 s sc ns x S G gf H) : ∀ {q : Addr}, q ∈ s :: (x.foot ++ gf) → ∃ o, H q = some o := fun {q} m => by
  rcases List.mem_cons.mp m with rfl | m
  · obtain ⟨a, k, e, _⟩ := W.dr.st; exact ⟨_, e⟩
  · rcases List.mem_append.mp m with m | m
    · exact W.st.live q m
    · exact W.gl q m
theorem Wd.gkeep (W : Wd K w c H0 s sc ns x S G gf H) {ps : List Addr} (k : Keep ps H H1) (so : ∀ p ∈ ps, Soft c H p) (n : ∀ q ∈ gf, q ∉ ps) : G H1 ∧ ∀ q ∈ gf, ∃ o, H1 q = some o :=
  ⟨W.gm _ _ W.g (.keep k so) fun q m o e => k _ _ (n q m) e, fun q m => (W.gl q m).imp fun o e => k _ _ (n q m) e⟩
theorem Wd.draw (W : Wd K w c H0 s sc ns x S G gf H) (k : Keep [s] H H1) (d : Dr K H0 s sc ns H1) : Wd K w c H0 s sc ns x S G gf H1 := by
  obtain ⟨g1, g2⟩ := W.gkeep k W.s_soft fun q m n => W.s_gf m (List.mem_singleton.mp n).symm
  exact ⟨d, W.st.keep k W.s_soft fun q m n => W.s_foot m (List.mem_singleton.mp n).symm, g1, W.gm, g2, W.nd, W.fr⟩
theorem Wd.same (W : Wd K w c H0 s sc ns x S G gf H) (k : Same H H1) : Wd K w c H0 s sc ns x S G gf H1 :=
  ⟨W.dr.same k, W.st.same k, W.gm _ _ W.g (.same k) fun q _ o e => k _ _ e, W.gm, fun q m => (W.gl q m).imp fun o e => k _ _ e, W.nd, W.fr⟩
theorem Wd.make (W : Wd K w c H0 s sc ns x S G gf H) {a : Addr} {b : Option Addr} {t : Th} (hf : ∀ q ∈ footT a b, H q = none) (k : Keep [x.tl] H H1) (st : Sto w c H1 (x.add a b) (S.add t)) : Wd K w c H0 s sc ns (x.add a b) (S.add t) G gf H1 := by
  have mt : x.tl ∈ x.foot := by simp [SA.foot]
  have n0 : ∀ q ∈ footT a b, q ∉ s :: (x.foot ++ gf) := fun q hq m => by obtain ⟨o, e⟩ := W.live m; rw [hf q hq] at e; cases e
  obtain ⟨g1, g2⟩ := W.gkeep k W.st.soft_tl fun q m n => W.f_gf mt m (List.mem_singleton.mp n).symm
  refine ⟨W.dr.keep k (fun n => W.s_foot mt (List.mem_singleton.mp n)) fun q n => by rw [List.mem_singleton.mp n]; exact W.f0 mt, st, g1, W.gm, g2, ?_, ?_⟩
  · have nd2 := st.nd
    rw [foot_add] at nd2 ⊢
    rw [List.nodup_cons, List.nodup_append]
    refine ⟨fun m => ?_, nd2, (List.nodup_append.mp (List.nodup_cons.mp W.nd).2).2.1, fun p hp q hq e => ?_⟩
    · rcases List.mem_append.mp m with m | m
      · rcases List.mem_append.mp m with m | m
        · exact W.s_foot m rfl
        · exact n0 s m (List.mem_cons_self ..)
      · exact W.s_gf m rfl
    · rcases List.mem_append.mp hp with hp | hp
      · exact W.f_gf hp hq e
      · exact n0 p hp (by rw [e]; exact List.mem_cons_of_mem _ (List.mem_append_right _ hq))
  · intro q m
    rw [foot_add] at m
    rcases List.mem_cons.mp m with rfl | m
    · exact W.fr _ (List.mem_cons_self ..)
    · rcases List.mem_append.mp m with m | m
      · rcases List.mem_append.mp m with m | m
        · exact W.f0 m
        · exact W.dr.sm.free (hf q m)
      · exact W.g0 m
theorem Wd.set (W : Wd K w c H0 s sc ns x S G gf H) {S' : SV} {q : Addr} (hq : q ∈ x.foot) (k : Keep [q] H H1) (so : Soft c H q) (st : Sto w c H1 x S') : Wd K w c H0 s sc ns x S' G gf H1 := by
  obtain ⟨g1, g2⟩ := W.gkeep k (fun p m => by rw [List.mem_singleton.mp m]; exact so) fun p m n => W.f_gf hq m (List.mem_singleton.mp n).symm
  exact ⟨W.dr.keep k (fun n => W.s_foot hq (List.mem_singleton.mp n)) fun p n => by rw [List.mem_singleton.mp n]; exact W.f0 hq, st, g1, W.gm, g2, W.nd, W.fr⟩
/-- the law's own things are changed at q, its own -/
theorem Wd.own (W : Wd K w c H0 s sc ns x S G gf H) {G' : Hp → Prop} {q : Addr} (hq : q ∈ gf) (k : Keep [q] H H1) (so : Soft c H q) (l : ∃ o, H1 q = some o) (g : G' H1) (gm : ∀ H H', G' H → HardStay c H H' → (∀ q ∈ gf, ∀ o, H q = some o → H' q = some o) → G' H') : Wd K w c H0 s sc ns x S G' gf H1 := by
  refine ⟨W.dr.keep k (fun n => W.s_gf hq (List.mem_singleton.mp n)) fun p n => by rw [List.mem_singleton.mp n]; exact W.g0 hq, W.st.keep k (fun p m => by rw [List.mem_singleton.mp m]; exact so) fun p m n => W.f_gf m hq (List.mem_singleton.mp n), g, gm, fun p m => ?_, W.nd, W.fr⟩
  by_cases e : p = q
  · rw [e]; exact l
  · exact (W.gl p m).imp fun o z => k _ _ (by simpa using e) z
/-- the law's own things grow by new ones -/
theorem Wd.grow (W : Wd K w c H0 s sc ns x S G gf H) {G' : Hp → Prop} {qs : List Addr} (k : Same H H1) (nq : ∀ q ∈ qs, H q = none) (hn : qs.Nodup) (l : ∀ q ∈ qs, ∃ o, H1 q = some o) (g : G' H1) (gm : ∀ H H', G' H → HardStay c H H' → (∀ q ∈ gf ++ qs, ∀ o, H q = some o → H' q = some o) → G' H') : Wd K w c H0 s sc ns x S G' (gf ++ qs) H1 := by
  have n0 : ∀ q ∈ qs, q ∉ s :: (x.foot ++ gf) := fun q hq m => by obtain ⟨o, e⟩ := W.live m; rw [nq q hq] at e; cases e
  refine ⟨W.dr.same k, W.st.same k, g, gm, fun q m => ?_, ?_, fun q m => ?_⟩
  · rcases List.mem_append.mp m with m | m
    · exact (W.gl q m).imp fun o e => k _ _ e
    · exact l q m
  · have e : s :: (x.foot ++ (gf ++ qs)) = (s :: (x.foot ++ gf)) ++ qs := by simp
    rw [e, List.nodup_append]
    exact ⟨W.nd, hn, fun p hp q hq z => n0 q hq (by rw [← z]; exact hp)⟩
  · have e : s :: (x.foot ++ (gf ++ qs)) = (s :: (x.foot ++ gf)) ++ qs := by simp
    rw [e] at m
    rcases List.mem_append.mp m with m | m
    · exact W.fr q m
    · exact W.dr.sm.free (nq q m)
/-- the store is changed at its own places, and may get new ones -/
theorem Wd.mv (W : Wd K w c H0 s sc ns x S G gf H) {x' : SA} {S' : SV} {ps : List Addr} (k : Keep ps H H1) (hps : ∀ p ∈ ps, p ∈ x.foot) (so : ∀ p ∈ ps, Soft c H p) (st : Sto w c H1 x' S') (hf : ∀ q ∈ x'.foot, q ∈ x.foot ∨ H q = none) : Wd K w c H0 s sc ns x' S' G gf H1 := by
  obtain ⟨g1, g2⟩ := W.gkeep k so fun p m n => W.f_gf (hps p n) m rfl
  have n0 : ∀ {q : Addr}, H q = none → q ∉ s :: (x.foot ++ gf) := fun e m => by obtain ⟨o, z⟩ := W.live m; rw [e] at z; cases z
  refine ⟨W.dr.keep k (fun n => W.s_foot (hps _ n) rfl) fun p n => W.f0 (hps p n), st, g1, W.gm, g2, ?_, ?_⟩
  · rw [List.nodup_cons, List.nodup_append]
    refine ⟨fun m => ?_, st.nd, (List.nodup_append.mp (List.nodup_cons.mp W.nd).2).2.1, fun p hp q hq e => ?_⟩
    · rcases List.mem_append.mp m with m | m
      · rcases hf _ m with z | z
        · exact W.s_foot z rfl
        · exact n0 z (List.mem_cons_self ..)
      · exact W.s_gf m rfl
    · rcases hf _ hp with z | z
      · exact W.f_gf z hq e
      · exact n0 z (by rw [e]; exact List.mem_cons_of_mem _ (List.mem_append_right _ hq))
  · intro q m
    rcases List.mem_cons.mp m with rfl | m
    · exact W.fr _ (List.mem_cons_self ..)
    · rcases List.mem_append.mp m with m | m
      · rcases hf _ m with z | z
        · exact W.f0 z
        · exact W.dr.sm.free z
      · exact W.g0 m
/-- the law's own things are changed at their places, and may get new ones -/
theorem Wd.mvG (W : Wd K w c H0 s sc ns x S G gf H) {G' : Hp → Prop} {gf' ps : List Addr} (k : Keep ps H H1) (hps : ∀ p ∈ ps, p ∈ gf) (so : ∀ p ∈ ps, Soft c H p) (hn : gf'.Nodup) (hf : ∀ q ∈ gf', q ∈ gf ∨ H q = none) (l : ∀ q ∈ gf', ∃ o, H1 q = some o) (g : G' H1) (gm : ∀ H H', G' H → HardStay c H H' → (∀ q ∈ gf', ∀ o, H q = some o → H' q = some o) → G' H') : Wd K w c H0 s sc ns x S G' gf' H1 := by
  have n0 : ∀ {q : Addr}, H q = none → q ∉ s :: (x.foot ++ gf) := fun e m => by obtain ⟨o, z⟩ := W.live m; rw [e] at z; cases z
  refine ⟨W.dr.keep k (fun n => W.s_gf (hps _ n) rfl) fun p n => W.g0 (hps p n), W.st.keep k so fun p m n => W.f_gf m (hps _ n) rfl, g, gm, l, ?_, ?_⟩
  · rw [List.nodup_cons, List.nodup_append]
    refine ⟨fun m => ?_, W.st.nd, hn, fun p hp q hq e => ?_⟩
    · rcases List.mem_append.mp m with m | m
      · exact W.s_foot m rfl
      · rcases hf _ m with z | z
        · exact W.s_gf z rfl
        · exact n0 z (List.mem_cons_self ..)
    · rcases hf _ hq with z | z
      · exact W.f_gf hp z e
      · exact n0 z (by rw [← e]; exact List.mem_cons_of_mem _ (List.mem_append_left _ hp))
  · intro q m
    rcases List.mem_cons.mp m with rfl | m
    · exact W.fr _ (List.mem_cons_self ..)
    · rcases List.mem_append.mp m with m | m
      · exact W.f0 m
      · rcases hf _ m with z | z
        · exact W.g0 z
        · exact W.dr.sm.free z
/-- a change at places that are nobody's -/
theorem Wd.junk (W : Wd K w c H0 s sc ns x S G gf H) {ps : List Addr} (k : Keep ps H H1) (so : ∀ p ∈ ps, Soft c H p) (h0 : ∀ p ∈ ps, H0 p = none) (n : ∀ p ∈ ps, p ∉ s :: (x.foot ++ gf)) : Wd K w c H0 s sc ns x S G gf H1 := by
  obtain ⟨g1, g2⟩ := W.gkeep k so fun q m z => n q z (List.mem_cons_of_mem _ (List.mem_append_right _ m))
  exact ⟨W.dr.keep k (fun z => n _ z (List.mem_cons_self ..)) h0, W.st.keep k so fun q m z => n q z (List.mem_cons_of_mem _ (List.mem_append_left _ m)), g1, W.gm, g2, W.nd, W.fr⟩
/-- things that stand already become the law's own -/
theorem Wd.adopt (W : Wd K w c H0 s sc ns x S G gf H) {G' : Hp → Prop} {gf' : List Addr} (g : G' H) (gm : ∀ H H', G' H → HardStay c H H' → (∀ q ∈ gf', ∀ o, H q = some o → H' q = some o) → G' H') (hg : ∀ q ∈ gf', q ∈ gf ∨ (q ∉ s :: (x.foot ++ gf) ∧ H0 q = none ∧ ∃ o, H q = some o)) (hn : gf'.Nodup) : Wd K w c H0 s sc ns x S G' gf' H := by
  refine ⟨W.dr, W.st, g, gm, fun q m => ?_, ?_, fun q m => ?_⟩
  · rcases hg q m with z | ⟨_, _, z⟩
    · exact W.gl q z
    · exact z
  · rw [List.nodup_cons, List.nodup_append]
    refine ⟨fun m => ?_, W.st.nd, hn, fun p hp q hq e => ?_⟩
    · rcases List.mem_append.mp m with m | m
      · exact W.s_foot m rfl
      · rcases hg _ m with z | ⟨z, _⟩
        · exact W.s_gf z rfl
        · exact z (List.mem_cons_self ..)
    · rcases hg _ hq with z | ⟨z, _⟩
      · exact W.f_gf hp z e
      · exact z (by rw [← e]; exact List.mem_cons_of_mem _ (List.mem_append_left _ hp))
  · rcases List.mem_cons.mp m with rfl | m
    · exact W.fr _ (List.mem_cons_self ..)
    · rcases List.mem_append.mp m with m | m
      · exact W.f0 m
      · rcases hg _ m with z | ⟨_, z, _⟩
        · exact W.g0 z
        · exact z
/-- an object that stands already is put into the store -/
theorem Wd.make2 (W : Wd K w c H0 s sc ns x S G gf H) {a : Addr} {b : Option Addr} {t : Th} (hf : ∀ q ∈ footT a b, q ∉ s :: (x.foot ++ gf)) (h0 : ∀ q ∈ footT a b, H0 q = none) (k : Keep [x.tl] H H1) (st : Sto w c H1 (x.add a b) (S.add t)) : Wd K w c H0 s sc ns (x.add a b) (S.add t) G gf H1 := by
  have mt : x.tl ∈ x.foot := by simp [SA.foot]
  obtain ⟨g1, g2⟩ := W.gkeep k W.st.soft_tl fun q m n => W.f_gf mt m (List.mem_singleton.mp n).symm
  refine ⟨W.dr.keep k (fun n => W.s_foot mt (List.mem_singleton.mp n)) fun q n => by rw [List.mem_singleton.mp n]; exact W.f0 mt, st, g1, W.gm, g2, ?_, ?_⟩
  · have nd2 := st.nd
    rw [foot_add] at nd2 ⊢
    rw [List.nodup_cons, List.nodup_append]
    refine ⟨fun m => ?_, nd2, (List.nodup_append.mp (List.nodup_cons.mp W.nd).2).2.1, fun p hp q hq e => ?_⟩
    · rcases List.mem_append.mp m with m | m
      · rcases List.mem_append.mp m with m | m
        · exact W.s_foot m rfl
        · exact hf s m (List.mem_cons_self ..)
      · exact W.s_gf m rfl
    · rcases List.mem_append.mp hp with hp | hp
      · exact W.f_gf hp hq e
      · exact hf p hp (by rw [e]; exact List.mem_cons_of_mem _ (List.mem_append_right _ hq))
  · intro q m
    rw [foot_add] at m
    rcases List.mem_cons.mp m with rfl | m
    · exact W.fr _ (List.mem_cons_self ..)
    · rcases List.mem_append.mp m with m | m
      · rcases List.mem_append.mp m with m | m
        · exact W.f0 m
        · exact h0 q m
      · exact W.g0 m
/-- the same, told otherwise -/
theorem Wd.as (W : Wd K w c H0 s sc ns x S G gf H) {G' : Hp → Prop} {gf' : List Addr} (p : gf.Perm gf') (g : ∀ H, G H → G' H) (gm : ∀ H H', G' H → HardStay c H H' → (∀ q ∈ gf', ∀ o, H q = some o → H' q = some o) → G' H') : Wd K w c H0 s sc ns x S G' gf' H :=
  ⟨W.dr, W.st, g _ W.g, gm, fun q m => W.gl q (p.mem_iff.mpr m), ((p.append_left x.foot).cons s).nodup_iff.mp W.nd, fun q m => W.fr q (((p.append_left x.foot).cons s).mem_iff.mpr m)⟩
end
end

section
variable {P : Program} {w : World} {K : PySem.W.Frag} {mg : Str → Option Value} {base : Heap} {c : Cs}
def spPick2 (K : PySem.W.Frag) : Sp := fun vs H Q _ => match vs with
  | [.ref s, r] => ∃ H0 sc ns xs, Dr K H0 s sc ns H ∧ (match r with | .ref a => ∀ H1, Keep [s] H H1 → Rl K H1 a xs | .str z => xs = z.cps.toList.map (fun ch => V.str ⟨#[ch]⟩) | _ => False) ∧ 0 < xs.length ∧ xs.length ≤ 1000 ∧ ∀ H1 v, Keep [s] H H1 → Dr K H0 s sc ns H1 → v ∈ xs → Q v H1
  | _ => False
theorem ok_pick2 (A : At K mg "_law_pick" "_law_pick" s_law_pick ["state", "row"]) (T : Txt K mg c) (H_law_draw : Has P w K mg base CX0 "_law_draw" 2 ["state", "many"] (spDraw K)) : Has P w K mg base CX0 "_law_pick" 3 ["state", "row"] (spPick2 K) := by
  have Sc := sc_law_pick
  refine has_of A Sc (fun vs H Q E h => ?_) (fun cdv f A outer s H vs Q E hr h => ?_)
  · unfold spPick2 at h; split at h; rfl; cases h
  · unfold spPick2 at h
    split at h
    · rename_i st r
      obtain ⟨H0, sc, ns, xs, D, hr1, h0, h1, kk⟩ := h
      refine ⟨_, (pss_one (ps_ret (pe_ix ix_fx (fe_var 1) (fe_call H_law_draw (hr.mono (by walk_at "rm")) (by rfl) pass0 (pa_cons (fe_var 0) (pa_cons (pe_callB call_fLen (by rfl) T.no_len (by decide +kernel) (pa_cons (fe_var 1) pa_nil)) pa_nil))) (fun _ _ => rfl)))), ?_⟩
      walk_at "fx0"
      split at hr1
      · rename_i r
        walk_at "fx"
        refine ⟨_, hr1 H Keep.refl, ?_⟩
        unfold spDraw
        refine ⟨H0, sc, ns, D, by omega, by omega, fun H1 d kp D1 d0 d1 => ?_⟩
        obtain ⟨v, hv, ev⟩ := at_vs (xs := xs) d0 d1
        exact ⟨_, hr1 H1 kp, v, ev, kk H1 v kp D1 hv⟩
      · rename_i z
        have hz : z.length = xs.length := by rw [hr1, List.length_map]; exact Array.length_toList.symm
        have hl : z.length ≤ sizeLine := by
          have := len_line' (n := z.length) (by omega)
          omega
        walk_at "fx"
        refine ⟨hl, ?_⟩
        unfold spDraw
        refine ⟨H0, sc, ns, D, by omega, by omega, fun H1 d kp D1 d0 d1 => ?_⟩
        obtain ⟨n, rfl⟩ := Int.eq_ofNat_of_zero_le d0
        have hn : n < z.cps.toList.length := by
          have d1' : (n : Int) < (z.length : Nat) := d1
          have e : z.cps.toList.length = z.length := Array.length_toList
          rw [e]
          omega
        have ec : z.cps.toList[n]? = some z.cps.toList[n] := List.getElem?_eq_getElem hn
        refine ⟨hl, _, atI_nat ec, kk H1 _ kp D1 ?_⟩
        rw [hr1]
        exact List.mem_map_of_mem (List.getElem_mem hn)
      · exact hr1.elim
    · cases h
end

section
variable {P : Program} {w : World} {K : PySem.W.Frag} {mg : Str → Option Value} {base : Heap} {c : Cs}
/-! ### classes, fields -/
def parentOf (S : SV) (k : Nat) : Option Nat := match S.things[k]? with
  | some (.kin _ p _) => p
  | _ => none
def IsKin (S : SV) (k : Nat) : Prop := ∃ n p ms, S.things[k]? = some (.kin n p ms)
/-- a class and those above it -/
inductive Anc (S : SV) : Nat → List Nat → Prop
  | top {k : Nat} (h : IsKin S k) (e : parentOf S k = none) : Anc S k [k]
  | up {k p : Nat} {l : List Nat} (h : IsKin S k) (e : parentOf S k = some p) (a : Anc S p l) : Anc S k (k :: l)
theorem Anc.kin {S : SV} {k : Nat} {l : List Nat} (h : Anc S k l) : IsKin S k := by cases h <;> assumption
def methT (S : SV) (j : Nat) (z : Str) : Option Nat := match S.things[j]? with
  | some (.kin _ _ ms) => ms.lookup z
  | _ => none
theorem kv_lookup {R : V → ρ → Prop} {kvs : List (Key × V)} {fs : List (Str × ρ)} (h : Paired (fun (kv : Key × V) (f : Str × ρ) => kv.1 = .inr f.1 ∧ R kv.2 f.2) kvs fs) (z : Str) : match valV kvs (.inr z), fs.lookup z with
    | some v, some r => R v r
    | none, none => True
    | _, _ => False := by
  induction h with
  | nil => exact trivial
  | @cons p f ps fs h t ih =>
    obtain ⟨h1, h2⟩ := h
    by_cases e : f.1 = z
    · have a : valV (p :: ps) (.inr z) = some p.2 := valV_pos (by rw [h1, e])
      have b : (f :: fs).lookup z = some f.2 := by
        obtain ⟨f1, f2⟩ := f
        subst e
        simp [List.lookup]
      rw [a, b]; exact h2
    · have a : valV (p :: ps) (.inr z) = valV ps (.inr z) := valV_neg (by rw [h1]; intro q; exact e (Sum.inr.inj q))
      have b : (f :: fs).lookup z = fs.lookup z := by
        obtain ⟨f1, f2⟩ := f
        have : (z == f1) = false := by simpa using Ne.symm e
        simp [List.lookup, this]
      rw [a, b]; exact ih
def spBelow (w : World) (c : Cs) : Sp := fun vs H Q _ => match vs with
  | [.ref y, .ref k, .ref o] => ∃ x S kn on l, y = x.y ∧ Sto w c H x S ∧ IsRef c H k (kn : Nat) ∧ IsRef c H o (on : Nat) ∧ Anc S kn l ∧ Q (.bl (decide (on ∈ l))) H
  | _ => False
theorem ok_below (A : At K mg "is_below" "is_below" s_is_below ["store", "kin", "other"]) (T : Txt K mg c) (M_Store_at : HasM P w K mg base CX0 c.Store "at" 1 ["self", "ref"] (spAt w c)) : Has P w K mg base CX0 "is_below" 2 ["store", "kin", "other"] (spBelow w c) := by
  have Sc := sc_is_below
  refine has_of A Sc (fun vs H Q E h => ?_) (fun cdv f A outer s H vs Q E hr h => ?_)
  · unfold spBelow at h; split at h; rfl; cases h
  · unfold spBelow at h
    split at h
    · rename_i y k o
      obtain ⟨x, S, kn, on, l, rfl, hS, hk, ho, ha, h⟩ := h
      obtain ⟨dx0, e0⟩ := hS.st
      obtain ⟨odx, eo⟩ := ho
      refine ⟨_, (pss_cons (ps_while PassesOwn.never (pt_cmpR op_fNotN (fe_var 1) pe_non (nomark _)) (pss_cons (ps_if (pt_cmpR (op_fEq hr.units) (fe_fld (fe_var 1) T.pl_number rfl) (fe_fld (fe_var 2) T.pl_number rfl) (nomark _)) (pss_one (ps_ret pe_bl)) pss_nil)
      (pss_one (ps_set (i := 1) Sc.nd rfl (.inl rfl) (fe_fld (fe_meth M_Store_at T.cl_Store (hr.mono (by walk_at "rm")) pass0 (fe_var 0) (pa_cons (fe_var 1) pa_nil)) T.pl_parent rfl)))))
      (pss_one (ps_ret pe_bl))), ?_⟩
      walk_at "fx0"
      walk_at "ox"
      refine cut_ fun N hN => ?_
      refine ⟨fun m σ H' => H' = H ∧ ((∃ n rest v, σ = [some (.ref x.y), some (.ref v), some (.ref o)] ∧ m = rest.length + 1 ∧ IsRef c H v (n : Nat) ∧ Anc S n rest ∧ decide (on ∈ l) = decide (on ∈ rest)) ∨ (σ = [some (.ref x.y), some .non, some (.ref o)] ∧ decide (on ∈ l) = false)), ⟨_, rfl, .inl ⟨kn, l, k, rfl, rfl, hk, ha, rfl⟩⟩, ?_⟩
      rintro m σ H' ⟨rfl, ⟨n, rest, v, rfl, rfl, ⟨vdx, ev⟩, hA, hd⟩ | ⟨rfl, hd⟩⟩
      · walk_at "ox"
        refine ⟨fun σ' H' => ∃ m', m' < rest.length + 1 ∧ _, fun σ' H' q => q, ?_⟩
        repeat (first | walk_at "oxs" | simp only [ev] | simp only [eo])
        by_cases q : n = on
        · have : decide (on ∈ l) = true := by rw [hd]; subst q; cases hA <;> simp
          rw [if_pos (by omega)]
          rw [this] at h
          exact h
        · rw [if_neg (by omega)]
          simp only [e0]
          repeat (walk_at "oxs")
          obtain ⟨nn, p, ms, et⟩ := hA.kin
          refine ⟨x, S, n, _, rfl, hS, ⟨vdx, ev⟩, et, fun a b h1 h2 => ?_⟩
          obtain ⟨dx, pv, md, kvs, rfl, ea, ep, _⟩ := h2
          simp only [ea]
          repeat (walk_at "oxs")
          have hp : parentOf S n = p := by unfold parentOf; rw [et]
          cases hA with
          | top hk' e =>
            rw [hp] at e
            subst e
            subst ep
            exact ⟨0, by simp, .inr ⟨rfl, fun m => q (List.mem_singleton.mp ((decide_eq_decide.mp hd).mp m)).symm⟩⟩
          | up hk' e a' =>
            rename_i p' l'
            rw [hp] at e
            subst e
            obtain ⟨pa, rfl, hpr⟩ := ep
            refine ⟨_, by simp, .inl ⟨_, _, _, rfl, rfl, hpr, a', ?_⟩⟩
            rw [hd]; simp [Ne.symm q]
      · repeat (walk_at "oxs")
        refine hN _ _ ?_
        walk_at "ox"
        rw [hd] at h
        exact h
    · cases h
def parR (S : SV) : RV → Option (Option Nat)
  | .nul => some none
  | .ob n => match S.things[n]? with
    | some (.kin _ _ _) => some (some n)
    | _ => none
  | _ => none
def spMkClass (w : World) (c : Cs) : Sp := fun vs H Q E => match vs with
  | [.ref y, .str z, pv] => ∃ x S r, y = x.y ∧ Sto w c H x S ∧ IsVal c H pv r ∧ WfR S r ∧ S.things.length < 99999 ∧ match parR S r with
    | some p => NewTh w c H x S (.kin z p []) Q
    | none => OutS c H "KindError" "the parent is not a class" E
  | _ => False
set_option maxHeartbeats 4000000 in
theorem ok_mkclass (A : At K mg "make_class" "make_class" s_make_class ["store", "name", "parent"]) (T : Txt K mg c) (H_thing_of : Has P w K mg base CX0 "thing_of" 2 ["store", "value"] (spThing w c)) (M_Kin : HasC P w K mg base CX0 c.Kin "Kin" 1 ["self", "name", "parent"] (spMk_Kin K c)) (M_Store_make : HasM P w K mg base CX0 c.Store "make" 3 ["self", "thing"] (spMake w c)) (E_ScriptError : HasE P w K mg base c.ScriptError "ScriptError" 2 (two "kind" "message")) : Has P w K mg base (L2.CX P w) "make_class" 4 ["store", "name", "parent"] (spMkClass w c) := by
  have Sc := sc_make_class
  refine hasX_of A Sc (fun vs H Q E h => ?_) (fun cdv f A outer s H vs Q E hr h => ?_)
  · unfold spMkClass at h; split at h; rfl; cases h
  · unfold spMkClass at h
    split at h
    · rename_i y z pv
      obtain ⟨x, S, r, rfl, hS, hv, hw, hl, h⟩ := h
      obtain ⟨sdx, es⟩ := hS.st
      refine ⟨_, (pss_cons (ps_if (PW.pt (pw_and (pt_cmpR op_fNotN (fe_var 2) pe_non (nomark _)) (pw_and1 (pt_not (pt_val (pe_callB (call_fIsiO T.kit) (by rfl) T.no_isinstance (by decide +kernel) (pa_cons (fe_call H_thing_of (hr.mono (by walk_at "rm")) (by rfl) pass0 (pa_cons (fe_var 0) (pa_cons (fe_var 2) pa_nil))) (pa_cons (pe_glob (v := .ref c.Kin) (by rfl) T.mg_Kin rfl) pa_nil)))))))) (pss_one (fs_raise rfl tk_of E_ScriptError (by decide) (hr.mono (by walk_at "rm")) (by rfl) (pa_cons pe_str (pa_cons pe_str pa_nil)))) pss_nil)
      (pss_one (ps_ret (fe_meth M_Store_make T.cl_Store (hr.mono (by walk_at "rm")) pass0 (fe_var 0) (pa_cons (fe_make (k := _) M_Kin (hr.mono (by walk_at "rm")) (by rfl) pass0 (pa_cons (fe_var 1) (pa_cons (fe_var 2) pa_nil))) pa_nil))))), ?_⟩
      walk_at "fx0"
      have hv0 := hv
      cases r with
      | ob n =>
        obtain ⟨a, rfl, dx, e1⟩ := hv
        have hn := hw n rfl
        obtain ⟨t, et⟩ : ∃ t, S.things[n]? = some t := ⟨S.things[n], List.getElem?_eq_getElem hn⟩
        repeat (first | walk_at "oxs" | simp only [e1])
        refine ⟨x, S, .ob n, rfl, hS, hv0, hw, fun tv h1 h2 _ => ?_⟩
        obtain ⟨a', b, rfl, h3, h4⟩ := h2 n t rfl et
        obtain ⟨dx2, fs2, e2⟩ := h4.ins
        simp only [parR, et] at h
        cases t <;> first
          | exact h4.elim
          | (simp only [clsT] at e2
             repeat (first | walk_at "oxs" | simp only [e2] | simp only [es])
             first
               | exact h
               | (intro a dx p H1 na s1 ea np ep hne
                  exact new_make (t := .kin z (some n) []) (b := some p) hS s1 ⟨dx, _, p, [], rfl, ea, IsRefV.hs hv0 (.same s1), ep, .nil⟩ (foot_two hne) (free_two na np) hl h))
      | bt z =>
        obtain ⟨a, rfl, dx, e1⟩ := hv
        repeat (first | walk_at "oxs" | simp only [e1])
        refine ⟨x, S, .bt z, rfl, hS, hv0, hw, fun tv h1 h2 h3 => ?_⟩
        have etv := h3 fun n z => by cases z
        subst etv
        repeat (first | walk_at "oxs" | simp only [e1])
        exact h

      | nul =>
        cases hv
        repeat (first | walk_at "oxs" | simp only [es])
        intro a dx p H1 na s1 ea np ep hne
        exact new_make (t := .kin z none []) (b := some p) hS s1 ⟨dx, .non, p, [], rfl, ea, rfl, ep, .nil⟩ (foot_two hne) (free_two na np) hl h
      | boo b =>
        cases hv
        repeat (walk_at "oxs")
        refine ⟨x, S, .boo b, rfl, hS, hv0, hw, fun tv h1 h2 h3 => ?_⟩
        have etv := h3 fun n z => by cases z
        subst etv
        repeat (walk_at "oxs")
        exact h
      | num b =>
        cases hv
        repeat (walk_at "oxs")
        refine ⟨x, S, .num b, rfl, hS, hv0, hw, fun tv h1 h2 h3 => ?_⟩
        have etv := h3 fun n z => by cases z
        subst etv
        repeat (walk_at "oxs")
        exact h
      | txt b =>
        cases hv
        repeat (walk_at "oxs")
        refine ⟨x, S, .txt b, rfl, hS, hv0, hw, fun tv h1 h2 h3 => ?_⟩
        have etv := h3 fun n z => by cases z
        subst etv
        repeat (walk_at "oxs")
        exact h
    · cases h
end

theorem opne : (("not" : Str) == "==") = false ∧ ¬ (("not" : Str) = "==") ∧ (("not" : Str) == "!=") = false ∧ ¬ (("not" : Str) = "!=") ∧ (("not" : Str) == "is") = false ∧ ¬ (("not" : Str) = "is") ∧ (("not" : Str) == "+") = false ∧ ¬ (("not" : Str) = "+") ∧ (("not" : Str) == "-") = false ∧ ¬ (("not" : Str) = "-") ∧ (("not" : Str) == "*") = false ∧ ¬ (("not" : Str) = "*") ∧ (("not" : Str) == "/") = false ∧ ¬ (("not" : Str) = "/") ∧ (("not" : Str) == "mod") = false ∧ ¬ (("not" : Str) = "mod") ∧ (("not" : Str) == "<") = false ∧ ¬ (("not" : Str) = "<") ∧ (("not" : Str) == "<=") = false ∧ ¬ (("not" : Str) = "<=") ∧ (("not" : Str) == ">") = false ∧ ¬ (("not" : Str) = ">") ∧ (("not" : Str) == ">=") = false ∧ ¬ (("not" : Str) = ">=") ∧ (("==" : Str) == "not") = false ∧ ¬ (("==" : Str) = "not") ∧ (("==" : Str) == "!=") = false ∧ ¬ (("==" : Str) = "!=") ∧ (("==" : Str) == "is") = false ∧ ¬ (("==" : Str) = "is") ∧ (("==" : Str) == "+") = false ∧ ¬ (("==" : Str) = "+") ∧ (("==" : Str) == "-") = false ∧ ¬ (("==" : Str) = "-") ∧ (("==" : Str) == "*") = false ∧ ¬ (("==" : Str) = "*") ∧ (("==" : Str) == "/") = false ∧ ¬ (("==" : Str) = "/") ∧ (("==" : Str) == "mod") = false ∧ ¬ (("==" : Str) = "mod") ∧ (("==" : Str) == "<") = false ∧ ¬ (("==" : Str) = "<") ∧ (("==" : Str) == "<=") = false ∧ ¬ (("==" : Str) = "<=") ∧ (("==" : Str) == ">") = false ∧ ¬ (("==" : Str) = ">") ∧ (("==" : Str) == ">=") = false ∧ ¬ (("==" : Str) = ">=") ∧ (("!=" : Str) == "not") = false ∧ ¬ (("!=" : Str) = "not") ∧ (("!=" : Str) == "==") = false ∧ ¬ (("!=" : Str) = "==") ∧ (("!=" : Str) == "is") = false ∧ ¬ (("!=" : Str) = "is") ∧ (("!=" : Str) == "+") = false ∧ ¬ (("!=" : Str) = "+") ∧ (("!=" : Str) == "-") = false ∧ ¬ (("!=" : Str) = "-") ∧ (("!=" : Str) == "*") = false ∧ ¬ (("!=" : Str) = "*") ∧ (("!=" : Str) == "/") = false ∧ ¬ (("!=" : Str) = "/") ∧ (("!=" : Str) == "mod") = false ∧ ¬ (("!=" : Str) = "mod") ∧ (("!=" : Str) == "<") = false ∧ ¬ (("!=" : Str) = "<") ∧ (("!=" : Str) == "<=") = false ∧ ¬ (("!=" : Str) = "<=") ∧ (("!=" : Str) == ">") = false ∧ ¬ (("!=" : Str) = ">") ∧ (("!=" : Str) == ">=") = false ∧ ¬ (("!=" : Str) = ">=") ∧ (("is" : Str) == "not") = false ∧ ¬ (("is" : Str) = "not") ∧ (("is" : Str) == "==") = false ∧ ¬ (("is" : Str) = "==") ∧ (("is" : Str) == "!=") = false ∧ ¬ (("is" : Str) = "!=") ∧ (("is" : Str) == "+") = false ∧ ¬ (("is" : Str) = "+") ∧ (("is" : Str) == "-") = false ∧ ¬ (("is" : Str) = "-") ∧ (("is" : Str) == "*") = false ∧ ¬ (("is" : Str) = "*") ∧ (("is" : Str) == "/") = false ∧ ¬ (("is" : Str) = "/") ∧ (("is" : Str) == "mod") = false ∧ ¬ (("is" : Str) = "mod") ∧ (("is" : Str) == "<") = false ∧ ¬ (("is" : Str) = "<") ∧ (("is" : Str) == "<=") = false ∧ ¬ (("is" : Str) = "<=") ∧ (("is" : Str) == ">") = false ∧ ¬ (("is" : Str) = ">") ∧ (("is" : Str) == ">=") = false ∧ ¬ (("is" : Str) = ">=") ∧ (("+" : Str) == "not") = false ∧ ¬ (("+" : Str) = "not") ∧ (("+" : Str) == "==") = false ∧ ¬ (("+" : Str) = "==") ∧ (("+" : Str) == "!=") = false ∧ ¬ (("+" : Str) = "!=") ∧ (("+" : Str) == "is") = false ∧ ¬ (("+" : Str) = "is") ∧ (("+" : Str) == "-") = false ∧ ¬ (("+" : Str) = "-") ∧ (("+" : Str) == "*") = false ∧ ¬ (("+" : Str) = "*") ∧ (("+" : Str) == "/") = false ∧ ¬ (("+" : Str) = "/") ∧ (("+" : Str) == "mod") = false ∧ ¬ (("+" : Str) = "mod") ∧ (("+" : Str) == "<") = false ∧ ¬ (("+" : Str) = "<") ∧ (("+" : Str) == "<=") = false ∧ ¬ (("+" : Str) = "<=") ∧ (("+" : Str) == ">") = false ∧ ¬ (("+" : Str) = ">") ∧ (("+" : Str) == ">=") = false ∧ ¬ (("+" : Str) = ">=") ∧ (("-" : Str) == "not") = false ∧ ¬ (("-" : Str) = "not") ∧ (("-" : Str) == "==") = false ∧ ¬ (("-" : Str) = "==") ∧ (("-" : Str) == "!=") = false ∧ ¬ (("-" : Str) = "!=") ∧ (("-" : Str) == "is") = false ∧ ¬ (("-" : Str) = "is") ∧ (("-" : Str) == "+") = false ∧ ¬ (("-" : Str) = "+") ∧ (("-" : Str) == "*") = false ∧ ¬ (("-" : Str) = "*") ∧ (("-" : Str) == "/") = false ∧ ¬ (("-" : Str) = "/") ∧ (("-" : Str) == "mod") = false ∧ ¬ (("-" : Str) = "mod") ∧ (("-" : Str) == "<") = false ∧ ¬ (("-" : Str) = "<") ∧ (("-" : Str) == "<=") = false ∧ ¬ (("-" : Str) = "<=") ∧ (("-" : Str) == ">") = false ∧ ¬ (("-" : Str) = ">") ∧ (("-" : Str) == ">=") = false ∧ ¬ (("-" : Str) = ">=") ∧ (("*" : Str) == "not") = false ∧ ¬ (("*" : Str) = "not") ∧ (("*" : Str) == "==") = false ∧ ¬ (("*" : Str) = "==") ∧ (("*" : Str) == "!=") = false ∧ ¬ (("*" : Str) = "!=") ∧ (("*" : Str) == "is") = false ∧ ¬ (("*" : Str) = "is") ∧ (("*" : Str) == "+") = false ∧ ¬ (("*" : Str) = "+") ∧ (("*" : Str) == "-") = false ∧ ¬ (("*" : Str) = "-") ∧ (("*" : Str) == "/") = false ∧ ¬ (("*" : Str) = "/") ∧ (("*" : Str) == "mod") = false ∧ ¬ (("*" : Str) = "mod") ∧ (("*" : Str) == "<") = false ∧ ¬ (("*" : Str) = "<") ∧ (("*" : Str) == "<=") = false ∧ ¬ (("*" : Str) = "<=") ∧ (("*" : Str) == ">") = false ∧ ¬ (("*" : Str) = ">") ∧ (("*" : Str) == ">=") = false ∧ ¬ (("*" : Str) = ">=") ∧ (("/" : Str) == "not") = false ∧ ¬ (("/" : Str) = "not") ∧ (("/" : Str) == "==") = false ∧ ¬ (("/" : Str) = "==") ∧ (("/" : Str) == "!=") = false ∧ ¬ (("/" : Str) = "!=") ∧ (("/" : Str) == "is") = false ∧ ¬ (("/" : Str) = "is") ∧ (("/" : Str) == "+") = false ∧ ¬ (("/" : Str) = "+") ∧ (("/" : Str) == "-") = false ∧ ¬ (("/" : Str) = "-") ∧ (("/" : Str) == "*") = false ∧ ¬ (("/" : Str) = "*") ∧ (("/" : Str) == "mod") = false ∧ ¬ (("/" : Str) = "mod") ∧ (("/" : Str) == "<") = false ∧ ¬ (("/" : Str) = "<") ∧ (("/" : Str) == "<=") = false ∧ ¬ (("/" : Str) = "<=") ∧ (("/" : Str) == ">") = false ∧ ¬ (("/" : Str) = ">") ∧ (("/" : Str) == ">=") = false ∧ ¬ (("/" : Str) = ">=") ∧ (("mod" : Str) == "not") = false ∧ ¬ (("mod" : Str) = "not") ∧ (("mod" : Str) == "==") = false ∧ ¬ (("mod" : Str) = "==") ∧ (("mod" : Str) == "!=") = false ∧ ¬ (("mod" : Str) = "!=") ∧ (("mod" : Str) == "is") = false ∧ ¬ (("mod" : Str) = "is") ∧ (("mod" : Str) == "+") = false ∧ ¬ (("mod" : Str) = "+") ∧ (("mod" : Str) == "-") = false ∧ ¬ (("mod" : Str) = "-") ∧ (("mod" : Str) == "*") = false ∧ ¬ (("mod" : Str) = "*") ∧ (("mod" : Str) == "/") = false ∧ ¬ (("mod" : Str) = "/") ∧ (("mod" : Str) == "<") = false ∧ ¬ (("mod" : Str) = "<") ∧ (("mod" : Str) == "<=") = false ∧ ¬ (("mod" : Str) = "<=") ∧ (("mod" : Str) == ">") = false ∧ ¬ (("mod" : Str) = ">") ∧ (("mod" : Str) == ">=") = false ∧ ¬ (("mod" : Str) = ">=") ∧ (("<" : Str) == "not") = false ∧ ¬ (("<" : Str) = "not") ∧ (("<" : Str) == "==") = false ∧ ¬ (("<" : Str) = "==") ∧ (("<" : Str) == "!=") = false ∧ ¬ (("<" : Str) = "!=") ∧ (("<" : Str) == "is") = false ∧ ¬ (("<" : Str) = "is") ∧ (("<" : Str) == "+") = false ∧ ¬ (("<" : Str) = "+") ∧ (("<" : Str) == "-") = false ∧ ¬ (("<" : Str) = "-") ∧ (("<" : Str) == "*") = false ∧ ¬ (("<" : Str) = "*") ∧ (("<" : Str) == "/") = false ∧ ¬ (("<" : Str) = "/") ∧ (("<" : Str) == "mod") = false ∧ ¬ (("<" : Str) = "mod") ∧ (("<" : Str) == "<=") = false ∧ ¬ (("<" : Str) = "<=") ∧ (("<" : Str) == ">") = false ∧ ¬ (("<" : Str) = ">") ∧ (("<" : Str) == ">=") = false ∧ ¬ (("<" : Str) = ">=") ∧ (("<=" : Str) == "not") = false ∧ ¬ (("<=" : Str) = "not") ∧ (("<=" : Str) == "==") = false ∧ ¬ (("<=" : Str) = "==") ∧ (("<=" : Str) == "!=") = false ∧ ¬ (("<=" : Str) = "!=") ∧ (("<=" : Str) == "is") = false ∧ ¬ (("<=" : Str) = "is") ∧ (("<=" : Str) == "+") = false ∧ ¬ (("<=" : Str) = "+") ∧ (("<=" : Str) == "-") = false ∧ ¬ (("<=" : Str) = "-") ∧ (("<=" : Str) == "*") = false ∧ ¬ (("<=" : Str) = "*") ∧ (("<=" : Str) == "/") = false ∧ ¬ (("<=" : Str) = "/") ∧ (("<=" : Str) == "mod") = false ∧ ¬ (("<=" : Str) = "mod") ∧ (("<=" : Str) == "<") = false ∧ ¬ (("<=" : Str) = "<") ∧ (("<=" : Str) == ">") = false ∧ ¬ (("<=" : Str) = ">") ∧ (("<=" : Str) == ">=") = false ∧ ¬ (("<=" : Str) = ">=") ∧ ((">" : Str) == "not") = false ∧ ¬ ((">" : Str) = "not") ∧ ((">" : Str) == "==") = false ∧ ¬ ((">" : Str) = "==") ∧ ((">" : Str) == "!=") = false ∧ ¬ ((">" : Str) = "!=") ∧ ((">" : Str) == "is") = false ∧ ¬ ((">" : Str) = "is") ∧ ((">" : Str) == "+") = false ∧ ¬ ((">" : Str) = "+") ∧ ((">" : Str) == "-") = false ∧ ¬ ((">" : Str) = "-") ∧ ((">" : Str) == "*") = false ∧ ¬ ((">" : Str) = "*") ∧ ((">" : Str) == "/") = false ∧ ¬ ((">" : Str) = "/") ∧ ((">" : Str) == "mod") = false ∧ ¬ ((">" : Str) = "mod") ∧ ((">" : Str) == "<") = false ∧ ¬ ((">" : Str) = "<") ∧ ((">" : Str) == "<=") = false ∧ ¬ ((">" : Str) = "<=") ∧ ((">" : Str) == ">=") = false ∧ ¬ ((">" : Str) = ">=") ∧ ((">=" : Str) == "not") = false ∧ ¬ ((">=" : Str) = "not") ∧ ((">=" : Str) == "==") = false ∧ ¬ ((">=" : Str) = "==") ∧ ((">=" : Str) == "!=") = false ∧ ¬ ((">=" : Str) = "!=") ∧ ((">=" : Str) == "is") = false ∧ ¬ ((">=" : Str) = "is") ∧ ((">=" : Str) == "+") = false ∧ ¬ ((">=" : Str) = "+") ∧ ((">=" : Str) == "-") = false ∧ ¬ ((">=" : Str) = "-") ∧ ((">=" : Str) == "*") = false ∧ ¬ ((">=" : Str) = "*") ∧ ((">=" : Str) == "/") = false ∧ ¬ ((">=" : Str) = "/") ∧ ((">=" : Str) == "mod") = false ∧ ¬ ((">=" : Str) = "mod") ∧ ((">=" : Str) == "<") = false ∧ ¬ ((">=" : Str) = "<") ∧ ((">=" : Str) == "<=") = false ∧ ¬ ((">=" : Str) = "<=") ∧ ((">=" : Str) == ">") = false ∧ ¬ ((">=" : Str) = ">") := by (repeat' apply And.intro) <;> decide +kernel
section
variable {P : Program} {w : World} {K : PySem.W.Frag} {mg : Str → Option Value} {base : Heap} {c : Cs}
/-! ### operators of values of any kinds -/
theorem OutS.same {H H' : Hp} {k m : Str} {E : XK} (h : OutS c H k m E) (s : Same H H') : OutS c H' k m E := fun d H2 nd s2 e => h d H2 (s.free nd) (s.trans s2) e
def spIsInt (c : Cs) : Sp := fun vs H Q _ => match vs with
  | [x] => ∃ r, IsVal c H x r ∧ Q (.bl (match r with | .num _ => true | _ => false)) H
  | _ => False
theorem ok_isint (A : At K mg "is_integer" "is_integer" s_is_integer ["value"]) (T : Txt K mg c) : Has P w K mg base CX0 "is_integer" 1 ["value"] (spIsInt c) := by
  have Sc := sc_is_integer
  refine has_of A Sc (fun vs H Q E h => ?_) (fun cdv f A outer s H vs Q E hr h => ?_)
  · unfold spIsInt at h; split at h; rfl; cases h
  · unfold spIsInt at h
    split at h
    · rename_i x
      obtain ⟨r, hv, h⟩ := h
      refine ⟨_, (pss_one (ps_ret (pe_and (pe_callB (call_fIsiA T.kit) (by rfl) T.no_isinstance (by decide +kernel) (pa_cons (fe_var 0) (pa_cons (fe_ty (n := "int") (by rfl) T.no_int (by decide +kernel)) pa_nil))) (pe_one (pe_not (pe_callB (call_fIsiA T.kit) (by rfl) T.no_isinstance (by decide +kernel) (pa_cons (fe_var 0) (pa_cons (fe_ty (n := "bool") (by rfl) T.no_bool (by decide +kernel)) pa_nil)))))))), ?_⟩
      walk_at "fx0"
      cases r <;> first
        | (cases hv
           repeat (walk_at "oxs")
           exact h)
        | (obtain ⟨a, rfl, dx, e1⟩ := hv
           repeat (first | walk_at "oxs" | simp only [e1])
           exact h)
    · cases h

def vOf : RV → V
  | .boo b => .bl b
  | .num n => .int n
  | .txt z => .str z
  | _ => .non
inductive BR where
  | val (r : RV)
  | err (k m : Str)
  | mk (rs : List RV)
def resB (w : World) (c : Cs) (H : Hp) (x : SA) (S : SV) (R : BR) (Q : VK) (E : XK) : Prop := match R with
  | .val r => Q (vOf r) H
  | .err k m => OutS c H k m E
  | .mk rs => NewTh w c H x S (.parts rs) Q
structure OkB (S : SV) : Prop where
  pt : ∀ (n : Nat) (rs : List RV), S.things[n]? = some (.parts rs) → rs.length ≤ 1000
  an : ∀ n : Nat, IsKin S n → ∃ l, Anc S n l
  ow : ∀ (n o : Nat) (fs : List (Str × RV)), S.things[n]? = some (.inst o fs) → IsKin S o
def msg2 (v : Str) (S : SV) (rx ry : RV) : Str := "" ++ "cannot " ++ v ++ " " ++ kindR S rx ++ " and " ++ kindR S ry
def isN : RV → Bool
  | .num _ => true
  | _ => false
theorem isN_def (r : RV) : (match r with | .num _ => true | _ => false) = isN r := by cases r <;> rfl
def spFit (c : Cs) : Sp := fun vs H Q E => match vs with
  | [.str z] => z.length ≤ 10000 ∧ if z.length ≤ 1000 then Q (.str z) H else OutS c H "SizeError" "too large" E
  | _ => False
theorem ok_fit (A : At K mg "fitting_text" "fitting_text" s_fitting_text ["text"]) (T : Txt K mg c) (E_ScriptError : HasE P w K mg base c.ScriptError "ScriptError" 2 (two "kind" "message")) : Has P w K mg base (L2.CX P w) "fitting_text" 3 ["text"] (spFit c) := by
  have Sc := sc_fitting_text
  refine hasX_of A Sc (fun vs H Q E h => ?_) (fun cdv f A outer s H vs Q E hr h => ?_)
  · unfold spFit at h; split at h; rfl; cases h
  · unfold spFit at h
    split at h
    · rename_i z
      obtain ⟨hz, h⟩ := h
      refine ⟨_, (pss_cons (ps_if (pt_cmpR op_fLe (pe_callB call_fLen (by rfl) T.no_len (by decide +kernel) (pa_cons (fe_var 0) pa_nil)) (fe_gint (by rfl) T.g_MOST_CHARACTERS) (nomark _)) (pss_one (ps_ret (fe_var 0))) pss_nil)
      (pss_one (fs_raise rfl tk_of E_ScriptError (by decide) (hr.mono (by walk_at "rm")) (by rfl) (pa_cons pe_str (pa_cons pe_str pa_nil))))), ?_⟩
      walk_at "fx0"
      repeat (walk_at "oxs")
      refine ⟨by rw [sizeLine_eq]; omega, ?_⟩
      by_cases q : z.length ≤ 1000
      · rw [if_pos q] at h
        rw [if_pos (by omega)]
        exact h
      · rw [if_neg q] at h
        rw [if_neg (by omega)]
        exact h
    · cases h
def verbs4 : List (Str × Str) := [("-", "subtract"), ("*", "multiply"), ("/", "divide"), ("mod", "divide")]
def spReckO (w : World) (c : Cs) : Sp := fun vs H Q E => match vs with
  | [.ref y, .str z, vx, vy] => ∃ x S rx ry v, y = x.y ∧ Sto w c H x S ∧ IsVal c H vx rx ∧ IsVal c H vy ry ∧ WfR S rx ∧ WfR S ry ∧ ¬ (isN rx = true ∧ isN ry = true) ∧ (z, v) ∈ verbs4 ∧ OutS c H "KindError" (msg2 v S rx ry) E
  | _ => False
theorem ok_reckO (A : At K mg "reckoned" "reckoned" s_reckoned ["store", "operator", "x", "y"]) (T : Txt K mg c) (TD : TxD w K mg) (H_is_integer : Has P w K mg base CX0 "is_integer" 1 ["value"] (spIsInt c)) (H_kind_of : Has P w K mg base CX0 "kind_of" 3 ["store", "value"] (spKind w c)) (E_ScriptError : HasE P w K mg base c.ScriptError "ScriptError" 2 (two "kind" "message")) : Has P w K mg base (L2.CX P w) "reckoned" 5 ["store", "operator", "x", "y"] (spReckO w c) := by
  have Sc := sc_reckoned
  refine hasX_of A Sc (fun vs H Q E h => ?_) (fun cdv f A outer s H vs Q E hr h => ?_)
  · unfold spReckO at h; split at h; rfl; cases h
  · unfold spReckO at h
    split at h
    · rename_i y z vx vy
      obtain ⟨x, S, rx, ry, v, rfl, hS, hx, hy, wx, wy, nb, hz, h⟩ := h
      refine ⟨_, (pss_cons (ps_if (PW.pt (pw_or (pt_not (pt_val (fe_call H_is_integer (hr.mono (by walk_at "rm")) (by rfl) pass0 (pa_cons (fe_var 2) pa_nil)))) (pw_or1 (pt_not (pt_val (fe_call H_is_integer (hr.mono (by walk_at "rm")) (by rfl) pass0 (pa_cons (fe_var 3) pa_nil))))))) (pss_one (fs_raise rfl tk_of E_ScriptError (by decide) (hr.mono (by walk_at "rm")) (by rfl) (pa_cons pe_str (pa_cons (fe_joined (pf_cons pe_str (pf_cons (fe_fmt (pe_ix ix_fxD (fe_gdict (by rfl) TD.d_VERBS) (fe_var 1) (fun _ _ => rfl))) (pf_cons pe_str (pf_cons (fe_fmt (fe_call H_kind_of (hr.mono (by walk_at "rm")) (by rfl) pass0 (pa_cons (fe_var 0) (pa_cons (fe_var 2) pa_nil)))) (pf_cons pe_str (pf_cons (fe_fmt (fe_call H_kind_of (hr.mono (by walk_at "rm")) (by rfl) pass0 (pa_cons (fe_var 0) (pa_cons (fe_var 3) pa_nil)))) PF_nil))))))) pa_nil)))) pss_nil)
      (pss_cons (ps_if (pt_cmpR (op_fEq hr.units) (fe_var 1) pe_str (nomark _)) (pss_one (ps_ret pe_dead)) pss_nil)
      (pss_cons (ps_if (pt_cmpR (op_fEq hr.units) (fe_var 1) pe_str (nomark _)) (pss_one (ps_ret pe_dead)) pss_nil)
      (pss_cons (ps_if (pt_cmpR (op_fEq hr.units) (fe_var 3) pe_int (nomark _)) (pss_one (fs_raise rfl tk_of E_ScriptError (by decide) (hr.mono (by walk_at "rm")) (by rfl) (pa_cons pe_str (pa_cons pe_str pa_nil)))) pss_nil)
      (pss_cons (ps_if (pt_cmpR (op_fEq hr.units) (fe_var 1) pe_str (nomark _)) (pss_one (ps_ret pe_dead)) pss_nil)
      (pss_one (ps_ret (pe_op op_fSub (fe_var 2) (pe_op op_fMul (fe_var 3) (pe_op op_fDivZ (fe_var 2) (fe_var 3))))))))))), ?_⟩
      walk_at "fx0"
      repeat (walk_at "oxs")
      have k1 := kindR_len (S := S) (r := rx)
      have k2 := kindR_len (S := S) (r := ry)
      have a0 : Str.length Str.empty = 0 := rfl
      have a1 : Str.length (Str.ofString "cannot ") = 7 := rfl
      have a2 : Str.length (Str.ofString " ") = 1 := rfl
      have a3 : Str.length (Str.ofString " and ") = 5 := rfl
      have v1 : v.length ≤ 8 := by
        simp only [verbs4, List.mem_cons, List.not_mem_nil, or_false, Prod.mk.injEq] at hz
        rcases hz with ⟨_, rfl⟩ | ⟨_, rfl⟩ | ⟨_, rfl⟩ | ⟨_, rfl⟩ <;> decide
      refine ⟨rx, hx, ?_⟩
      rw [isN_def rx]
      cases q1 : isN rx
      case' true =>
        repeat (walk_at "oxs")
        refine ⟨ry, hy, ?_⟩
        rw [isN_def ry, show isN ry = false from (by cases q2 : isN ry; rfl; exact absurd ⟨q1, q2⟩ nb)]
      all_goals
        repeat (walk_at "oxs")
        refine ⟨by decide, fun d D => ⟨_, D, .str v, ?_, ?_⟩⟩
        · simp only [verbs4, List.mem_cons, List.not_mem_nil, or_false, Prod.mk.injEq] at hz
          rcases hz with ⟨rfl, rfl⟩ | ⟨rfl, rfl⟩ | ⟨rfl, rfl⟩ | ⟨rfl, rfl⟩ <;> rfl
        · dsimp only
          have l1 : v.length ≤ sizeLine := by rw [sizeLine_eq]; omega
          refine ⟨l1, by simp only [Str.length_append, a0, a1, sizeLine_eq]; omega, by simp only [Str.length_append, a0, a1, a2, sizeLine_eq]; omega, x, S, rx, rfl, hS, hx, wx, ?_⟩
          repeat (walk_at "oxs")
          refine ⟨by rw [sizeLine_eq]; omega, by simp only [Str.length_append, a0, a1, a2, sizeLine_eq]; omega, by simp only [Str.length_append, a0, a1, a2, a3, sizeLine_eq]; omega, x, S, ry, rfl, hS, hy, wy, ?_⟩
          repeat (walk_at "oxs")
          exact ⟨by rw [sizeLine_eq]; omega, by simp only [Str.length_append, a0, a1, a2, a3, sizeLine_eq]; omega, h⟩
    · cases h
end

section
variable {P : Program} {w : World} {K : PySem.W.Frag} {mg : Str → Option Value} {base : Heap} {c : Cs}
theorem NewTh.same {H H' : Hp} {x : SA} {S : SV} {t : Th} {Q : VK} (h : NewTh w c H x S t Q) (s : Same H H') : NewTh w c H' x S t Q := fun r a b H1 nr nf k st hr => h r a b H1 (s.free nr) (fun q m => s.free (nf q m)) ((Keep.of s).trans k) st hr
theorem VsAt.append {H : Hp} {xs ys : List V} {rs ts : List RV} (h : VsAt c H xs rs) (g : VsAt c H ys ts) : VsAt c H (xs ++ ys) (rs ++ ts) := by
  induction h with
  | nil => exact g
  | cons a t ih => exact .cons a ih
inductive O9 where
  | sub | mul | div | mod | lt | le | gt | ge | is | add
def O9.s : O9 → Str
  | .sub => "-" | .mul => "*" | .div => "/" | .mod => "mod" | .lt => "<" | .le => "<=" | .gt => ">" | .ge => ">=" | .is => "is" | .add => "+"
def cmpB : O9 → Str → Str → Bool
  | .lt, a, b => decide (a.cps.toList < b.cps.toList)
  | .le, a, b => !decide (b.cps.toList < a.cps.toList)
  | .gt, a, b => decide (b.cps.toList < a.cps.toList)
  | _, a, b => !decide (a.cps.toList < b.cps.toList)
def isC : O9 → Bool
  | .lt => true | .le => true | .gt => true | .ge => true | _ => false
def kinN (S : SV) : RV → Option Nat
  | .ob n => match S.things[n]? with
    | some (.kin _ _ _) => some n
    | _ => none
  | _ => none
def instO (S : SV) : RV → Option Nat
  | .ob n => match S.things[n]? with
    | some (.inst o _) => some o
    | _ => none
  | _ => none
def partsR (S : SV) : RV → Option (List RV)
  | .ob n => match S.things[n]? with
    | some (.parts rs) => some rs
    | _ => none
  | _ => none
open Classical in
noncomputable def ancOf (S : SV) (k : Nat) : List Nat := if h : ∃ l, Anc S k l then Classical.choose h else []
theorem anc_of {S : SV} {k : Nat} (h : ∃ l, Anc S k l) : Anc S k (ancOf S k) := by
  unfold ancOf
  rw [dif_pos h]
  exact Classical.choose_spec h
def cmpR (S : SV) (o : O9) : RV → RV → BR
  | .txt a, .txt b => .val (.boo (cmpB o a b))
  | rx, ry => .err "KindError" ("" ++ "cannot compare " ++ kindR S rx ++ " and " ++ kindR S ry)
def addE (S : SV) (rx ry : RV) : BR := .err "KindError" ("" ++ "cannot add " ++ kindR S rx ++ " and " ++ kindR S ry)
def addR (S : SV) (rx ry : RV) : BR := match rx, ry with
  | .txt a, .txt b => if (a ++ b).length ≤ 1000 then .val (.txt (a ++ b)) else .err "SizeError" "too large"
  | rx, ry => match partsR S rx, partsR S ry with
    | some r1, some r2 => if r1.length + r2.length ≤ 1000 then .mk (r1 ++ r2) else .err "SizeError" "too large"
    | _, _ => addE S rx ry
noncomputable def isR (S : SV) (rx ry : RV) : BR := match kinN S ry with
  | none => .err "KindError" "is needs a class"
  | some m => .val (.boo (match instO S rx with | some o => decide (m ∈ ancOf S o) | none => false))
noncomputable def binR (S : SV) (rx ry : RV) : O9 → BR
  | .sub => .err "KindError" (msg2 "subtract" S rx ry)
  | .mul => .err "KindError" (msg2 "multiply" S rx ry)
  | .div => .err "KindError" (msg2 "divide" S rx ry)
  | .mod => .err "KindError" (msg2 "divide" S rx ry)
  | .is => isR S rx ry
  | .add => addR S rx ry
  | o => cmpR S o rx ry
structure VR (S : SV) (r : RV) : Prop where
  wf : WfR S r
  tx : ∀ z, r = .txt z → z.length ≤ 1000
def spCmpO (w : World) (c : Cs) : Sp := fun vs H Q E => match vs with
  | [.ref y, .str z, vx, vy] => ∃ x S rx ry o, y = x.y ∧ Sto w c H x S ∧ IsVal c H vx rx ∧ IsVal c H vy ry ∧ VR S rx ∧ VR S ry ∧ ¬ (isN rx = true ∧ isN ry = true) ∧ z = O9.s o ∧ isC o = true ∧ resB w c H x S (cmpR S o rx ry) Q E
  | _ => False
theorem cmp_two {S : SV} {o : O9} {rx ry : RV} (h : ¬ ∃ a b, rx = .txt a ∧ ry = .txt b) : cmpR S o rx ry = .err "KindError" ("" ++ "cannot compare " ++ kindR S rx ++ " and " ++ kindR S ry) := by
  cases rx <;> cases ry <;> first | rfl | exact absurd ⟨_, _, rfl, rfl⟩ h
set_option maxHeartbeats 4000000 in
theorem ok_cmpO (A : At K mg "compared" "compared" s_compared ["store", "operator", "x", "y"]) (T : Txt K mg c) (H_is_integer : Has P w K mg base CX0 "is_integer" 1 ["value"] (spIsInt c)) (H_kind_of : Has P w K mg base CX0 "kind_of" 3 ["store", "value"] (spKind w c)) (E_ScriptError : HasE P w K mg base c.ScriptError "ScriptError" 2 (two "kind" "message")) : Has P w K mg base (L2.CX P w) "compared" 5 ["store", "operator", "x", "y"] (spCmpO w c) := by
  have Sc := sc_compared
  refine hasX_of A Sc (fun vs H Q E h => ?_) (fun cdv f A outer s H vs Q E hr h => ?_)
  · unfold spCmpO at h; split at h; rfl; cases h
  · unfold spCmpO at h
    split at h
    · rename_i y z vx vy
      obtain ⟨x, S, rx, ry, o, rfl, hS, hx, hy, wx, wy, nb, rfl, ho, h⟩ := h
      refine ⟨_, (pss_cons (ps_set (i := 4) Sc.nd rfl (.inl rfl) (pe_or (pe_and (fe_call H_is_integer (hr.mono (by walk_at "rm")) (by rfl) pass0 (pa_cons (fe_var 2) pa_nil)) (pe_one (fe_call H_is_integer (hr.mono (by walk_at "rm")) (by rfl) pass0 (pa_cons (fe_var 3) pa_nil)))) (pe_one (pe_and (pe_callB (call_fIsiA T.kit) (by rfl) T.no_isinstance (by decide +kernel) (pa_cons (fe_var 2) (pa_cons (fe_ty (n := "str") (by rfl) T.no_str (by decide +kernel)) pa_nil))) (pe_one (pe_callB (call_fIsiA T.kit) (by rfl) T.no_isinstance (by decide +kernel) (pa_cons (fe_var 3) (pa_cons (fe_ty (n := "str") (by rfl) T.no_str (by decide +kernel)) pa_nil))))))))
      (pss_cons (ps_if (pt_not (pt_val (fe_var 4))) (pss_one (fs_raise rfl tk_of E_ScriptError (by decide) (hr.mono (by walk_at "rm")) (by rfl) (pa_cons pe_str (pa_cons (fe_joined (pf_cons pe_str (pf_cons (fe_fmt (fe_call H_kind_of (hr.mono (by walk_at "rm")) (by rfl) pass0 (pa_cons (fe_var 0) (pa_cons (fe_var 2) pa_nil)))) (pf_cons pe_str (pf_cons (fe_fmt (fe_call H_kind_of (hr.mono (by walk_at "rm")) (by rfl) pass0 (pa_cons (fe_var 0) (pa_cons (fe_var 3) pa_nil)))) PF_nil))))) pa_nil)))) pss_nil)
      (pss_cons (ps_if (pt_cmpR (op_fEq hr.units) (fe_var 1) pe_str (nomark _)) (pss_one (ps_ret (pe_cmpR op_fLt (fe_var 2) (fe_var 3) (nomark _)))) pss_nil)
      (pss_cons (ps_if (pt_cmpR (op_fEq hr.units) (fe_var 1) pe_str (nomark _)) (pss_one (ps_ret (pe_cmpR op_fLe (fe_var 2) (fe_var 3) (nomark _)))) pss_nil)
      (pss_cons (ps_if (pt_cmpR (op_fEq hr.units) (fe_var 1) pe_str (nomark _)) (pss_one (ps_ret (pe_cmpR op_fGt (fe_var 2) (fe_var 3) (nomark _)))) pss_nil)
      (pss_one (ps_ret (pe_cmpR op_fGe (fe_var 2) (fe_var 3) (nomark _))))))))), ?_⟩
      walk_at "fx0"
      have k1 := kindR_len (S := S) (r := rx)
      have k2 := kindR_len (S := S) (r := ry)
      have a0 : Str.length Str.empty = 0 := rfl
      have a1 : Str.length (Str.ofString "cannot compare ") = 15 := rfl
      have a3 : Str.length (Str.ofString " and ") = 5 := rfl
      simp only [tSeq]
      refine cut_ fun N hN => ?_
      have bad : (¬ ∃ a b, rx = .txt a ∧ ry = .txt b) → N [some (.ref x.y), some (.str o.s), some vx, some vy, some (.bl false)] H := fun hb => by
        refine hN _ _ ?_
        clear hN N
        rw [cmp_two hb] at h
        repeat (walk_at "oxs")
        refine ⟨by decide, x, S, rx, rfl, hS, hx, wx.wf, ?_⟩
        repeat (walk_at "oxs")
        refine ⟨by rw [sizeLine_eq]; omega, by simp only [Str.length_append, a0, a1, sizeLine_eq]; omega, by simp only [Str.length_append, a0, a1, a3, sizeLine_eq]; omega, x, S, ry, rfl, hS, hy, wy.wf, ?_⟩
        repeat (walk_at "oxs")
        exact ⟨by rw [sizeLine_eq]; omega, by simp only [Str.length_append, a0, a1, a3, sizeLine_eq]; omega, h⟩
      have good : ∀ a b, rx = .txt a → ry = .txt b → N [some (.ref x.y), some (.str o.s), some vx, some vy, some (.bl true)] H := fun a b e1 e2 => by
        subst e1 e2
        cases hx
        cases hy
        refine hN _ _ ?_
        clear bad
        clear hN N
        dsimp only
        have la := wx.tx a rfl
        have lb := wy.tx b rfl
        cases o <;> first
          | exact absurd ho (by decide)
          | (simp only [O9.s, opne]
             repeat (first | walk_at "oxs" | simp only [opne])
             exact h)
      have hfx : ∀ a b, rx = .txt a → ry = .txt b → vx = .str a ∧ vy = .str b := fun a b e1 e2 => by
        subst e1 e2
        exact ⟨hx, hy⟩
      have ny : isN rx = true → isN ry = false := fun q1 => by cases q2 : isN ry; rfl; exact absurd ⟨q1, q2⟩ nb
      cases rx with
      | txt a =>
        cases hx
        repeat (walk_at "oxs")
        refine ⟨.txt a, rfl, ?_⟩
        repeat (walk_at "oxs")
        cases ry with
        | txt b => cases hy; repeat (walk_at "oxs"); exact good a b rfl rfl
        | ob n =>
          obtain ⟨p, rfl, dx, e1⟩ := id hy
          repeat (first | walk_at "oxs" | simp only [e1])
          exact bad fun ⟨_, _, _, z⟩ => by cases z
        | bt n =>
          obtain ⟨p, rfl, dx, e1⟩ := id hy
          repeat (first | walk_at "oxs" | simp only [e1])
          exact bad fun ⟨_, _, _, z⟩ => by cases z
        | _ =>
          cases hy
          repeat (walk_at "oxs")
          exact bad fun ⟨_, _, _, z⟩ => by cases z
      | num n =>
        cases hx
        repeat (walk_at "oxs")
        refine ⟨.num n, rfl, ?_⟩
        repeat (walk_at "oxs")
        refine ⟨ry, hy, ?_⟩
        rw [isN_def, ny rfl]
        repeat (walk_at "oxs")
        exact bad fun ⟨_, _, z, _⟩ => by cases z
      | ob n =>
        obtain ⟨p, rfl, dx, e1⟩ := id hx
        repeat (first | walk_at "oxs" | simp only [e1])
        refine ⟨.ob n, hx, ?_⟩
        repeat (first | walk_at "oxs" | simp only [e1])
        exact bad fun ⟨_, _, z, _⟩ => by cases z
      | bt n =>
        obtain ⟨p, rfl, dx, e1⟩ := id hx
        repeat (first | walk_at "oxs" | simp only [e1])
        refine ⟨.bt n, hx, ?_⟩
        repeat (first | walk_at "oxs" | simp only [e1])
        exact bad fun ⟨_, _, z, _⟩ => by cases z
      | nul =>
        cases hx
        repeat (walk_at "oxs")
        refine ⟨.nul, rfl, ?_⟩
        repeat (walk_at "oxs")
        exact bad fun ⟨_, _, z, _⟩ => by cases z
      | boo b =>
        cases hx
        repeat (walk_at "oxs")
        refine ⟨.boo b, rfl, ?_⟩
        repeat (walk_at "oxs")
        exact bad fun ⟨_, _, z, _⟩ => by cases z
    · cases h

def tyB (C : Addr) : Value → Bool
  | .ref D => decide (D = C)
  | _ => false
theorem ty_okO {S : SV} {r : RV} (wf : WfR S r) : (match tyR c S r with
    | .ref C => C = c.Ref ∨ C = c.Builtin ∨ C = c.Parts ∨ C = c.Table ∨ C = c.Instance ∨ C = c.Kin ∨ C = c.Closure ∨ C = c.Store
    | _ => True) := by
  cases r with
  | ob n =>
    obtain ⟨t, et⟩ : ∃ t, S.things[n]? = some t := ⟨_, List.getElem?_eq_getElem (wf n rfl)⟩
    simp only [tyR, et]
    cases t <;> simp [clsT]
  | _ => trivial
theorem ty_parts {S : SV} {r : RV} (T : Txt K mg c) (wf : WfR S r) : tyB c.Parts (tyR c S r) = (partsR S r).isSome := by
  cases r with
  | ob n =>
    obtain ⟨t, et⟩ : ∃ t, S.things[n]? = some t := ⟨_, List.getElem?_eq_getElem (wf n rfl)⟩
    simp only [tyR, partsR, et]
    cases t <;> simp [clsT, tyB, T.ne]
  | _ => rfl
theorem ty_kin {S : SV} {r : RV} (T : Txt K mg c) (wf : WfR S r) : tyB c.Kin (tyR c S r) = (kinN S r).isSome := by
  cases r with
  | ob n =>
    obtain ⟨t, et⟩ : ∃ t, S.things[n]? = some t := ⟨_, List.getElem?_eq_getElem (wf n rfl)⟩
    simp only [tyR, kinN, et]
    cases t <;> simp [clsT, tyB, T.ne]
  | _ => rfl
theorem ty_inst {S : SV} {r : RV} (T : Txt K mg c) (wf : WfR S r) : tyB c.Instance (tyR c S r) = (instO S r).isSome := by
  cases r with
  | ob n =>
    obtain ⟨t, et⟩ : ∃ t, S.things[n]? = some t := ⟨_, List.getElem?_eq_getElem (wf n rfl)⟩
    simp only [tyR, instO, et]
    cases t <;> simp [clsT, tyB, T.ne]
  | _ => rfl
theorem parts_at {S : SV} {r : RV} {rs : List RV} (h : partsR S r = some rs) : ∃ n, r = .ob n ∧ S.things[n]? = some (.parts rs) := by
  unfold partsR at h
  split at h
  · rename_i n
    split at h
    · cases h; exact ⟨n, rfl, by assumption⟩
    · cases h
  · cases h
theorem kin_at {S : SV} {r : RV} {m : Nat} (h : kinN S r = some m) : r = .ob m ∧ ∃ a b d, S.things[m]? = some (.kin a b d) := by
  unfold kinN at h
  split at h
  · rename_i n
    split at h
    · cases h; exact ⟨rfl, _, _, _, by assumption⟩
    · cases h
  · cases h
theorem inst_at {S : SV} {r : RV} {o : Nat} (h : instO S r = some o) : ∃ n fs, r = .ob n ∧ S.things[n]? = some (.inst o fs) := by
  unfold instO at h
  split at h
  · rename_i n
    split at h
    · cases h; exact ⟨n, _, rfl, by assumption⟩
    · cases h
  · cases h
def spMkL2 (w : World) (c : Cs) : Sp := fun vs H Q E => match vs with
  | [.ref y, .ref l] => ∃ x S xs rs, y = x.y ∧ Sto w c H x S ∧ H l = some (.lst xs) ∧ VsAt c H xs rs ∧ xs.length ≤ 10000 ∧ S.things.length < 99999 ∧ if xs.length ≤ 1000 then NewTh w c H x S (.parts rs) Q else OutS c H "SizeError" "too large" E
  | _ => False
theorem ok_mklist2 (A : At K mg "make_list" "make_list" s_make_list ["store", "values"]) (T : Txt K mg c) (H_check_parts : Has P w K mg base (L2.CX P w) "check_parts" 3 ["count"] (spCheck c)) (M_Parts : HasC P w K mg base CX0 c.Parts "Parts" 1 ["self", "held"] (spMk_Parts K c)) (M_Store_make : HasM P w K mg base CX0 c.Store "make" 3 ["self", "thing"] (spMake w c)) : Has P w K mg base (L2.CX P w) "make_list" 4 ["store", "values"] (spMkL2 w c) := by
  have Sc := sc_make_list
  refine hasX_of A Sc (fun vs H Q E h => ?_) (fun cdv f A outer s H vs Q E hr h => ?_)
  · unfold spMkL2 at h; split at h; rfl; cases h
  · unfold spMkL2 at h
    split at h
    · rename_i y l
      obtain ⟨x, S, xs, rs, rfl, hS, el, hv, hn, hl, h⟩ := h
      obtain ⟨sdx, es⟩ := hS.st
      refine ⟨_, (pss_cons (ps_expr (fe_callX H_check_parts (hr.mono (by walk_at "rm")) (by rfl) tk_of (pa_cons (pe_callB call_fLen (by rfl) T.no_len (by decide +kernel) (pa_cons (fe_var 1) pa_nil)) pa_nil)))
      (pss_one (ps_ret (fe_meth M_Store_make T.cl_Store (hr.mono (by walk_at "rm")) pass0 (fe_var 0) (pa_cons (fe_make (k := _) M_Parts (hr.mono (by walk_at "rm")) (by rfl) pass0 (pa_cons (fe_var 1) pa_nil)) pa_nil))))), ?_⟩
      walk_at "fx0"
      repeat (walk_at "oxs")
      refine ⟨_, rl_l el, ?_⟩
      unfold spCheck
      dsimp only
      by_cases q : xs.length ≤ 1000
      · rw [if_pos q] at h
        rw [if_neg (by omega)]
        repeat (first | walk_at "oxs" | simp only [es])
        refine ⟨_, rl_l el, ?_⟩
        intro a dx p H1 na s1 ea np ep hne
        exact new_make (t := .parts rs) (b := some p) hS s1 ⟨dx, p, xs, rfl, ea, ep, hv.hs (.same s1)⟩ (foot_two hne) (free_two na np) hl h
      · rw [if_neg q] at h
        rw [if_pos (by omega)]
        exact h
    · cases h
theorem if_f {p : Bool} {A B : Prop} (b : Bool) (e : p = b) (h0 : b = false → A) (h1 : b = true → B) : if p = false then A else B := by
  subst e
  cases p
  · exact h0 rfl
  · exact h1 rfl
theorem if_t {p : Bool} {A B : Prop} (b : Bool) (e : p = b) (h0 : b = false → B) (h1 : b = true → A) : if p = true then A else B := by
  subst e
  cases p
  · exact h0 rfl
  · exact h1 rfl
def spIsOf (w : World) (c : Cs) : Sp := fun vs H Q E => match vs with
  | [.ref y, vx, vy] => ∃ x S rx ry, y = x.y ∧ Sto w c H x S ∧ OkB S ∧ IsVal c H vx rx ∧ IsVal c H vy ry ∧ VR S rx ∧ VR S ry ∧ resB w c H x S (isR S rx ry) Q E
  | _ => False
theorem ok_isof (A : At K mg "is_of" "is_of" s_is_of ["store", "x", "y"]) (T : Txt K mg c) (H_thing_of : Has P w K mg base CX0 "thing_of" 2 ["store", "value"] (spThing w c)) (H_is_below : Has P w K mg base CX0 "is_below" 2 ["store", "kin", "other"] (spBelow w c)) (E_ScriptError : HasE P w K mg base c.ScriptError "ScriptError" 2 (two "kind" "message")) : Has P w K mg base (L2.CX P w) "is_of" 4 ["store", "x", "y"] (spIsOf w c) := by
  have Sc := sc_is_of
  refine hasX_of A Sc (fun vs H Q E h => ?_) (fun cdv f A outer s H vs Q E hr h => ?_)
  · unfold spIsOf at h; split at h; rfl; cases h
  · unfold spIsOf at h
    split at h
    · rename_i y vx vy
      obtain ⟨x, S, rx, ry, rfl, hS, ok, hx, hy, wx, wy, h⟩ := h
      refine ⟨_, (pss_cons (ps_if (pt_not (pt_val (pe_callB (call_fIsiO T.kit) (by rfl) T.no_isinstance (by decide +kernel) (pa_cons (fe_call H_thing_of (hr.mono (by walk_at "rm")) (by rfl) pass0 (pa_cons (fe_var 0) (pa_cons (fe_var 2) pa_nil))) (pa_cons (pe_glob (v := .ref c.Kin) (by rfl) T.mg_Kin rfl) pa_nil))))) (pss_one (fs_raise rfl tk_of E_ScriptError (by decide) (hr.mono (by walk_at "rm")) (by rfl) (pa_cons pe_str (pa_cons pe_str pa_nil)))) pss_nil)
      (pss_cons (ps_set (i := 3) Sc.nd rfl (.inl rfl) (fe_call H_thing_of (hr.mono (by walk_at "rm")) (by rfl) pass0 (pa_cons (fe_var 0) (pa_cons (fe_var 1) pa_nil))))
      (pss_one (ps_ret (pe_and (pe_callB (call_fIsiO T.kit) (by rfl) T.no_isinstance (by decide +kernel) (pa_cons (fe_var 3) (pa_cons (pe_glob (v := .ref c.Instance) (by rfl) T.mg_Instance rfl) pa_nil))) (pe_one (fe_call H_is_below (hr.mono (by walk_at "rm")) (by rfl) pass0 (pa_cons (fe_var 0) (pa_cons (fe_fld (fe_var 3) T.pl_owner rfl) (pa_cons (fe_var 2) pa_nil)))))))))), ?_⟩
      walk_at "fx0"
      simp only [tSeq]
      refine cut_ fun N hN => ?_
      repeat (walk_at "oxs")
      refine ⟨x, S, ry, rfl, hS, hy, wy.wf, fun tv h1 h2 h3 => ?_⟩
      repeat (walk_at "oxs")
      have tk : tyB c.Kin (tyR c S ry) = (kinN S ry).isSome := ty_kin T wy.wf
      have tn : tyB c.Instance (tyR c S rx) = (instO S rx).isSome := ty_inst T wx.wf
      refine ⟨tyR c S ry, h1, ty_okO wy.wf, ?_⟩
      refine if_f (kinN S ry).isSome tk (fun q => ?_) fun q => ?_
      · have ek : kinN S ry = none := by cases z : kinN S ry; rfl; rw [z] at q; cases q
        simp only [isR, ek] at h
        exact h
      · obtain ⟨m, ek⟩ := Option.isSome_iff_exists.mp q
        obtain ⟨rfl, nm, pp, ms, et⟩ := kin_at ek
        simp only [isR, ek] at h
        obtain ⟨b, rfl, hb⟩ := id hy
        refine hN _ _ ?_
        clear hN N
        simp only [tSeq]
        refine cut_ fun N hN => ?_
        repeat (walk_at "oxs")
        refine ⟨x, S, rx, rfl, hS, hx, wx.wf, fun tv2 g1 g2 g3 => hN _ _ ?_⟩
        clear hN N
        repeat (walk_at "oxs")
        refine ⟨tyR c S rx, g1, ty_okO wx.wf, ?_⟩
        refine if_t (instO S rx).isSome tn (fun q2 => ?_) fun q2 => ?_
        · have ei : instO S rx = none := by cases z : instO S rx; rfl; rw [z] at q2; cases q2
          simp only [ei] at h
          exact h
        · obtain ⟨o, ei⟩ := Option.isSome_iff_exists.mp q2
          obtain ⟨n, fs, rfl, en⟩ := inst_at ei
          obtain ⟨a, b2, rfl, ea, hT⟩ := g2 n _ rfl en
          obtain ⟨dx, ra, nd, kvs, rfl, e1, e2, e3, e4⟩ := hT
          simp only [ei] at h
          repeat (first | walk_at "oxs" | simp only [e1])
          exact ⟨x, S, o, m, ancOf S o, rfl, hS, e2, hb, anc_of (ok.an o (ok.ow n o fs en)), h⟩
    · cases h
def negM (rx : RV) (F : Int → Prop) (G : Prop) : Prop := match rx with
  | .num n => F n
  | _ => G
theorem neg_out {rx : RV} {F : Int → Prop} {G : Prop} (q : isN rx = false) (z : G) : negM rx F G := by cases rx <;> first | exact z | cases q
def spUnO (w : World) (c : Cs) : Sp := fun vs H Q E => match vs with
  | [.ref y, .str z, vx] => z = "-" ∧ ∃ x S rx, y = x.y ∧ Sto w c H x S ∧ IsVal c H vx rx ∧ WfR S rx ∧ negM rx (fun n => Q (.int (-n)) H) (OutS c H "KindError" ("" ++ "cannot negate " ++ kindR S rx) E)
  | _ => False
theorem ok_unO (A : At K mg "unary" "unary" s_unary ["store", "operator", "x"]) (T : Txt K mg c) (H_is_integer : Has P w K mg base CX0 "is_integer" 1 ["value"] (spIsInt c)) (H_kind_of : Has P w K mg base CX0 "kind_of" 3 ["store", "value"] (spKind w c)) (E_ScriptError : HasE P w K mg base c.ScriptError "ScriptError" 2 (two "kind" "message")) : Has P w K mg base (L2.CX P w) "unary" 5 ["store", "operator", "x"] (spUnO w c) := by
  have Sc := sc_unary
  refine hasX_of A Sc (fun vs H Q E h => ?_) (fun cdv f A outer s H vs Q E hr h => ?_)
  · unfold spUnO at h; split at h; rfl; cases h
  · unfold spUnO at h
    split at h
    · rename_i y z vx
      obtain ⟨rfl, x, S, rx, rfl, hS, hx, wx, h⟩ := h
      refine ⟨_, (pss_cons (ps_if (pt_cmpR (op_fEq hr.units) (fe_var 1) pe_str (nomark _)) (pss_one (ps_ret (pe_not pe_dead))) pss_nil)
      (pss_cons (ps_if (pt_not (pt_val (fe_call H_is_integer (hr.mono (by walk_at "rm")) (by rfl) pass0 (pa_cons (fe_var 2) pa_nil)))) (pss_one (fs_raise rfl tk_of E_ScriptError (by decide) (hr.mono (by walk_at "rm")) (by rfl) (pa_cons pe_str (pa_cons (fe_joined (pf_cons pe_str (pf_cons (fe_fmt (fe_call H_kind_of (hr.mono (by walk_at "rm")) (by rfl) pass0 (pa_cons (fe_var 0) (pa_cons (fe_var 2) pa_nil)))) PF_nil))) pa_nil)))) pss_nil)
      (pss_one (ps_ret (pe_un un_fNeg (fe_var 2)))))), ?_⟩
      walk_at "fx0"
      have k1 := kindR_len (S := S) (r := rx)
      have a0 : Str.length Str.empty = 0 := rfl
      have a1 : Str.length (Str.ofString "cannot negate ") = 14 := rfl
      repeat (first | walk_at "oxs" | simp only [opne])
      refine ⟨rx, hx, ?_⟩
      rw [isN_def]
      cases q : isN rx with
      | true =>
        cases rx with
        | num n => cases hx; repeat (walk_at "oxs"); exact h
        | _ => cases q
      | false =>
        have h : OutS c H "KindError" ("" ++ "cannot negate " ++ kindR S rx) E := by cases rx <;> first | exact h | cases q
        repeat (walk_at "oxs")
        refine ⟨by decide, x, S, rx, rfl, hS, hx, wx, ?_⟩
        repeat (walk_at "oxs")
        exact ⟨by rw [sizeLine_eq]; omega, by simp only [Str.length_append, a0, a1, sizeLine_eq]; omega, h⟩
    · cases h
def spAddO (w : World) (c : Cs) : Sp := fun vs H Q E => match vs with
  | [.ref y, vx, vy] => ∃ x S rx ry, y = x.y ∧ Sto w c H x S ∧ OkB S ∧ S.things.length < 99999 ∧ IsVal c H vx rx ∧ IsVal c H vy ry ∧ VR S rx ∧ VR S ry ∧ ¬ (isN rx = true ∧ isN ry = true) ∧ resB w c H x S (addR S rx ry) Q E
  | _ => False
set_option maxHeartbeats 4000000 in
theorem ok_addO (A : At K mg "added" "added" s_added ["store", "x", "y"]) (T : Txt K mg c) (H_is_integer : Has P w K mg base CX0 "is_integer" 1 ["value"] (spIsInt c)) (H_thing_of : Has P w K mg base CX0 "thing_of" 2 ["store", "value"] (spThing w c)) (H_kind_of : Has P w K mg base CX0 "kind_of" 3 ["store", "value"] (spKind w c)) (H_fitting_text : Has P w K mg base (L2.CX P w) "fitting_text" 3 ["text"] (spFit c)) (H_make_list : Has P w K mg base (L2.CX P w) "make_list" 4 ["store", "values"] (spMkL2 w c)) (E_ScriptError : HasE P w K mg base c.ScriptError "ScriptError" 2 (two "kind" "message")) : Has P w K mg base (L2.CX P w) "added" 5 ["store", "x", "y"] (spAddO w c) := by
  have Sc := sc_added
  refine hasX_of A Sc (fun vs H Q E h => ?_) (fun cdv f A outer s H vs Q E hr h => ?_)
  · unfold spAddO at h; split at h; rfl; cases h
  · unfold spAddO at h
    split at h
    · rename_i y vx vy
      obtain ⟨x, S, rx, ry, rfl, hS, ok, hl, hx, hy, wx, wy, nb, h⟩ := h
      refine ⟨_, (pss_cons (ps_if (PW.pt (pw_and (pt_val (fe_call H_is_integer (hr.mono (by walk_at "rm")) (by rfl) pass0 (pa_cons (fe_var 1) pa_nil))) (pw_and1 (pt_val (fe_call H_is_integer (hr.mono (by walk_at "rm")) (by rfl) pass0 (pa_cons (fe_var 2) pa_nil)))))) (pss_one (ps_ret pe_dead)) pss_nil)
      (pss_cons (ps_if (PW.pt (pw_and (pt_val (pe_callB (call_fIsiA T.kit) (by rfl) T.no_isinstance (by decide +kernel) (pa_cons (fe_var 1) (pa_cons (fe_ty (n := "str") (by rfl) T.no_str (by decide +kernel)) pa_nil)))) (pw_and1 (pt_val (pe_callB (call_fIsiA T.kit) (by rfl) T.no_isinstance (by decide +kernel) (pa_cons (fe_var 2) (pa_cons (fe_ty (n := "str") (by rfl) T.no_str (by decide +kernel)) pa_nil))))))) (pss_one (ps_ret (fe_callX H_fitting_text (hr.mono (by walk_at "rm")) (by rfl) tk_of (pa_cons (pe_op op_fAdd (fe_var 1) (fe_var 2)) pa_nil)))) pss_nil)
      (pss_cons (ps_set (i := 3) Sc.nd rfl (.inl rfl) (fe_call H_thing_of (hr.mono (by walk_at "rm")) (by rfl) pass0 (pa_cons (fe_var 0) (pa_cons (fe_var 1) pa_nil))))
      (pss_cons (ps_set (i := 4) Sc.nd rfl (.inl rfl) (fe_call H_thing_of (hr.mono (by walk_at "rm")) (by rfl) pass0 (pa_cons (fe_var 0) (pa_cons (fe_var 2) pa_nil))))
      (pss_cons (ps_if (PW.pt (pw_or (pt_not (pt_val (pe_callB (call_fIsiO T.kit) (by rfl) T.no_isinstance (by decide +kernel) (pa_cons (fe_var 3) (pa_cons (pe_glob (v := .ref c.Parts) (by rfl) T.mg_Parts rfl) pa_nil))))) (pw_or1 (pt_not (pt_val (pe_callB (call_fIsiO T.kit) (by rfl) T.no_isinstance (by decide +kernel) (pa_cons (fe_var 4) (pa_cons (pe_glob (v := .ref c.Parts) (by rfl) T.mg_Parts rfl) pa_nil)))))))) (pss_one (fs_raise rfl tk_of E_ScriptError (by decide) (hr.mono (by walk_at "rm")) (by rfl) (pa_cons pe_str (pa_cons (fe_joined (pf_cons pe_str (pf_cons (fe_fmt (fe_call H_kind_of (hr.mono (by walk_at "rm")) (by rfl) pass0 (pa_cons (fe_var 0) (pa_cons (fe_var 1) pa_nil)))) (pf_cons pe_str (pf_cons (fe_fmt (fe_call H_kind_of (hr.mono (by walk_at "rm")) (by rfl) pass0 (pa_cons (fe_var 0) (pa_cons (fe_var 2) pa_nil)))) PF_nil))))) pa_nil)))) pss_nil)
      (pss_one (ps_ret (fe_callX H_make_list (hr.mono (by walk_at "rm")) (by rfl) tk_of (pa_cons (fe_var 0) (pa_cons (pe_op op_fAdd (fe_fld (fe_var 3) T.pl_held rfl) (fe_fld (fe_var 4) T.pl_held rfl)) pa_nil)))))))))), ?_⟩
      walk_at "fx0"
      have k1 := kindR_len (S := S) (r := rx)
      have k2 := kindR_len (S := S) (r := ry)
      have a0 : Str.length Str.empty = 0 := rfl
      have a1 : Str.length (Str.ofString "cannot add ") = 11 := rfl
      have a3 : Str.length (Str.ofString " and ") = 5 := rfl
      have ny : isN rx = true → isN ry = false := fun q1 => by cases q2 : isN ry; rfl; exact absurd ⟨q1, q2⟩ nb
      have t1 : tyB c.Parts (tyR c S rx) = (partsR S rx).isSome := ty_parts T wx.wf
      have t2 : tyB c.Parts (tyR c S ry) = (partsR S ry).isSome := ty_parts T wy.wf
      simp only [tSeq]
      refine cut_ fun N hN => ?_
      have go : N [some (.ref x.y), some vx, some vy, none, none] H := by
        refine hN _ _ ?_
        clear hN N
        simp only [tSeq]
        refine cut_ fun N hN => ?_
        have go : (¬ ∃ a b, rx = .txt a ∧ ry = .txt b) → N [some (.ref x.y), some vx, some vy, none, none] H := fun nt => by
          have eA : addR S rx ry = (match partsR S rx, partsR S ry with
            | some r1, some r2 => if r1.length + r2.length ≤ 1000 then .mk (r1 ++ r2) else .err "SizeError" "too large"
            | _, _ => addE S rx ry) := by
            unfold addR
            split
            · exact absurd ⟨_, _, rfl, rfl⟩ nt
            · rfl
          rw [eA] at h
          refine hN _ _ ?_
          clear hN N
          simp only [tSeq]
          refine cut_ fun N hN => ?_
          repeat (walk_at "oxs")
          refine ⟨x, S, rx, rfl, hS, hx, wx.wf, fun tv1 f1 f2 f3 => hN _ _ ?_⟩
          clear hN N
          simp only [tSeq]
          refine cut_ fun N hN => ?_
          repeat (walk_at "oxs")
          refine ⟨x, S, ry, rfl, hS, hy, wy.wf, fun tv2 g1 g2 g3 => hN _ _ ?_⟩
          clear hN N
          simp only [tSeq]
          refine cut_ fun N hN => ?_
          repeat (walk_at "oxs")
          refine ⟨tyR c S rx, f1, ty_okO wx.wf, ?_⟩
          have bad : (partsR S rx = none ∨ partsR S ry = none) → OutS c H "KindError" ("" ++ "cannot add " ++ kindR S rx ++ " and " ++ kindR S ry) E := fun q => by
            rcases q with q | q
            · simp only [q] at h; exact h
            · cases q1 : partsR S rx <;> (simp only [q, q1] at h; exact h)
          refine if_f (partsR S rx).isSome t1 (fun q => ?_) fun q => ?_
          · have h := bad (.inl (by cases z : partsR S rx; rfl; rw [z] at q; cases q))
            refine ⟨by decide, x, S, rx, rfl, hS, hx, wx.wf, ?_⟩
            repeat (walk_at "oxs")
            refine ⟨by rw [sizeLine_eq]; omega, by simp only [Str.length_append, a0, a1, sizeLine_eq]; omega, by simp only [Str.length_append, a0, a1, a3, sizeLine_eq]; omega, x, S, ry, rfl, hS, hy, wy.wf, ?_⟩
            repeat (walk_at "oxs")
            exact ⟨by rw [sizeLine_eq]; omega, by simp only [Str.length_append, a0, a1, a3, sizeLine_eq]; omega, h⟩
          · obtain ⟨r1, p1⟩ := Option.isSome_iff_exists.mp q
            refine ⟨tyR c S ry, g1, ty_okO wy.wf, ?_⟩
            refine if_f (partsR S ry).isSome t2 (fun q => ?_) fun q => ?_
            · have h := bad (.inr (by cases z : partsR S ry; rfl; rw [z] at q; cases q))
              refine ⟨by decide, x, S, rx, rfl, hS, hx, wx.wf, ?_⟩
              repeat (walk_at "oxs")
              refine ⟨by rw [sizeLine_eq]; omega, by simp only [Str.length_append, a0, a1, sizeLine_eq]; omega, by simp only [Str.length_append, a0, a1, a3, sizeLine_eq]; omega, x, S, ry, rfl, hS, hy, wy.wf, ?_⟩
              repeat (walk_at "oxs")
              exact ⟨by rw [sizeLine_eq]; omega, by simp only [Str.length_append, a0, a1, a3, sizeLine_eq]; omega, h⟩
            · obtain ⟨r2, p2⟩ := Option.isSome_iff_exists.mp q
              refine hN _ _ ?_
              clear hN N
              clear bad
              obtain ⟨n1, rfl, en1⟩ := parts_at p1
              obtain ⟨n2, rfl, en2⟩ := parts_at p2
              obtain ⟨a1', b1, rfl, ea1, hT1⟩ := f2 n1 _ rfl en1
              obtain ⟨a2', b2, rfl, ea2, hT2⟩ := g2 n2 _ rfl en2
              obtain ⟨dx1, l1, xs1, rfl, e11, e12, e13⟩ := hT1
              obtain ⟨dx2, l2, xs2, rfl, e21, e22, e23⟩ := hT2
              simp only [p1, p2] at h
              have u1 := ok.pt _ _ en1
              have u2 := ok.pt _ _ en2
              have w1 := Paired.length e13
              have w2 := Paired.length e23
              repeat (first | walk_at "oxs" | simp only [e11] | simp only [e21] | simp only [e12] | simp only [e22])
              refine ⟨by rw [sizeLine_eq]; omega, fun p H1 np s1 ep => ?_⟩
              refine ⟨x, S, xs1 ++ xs2, r1 ++ r2, rfl, hS.same s1, ep, VsAt.hs (VsAt.append e13 e23) (.same s1), by rw [List.length_append]; omega, hl, ?_⟩
              rw [List.length_append, w1, w2]
              by_cases z : r1.length + r2.length ≤ 1000
              · rw [if_pos z] at h ⊢
                exact NewTh.same h s1
              · rw [if_neg z] at h ⊢
                exact OutS.same h s1
        repeat (walk_at "oxs")
        cases rx with
        | txt a =>
          obtain rfl : vx = .str a := hx
          repeat (walk_at "oxs")
          cases ry with
          | txt b =>
            obtain rfl : vy = .str b := hy
            repeat (walk_at "oxs")
            have la := wx.tx a rfl
            have lb := wy.tx b rfl
            refine ⟨by rw [sizeLine_eq]; omega, by rw [Str.length_append]; omega, ?_⟩
            have h : resB w c H x S (if (a ++ b).length ≤ 1000 then .val (.txt (a ++ b)) else .err "SizeError" "too large") Q E := h
            by_cases z : (a ++ b).length ≤ 1000
            · rw [if_pos z] at h ⊢; exact h
            · rw [if_neg z] at h ⊢; exact h
          | ob n =>
            obtain ⟨p, rfl, dx, e1⟩ := id hy
            repeat (first | walk_at "oxs" | simp only [e1])
            exact go fun ⟨_, _, _, z⟩ => by cases z
          | bt n =>
            obtain ⟨p, rfl, dx, e1⟩ := id hy
            repeat (first | walk_at "oxs" | simp only [e1])
            exact go fun ⟨_, _, _, z⟩ => by cases z
          | nul => obtain rfl : vy = _ := hy; repeat (walk_at "oxs"); exact go fun ⟨_, _, _, z⟩ => by cases z
          | boo b => obtain rfl : vy = _ := hy; repeat (walk_at "oxs"); exact go fun ⟨_, _, _, z⟩ => by cases z
          | num b => obtain rfl : vy = _ := hy; repeat (walk_at "oxs"); exact go fun ⟨_, _, _, z⟩ => by cases z
        | ob n =>
          obtain ⟨p, rfl, dx, e1⟩ := id hx
          repeat (first | walk_at "oxs" | simp only [e1])
          exact go fun ⟨_, _, z, _⟩ => by cases z
        | bt n =>
          obtain ⟨p, rfl, dx, e1⟩ := id hx
          repeat (first | walk_at "oxs" | simp only [e1])
          exact go fun ⟨_, _, z, _⟩ => by cases z
        | nul => obtain rfl : vx = _ := hx; repeat (walk_at "oxs"); exact go fun ⟨_, _, z, _⟩ => by cases z
        | boo b => obtain rfl : vx = _ := hx; repeat (walk_at "oxs"); exact go fun ⟨_, _, z, _⟩ => by cases z
        | num b => obtain rfl : vx = _ := hx; repeat (walk_at "oxs"); exact go fun ⟨_, _, z, _⟩ => by cases z
      repeat (walk_at "oxs")
      refine ⟨rx, hx, ?_⟩
      rw [isN_def]
      cases q1 : isN rx with
      | false => repeat (walk_at "oxs"); exact go
      | true =>
        repeat (walk_at "oxs")
        refine ⟨ry, hy, ?_⟩
        rw [isN_def, ny q1]
        repeat (walk_at "oxs")
        exact go
    · cases h

def spBinO (w : World) (c : Cs) : Sp := fun vs H Q E => match vs with
  | [.ref y, .str z, vx, vy] => ∃ x S rx ry o, y = x.y ∧ z = O9.s o ∧ Sto w c H x S ∧ OkB S ∧ S.things.length < 99999 ∧ IsVal c H vx rx ∧ IsVal c H vy ry ∧ VR S rx ∧ VR S ry ∧ ¬ (isN rx = true ∧ isN ry = true) ∧ resB w c H x S (binR S rx ry o) Q E
  | _ => False
theorem ok_binO (A : At K mg "binary" "binary" s_binary ["store", "operator", "x", "y"]) (T : Txt K mg c) (TD : TxD w K mg) (H_is_of : Has P w K mg base (L2.CX P w) "is_of" 4 ["store", "x", "y"] (spIsOf w c)) (H_added : Has P w K mg base (L2.CX P w) "added" 5 ["store", "x", "y"] (spAddO w c)) (H_reckoned : Has P w K mg base (L2.CX P w) "reckoned" 5 ["store", "operator", "x", "y"] (spReckO w c)) (H_compared : Has P w K mg base (L2.CX P w) "compared" 5 ["store", "operator", "x", "y"] (spCmpO w c)) : Has P w K mg base (L2.CX P w) "binary" 6 ["store", "operator", "x", "y"] (spBinO w c) := by
  have Sc := sc_binary
  refine hasX_of A Sc (fun vs H Q E h => ?_) (fun cdv f A outer s H vs Q E hr h => ?_)
  · unfold spBinO at h; split at h; rfl; cases h
  · unfold spBinO at h
    split at h
    · rename_i y z vx vy
      obtain ⟨x, S, rx, ry, o, rfl, rfl, hS, ok, hl, hx, hy, wx, wy, nb, h⟩ := h
      refine ⟨_, (pss_cons (ps_if (pt_cmpR (op_fEq hr.units) (fe_var 1) pe_str (nomark _)) (pss_one (ps_ret pe_dead)) pss_nil)
      (pss_cons (ps_if (pt_cmpR (op_fEq hr.units) (fe_var 1) pe_str (nomark _)) (pss_one (ps_ret (pe_not pe_dead))) pss_nil)
      (pss_cons (ps_if (pt_cmpR (op_fEq hr.units) (fe_var 1) pe_str (nomark _)) (pss_one (ps_ret (fe_callX H_is_of (hr.mono (by walk_at "rm")) (by rfl) tk_of (pa_cons (fe_var 0) (pa_cons (fe_var 2) (pa_cons (fe_var 3) pa_nil)))))) pss_nil)
      (pss_cons (ps_if (pt_cmpR (op_fEq hr.units) (fe_var 1) pe_str (nomark _)) (pss_one (ps_ret (fe_callX H_added (hr.mono (by walk_at "rm")) (by rfl) tk_of (pa_cons (fe_var 0) (pa_cons (fe_var 2) (pa_cons (fe_var 3) pa_nil)))))) pss_nil)
      (pss_cons (ps_if (pt_cmpR op_fInD (fe_var 1) (fe_gdict (by rfl) TD.d_VERBS) (by with_unfolding_all rfl)) (pss_one (ps_ret (fe_callX H_reckoned (hr.mono (by walk_at "rm")) (by rfl) tk_of (pa_cons (fe_var 0) (pa_cons (fe_var 1) (pa_cons (fe_var 2) (pa_cons (fe_var 3) pa_nil))))))) pss_nil)
      (pss_one (ps_ret (fe_callX H_compared (hr.mono (by walk_at "rm")) (by rfl) tk_of (pa_cons (fe_var 0) (pa_cons (fe_var 1) (pa_cons (fe_var 2) (pa_cons (fe_var 3) pa_nil)))))))))))), ?_⟩
      walk_at "fx0"
      cases o
      all_goals
        simp only [O9.s, opne]
        repeat (first | walk_at "oxs" | simp only [opne])
        first
          | exact ⟨x, S, rx, ry, rfl, hS, ok, hx, hy, wx, wy, h⟩
          | exact ⟨x, S, rx, ry, rfl, hS, ok, hl, hx, hy, wx, wy, nb, h⟩
          | (intro d D
             refine ⟨_, D, _, rfl, ?_⟩
             repeat (walk_at "oxs")
             first
               | exact ⟨x, S, rx, ry, _, rfl, hS, hx, hy, wx.wf, wy.wf, nb, by decide, h⟩
               | exact ⟨x, S, rx, ry, .sub, rfl, hS, hx, hy, wx, wy, nb, rfl, rfl, h⟩
               | exact ⟨x, S, rx, ry, .lt, rfl, hS, hx, hy, wx, wy, nb, rfl, rfl, h⟩
               | exact ⟨x, S, rx, ry, .le, rfl, hS, hx, hy, wx, wy, nb, rfl, rfl, h⟩
               | exact ⟨x, S, rx, ry, .gt, rfl, hS, hx, hy, wx, wy, nb, rfl, rfl, h⟩
               | exact ⟨x, S, rx, ry, .ge, rfl, hS, hx, hy, wx, wy, nb, rfl, rfl, h⟩)
    · cases h
end

section
variable {P : Program} {w : World} {K : PySem.W.Frag} {mg : Str → Option Value} {base : Heap} {c : Cs}
/-! ### the law's own functions -/
theorem rep_size {α : Type} (a : Array α) : ∀ (n : Nat) (b : Array α), ((List.replicate n a).foldl (· ++ ·) b).size = b.size + n * a.size
  | 0, b => by simp
  | n + 1, b => by
    rw [List.replicate_succ, List.foldl_cons, rep_size a n, Array.size_append, Nat.succ_mul]
    omega
theorem mul_one_len {x : Str} {n : Nat} (hx : x.length = 1) (h0 : 500 ≤ n) (h1 : n ≤ 999) : MulOk x (n : Nat) ∧ (Txt.mul x (n : Nat)).length ≤ 999 := by
  have n1 : ¬ ((n : Int) < 1) := by omega
  have n2 : ((n : Int) == 1 || x.length == 0) = false := by
    rw [hx]
    have : ((n : Int) == 1) = false := by simpa using (by omega : ¬ ((n : Int) = 1))
    rw [this]; rfl
  refine ⟨⟨by simp; omega, fun _ _ => ?_, fun _ _ => ?_⟩, ?_⟩
  · rw [hx]
    have : (1 : Int) ≤ (2 ^ 63 - 1) / (n : Int) := Int.le_ediv_of_mul_le (by omega) (by omega)
    omega
  · rw [hx, Nat.one_mul, Int.toNat_natCast]
    unfold Builtin.Str.tooLong
    have e := sizeLine_eq
    simp
    omega
  · unfold Txt.mul
    rw [if_neg n1, n2, if_neg (by simp), Int.toNat_natCast]
    show ((List.replicate n x.cps).foldl (· ++ ·) #[]).size ≤ 999
    have e : x.cps.size = 1 := hx
    rw [rep_size, e]
    simp
    exact h1
def spLText (K : PySem.W.Frag) : Sp := fun vs H Q _ => match vs with
  | [.ref s] => ∃ H0 sc ns, Dr K H0 s sc ns H ∧ ∀ H1 z, Keep [s] H H1 → Dr K H0 s sc ns H1 → Str.length z ≤ 999 → Q (.str z) H1
  | _ => False
theorem Dr.ne {H0 H : Hp} {s sc q : Addr} {ns : List Int} (D : Dr K H0 s sc ns H) (n : H q = none) : q ≠ s := fun z => by
  obtain ⟨a, k, e, _⟩ := D.st
  rw [z, e] at n; cases n
theorem ok_ltext (A : At K mg "_law_text" "_law_text" s_law_text ["state"]) (T : Txt K mg c) (H_law_draw : Has P w K mg base CX0 "_law_draw" 2 ["state", "many"] (spDraw K)) (H_law_pick : Has P w K mg base CX0 "_law_pick" 3 ["state", "row"] (spPick2 K)) : Has P w K mg base CX0 "_law_text" 4 ["state"] (spLText K) := by
  have Sc := sc_law_text
  refine has_of A Sc (fun vs H Q E h => ?_) (fun cdv f A outer s H vs Q E hr h => ?_)
  · unfold spLText at h; split at h; rfl; cases h
  · unfold spLText at h
    split at h
    · rename_i st
      obtain ⟨H0, sc, ns, D, h⟩ := h
      refine ⟨_, (pss_cons (ps_set (i := 1) Sc.nd rfl (.inl rfl) pe_str)
      (pss_cons (ps_set (i := 2) Sc.nd rfl (.inl rfl) (fe_call H_law_pick (hr.mono (by walk_at "rm")) (by rfl) pass0 (pa_cons (fe_var 0) (pa_cons (fe_tup (pa_cons pe_int (pa_cons pe_int (pa_cons pe_int (pa_cons pe_int pa_nil))))) pa_nil))))
      (pss_cons (ps_if (pt_cmpR (op_fEq hr.units) (fe_call H_law_draw (hr.mono (by walk_at "rm")) (by rfl) pass0 (pa_cons (fe_var 0) (pa_cons pe_int pa_nil))) pe_int (nomark _)) (pss_cons (ps_set (i := 2) Sc.nd rfl (.inl rfl) (pe_op op_fAdd pe_int (fe_call H_law_draw (hr.mono (by walk_at "rm")) (by rfl) pass0 (pa_cons (fe_var 0) (pa_cons pe_int pa_nil)))))
      (pss_one (ps_ret (pe_op op_fMul (fe_call H_law_pick (hr.mono (by walk_at "rm")) (by rfl) pass0 (pa_cons (fe_var 0) (pa_cons (fe_tup (pa_cons pe_str (pa_cons pe_str (pa_cons pe_str pa_nil)))) pa_nil))) (fe_var 2))))) pss_nil)
      (pss_cons (ps_set (i := 3) Sc.nd rfl (.inl rfl) pe_str)
      (pss_cons (ps_for PassesOwn.never rfl (pi_range1 (by rfl) T.no_range (pa_cons (fe_var 2) pa_nil)) (pg_name (i := 4) Sc.nd rfl (.inl rfl)) (pss_one (ps_set (i := 3) Sc.nd rfl (.inl rfl) (pe_op op_fAdd (fe_var 3) (pe_ix ix_fx (fe_var 1) (fe_call H_law_draw (hr.mono (by walk_at "rm")) (by rfl) pass0 (pa_cons (fe_var 0) (pa_cons (pe_callB call_fLen (by rfl) T.no_len (by decide +kernel) (pa_cons (fe_var 1) pa_nil)) pa_nil))) (fun _ _ => rfl))))))
      (pss_one (ps_ret (fe_var 3)))))))), ?_⟩
      walk_at "fx0"
      have el : Str.length (Str.ofString "abcXYZ 019_~!\n") = 14 := rfl
      repeat (walk_at "oxs")
      intro p H2 np s2 ep
      have nps := D.ne np
      refine ⟨H0, sc, ns, _, D.same s2, fun H3 k3 => rl_t (k3 _ _ (by simpa using nps) ep), by simp, by simp, fun H3 v k3 D3 hv => ?_⟩
      have k03 : Keep [st] H H3 := (Keep.of s2).trans k3
      have hm : ∃ m : Nat, v = .int (m : Nat) ∧ m ≤ 12 := by
        simp only [List.mem_cons, List.not_mem_nil, or_false] at hv
        rcases hv with rfl | rfl | rfl | rfl
        · exact ⟨0, rfl, by omega⟩
        · exact ⟨1, rfl, by omega⟩
        · exact ⟨3, rfl, by omega⟩
        · exact ⟨12, rfl, by omega⟩
      obtain ⟨m, rfl, hm⟩ := hm
      refine ⟨H0, sc, ns, D3, by omega, by omega, fun H4 d k4 D4 d0 d1 => ?_⟩
      have k04 := k03.trans k4
      repeat (walk_at "oxs")
      split
      · refine ⟨H0, sc, ns, D4, by omega, by omega, fun H5 d5 k5 D5 e0 e1 => ?_⟩
        repeat (walk_at "oxs")
        intro p6 H6 np6 s6 ep6
        have nps6 := D5.ne np6
        refine ⟨H0, sc, ns, _, D5.same s6, fun H7 k7 => rl_t (k7 _ _ (by simpa using nps6) ep6), by simp, by simp, fun H7 u k7 D7 hu => ?_⟩
        have k07 := ((k04.trans k5).trans (Keep.of s6)).trans k7
        obtain ⟨n, rfl⟩ := Int.eq_ofNat_of_zero_le e0
        have e5 : (500 : Int) + (n : Nat) = ((500 + n : Nat) : Int) := by omega
        have fin : ∀ z : Str, z.length = 1 → MulOk z (500 + (n : Nat)) ∧ Q (.str (Txt.mul z (500 + (n : Nat)))) H7 := fun z hz => by
          rw [e5]
          have q := mul_one_len (x := z) (n := 500 + n) hz (by omega) (by omega)
          exact ⟨q.1, h H7 _ k07 D7 q.2⟩
        simp only [List.mem_cons, List.not_mem_nil, or_false] at hu
        rcases hu with rfl | rfl | rfl
        · exact fin _ rfl
        · exact fin _ rfl
        · exact fin _ rfl
      · refine for_ ?_
        repeat (walk_at "oxs")
        refine ⟨by omega, by omega, ?_⟩
        refine loop_range (fun i σ H' => Keep [st] H H' ∧ Dr K H0 st sc ns H' ∧ ∃ (z : Str) (v5 : Option V), z.length = i ∧ σ = [some (.ref st), some (.str (Str.ofString "abcXYZ 019_~!\n")), some (.int (m : Nat)), some (.str z), v5]) ⟨k04, D4, Str.ofString "", none, rfl, rfl⟩ ?_ ?_
        · rintro i σ H5 hi ⟨k5, D5, z, v5, hz, rfl⟩
          repeat (walk_at "oxs")
          refine ⟨by rw [el, sizeLine_eq]; decide, ?_⟩
          refine ⟨H0, sc, ns, D5, by rw [el]; decide, by rw [el]; decide, fun H6 d6 k6 D6 f0 f1 => ?_⟩
          rw [el] at f1
          obtain ⟨n, rfl⟩ := Int.eq_ofNat_of_zero_le f0
          have ec : (Str.ofString "abcXYZ 019_~!\n").cps.toList[n]? = some (Str.ofString "abcXYZ 019_~!\n").cps.toList[n]! := by
            rw [List.getElem!_eq_getElem?_getD, List.getElem?_eq_getElem (by show n < 14; omega)]; rfl
          generalize (Str.ofString "abcXYZ 019_~!\n").cps.toList[n]! = ch at ec
          have l1 : ∀ ch : Nat, Str.length (⟨#[ch]⟩ : Str) = 1 := fun _ => rfl
          dsimp only
          refine ⟨by rw [el, sizeLine_eq]; decide, ch, atI_nat ec, by rw [l1, sizeLine_eq]; omega, k5.trans k6, D6, _, ?_, rfl, _, rfl⟩
          rw [Str.length_append, l1]; omega
        · rintro σ H5 ⟨k5, D5, z, v5, hz, rfl⟩
          repeat (walk_at "oxs")
          exact h H5 z k5 D5 (by omega)
    · cases h
def spLKind (w : World) (c : Cs) : Sp := fun vs H Q _ => match vs with
  | [.ref y, v] => ∃ x S r, y = x.y ∧ Sto w c H x S ∧ IsVal c H v r ∧ WfR S r ∧ Q (.str (kindR S r)) H
  | _ => False
theorem ok_lkind (A : At K mg "_law_kind" "_law_kind" s_law_kind ["store", "value"]) (T : Txt K mg c) (H_kind_of : Has P w K mg base CX0 "kind_of" 3 ["store", "value"] (spKind w c)) : Has P w K mg base CX0 "_law_kind" 4 ["store", "value"] (spLKind w c) := by
  have Sc := sc_law_kind
  refine has_of A Sc (fun vs H Q E h => ?_) (fun cdv f A outer s H vs Q E hr h => ?_)
  · unfold spLKind at h; split at h; rfl; cases h
  · unfold spLKind at h
    split at h
    · rename_i y v
      obtain ⟨x, S, r, rfl, hS, hv, hw, h⟩ := h
      refine ⟨_, (pss_cons (ps_if (pt_cmpR op_fIsN (fe_var 1) pe_non (nomark _)) (pss_one (ps_ret pe_str)) pss_nil)
      (pss_cons (ps_if (pt_val (pe_callB (call_fIsiA T.kit) (by rfl) T.no_isinstance (by decide +kernel) (pa_cons (fe_var 1) (pa_cons (fe_ty (n := "bool") (by rfl) T.no_bool (by decide +kernel)) pa_nil)))) (pss_one (ps_ret pe_str)) pss_nil)
      (pss_cons (ps_if (pt_val (pe_callB (call_fIsiA T.kit) (by rfl) T.no_isinstance (by decide +kernel) (pa_cons (fe_var 1) (pa_cons (fe_ty (n := "int") (by rfl) T.no_int (by decide +kernel)) pa_nil)))) (pss_one (ps_ret pe_str)) pss_nil)
      (pss_cons (ps_if (pt_val (pe_callB (call_fIsiA T.kit) (by rfl) T.no_isinstance (by decide +kernel) (pa_cons (fe_var 1) (pa_cons (fe_ty (n := "str") (by rfl) T.no_str (by decide +kernel)) pa_nil)))) (pss_one (ps_ret pe_str)) pss_nil)
      (pss_one (ps_ret (fe_call H_kind_of (hr.mono (by walk_at "rm")) (by rfl) pass0 (pa_cons (fe_var 0) (pa_cons (fe_var 1) pa_nil))))))))), ?_⟩
      walk_at "fx0"
      cases r with
      | ob n =>
        obtain ⟨a, rfl, dx, e1⟩ := id hv
        repeat (first | walk_at "oxs" | simp only [e1])
        exact ⟨x, S, .ob n, rfl, hS, hv, hw, h⟩
      | bt z =>
        obtain ⟨a, rfl, dx, e1⟩ := id hv
        repeat (first | walk_at "oxs" | simp only [e1])
        exact ⟨x, S, .bt z, rfl, hS, hv, hw, h⟩
      | _ => cases hv; repeat (walk_at "oxs"); exact h
    · cases h
def newT (xs : List V) (H : Hp) (Q : VK) : Prop := ∀ p H1, H p = none → Same H H1 → H1 p = some (.tup xs) → Q (.ref p) H1
theorem newT.same {xs : List V} {H H1 : Hp} {Q : VK} (h : newT xs H Q) (s : Same H H1) : newT xs H1 Q := fun p H2 np s2 e => h p H2 (s.free np) (s.trans s2) e
def resT (w : World) (c : Cs) (H : Hp) (x : SA) (S : SV) (R : BR) (Q : VK) : Prop := match R with
  | .val r => newT [.str "told", vOf r] H Q
  | .err k m => newT [.str "raised", .str k, .str m] H Q
  | .mk rs => NewTh w c H x S (.parts rs) (fun v H1 => newT [.str "told", v] H1 Q)
def spLTold (w : World) (c : Cs) : Sp := fun vs H Q _ => match vs with
  | [.ref y, .str z, vx, vy] => ∃ x S rx ry o, y = x.y ∧ z = O9.s o ∧ Sto w c H x S ∧ OkB S ∧ S.things.length < 99999 ∧ IsVal c H vx rx ∧ IsVal c H vy ry ∧ VR S rx ∧ VR S ry ∧ ¬ (isN rx = true ∧ isN ry = true) ∧ resT w c H x S (binR S rx ry o) Q
  | _ => False
theorem ok_ltold (A : At K mg "_law_told" "_law_told" s_law_told ["store", "operator", "x", "y"]) (T : Txt K mg c) (H_binary : Has P w K mg base (L2.CX P w) "binary" 6 ["store", "operator", "x", "y"] (spBinO w c)) : Has P w K mg base CX0 "_law_told" 7 ["store", "operator", "x", "y"] (spLTold w c) := by
  have Sc := sc_law_told
  refine has_of A Sc (fun vs H Q E h => ?_) (fun cdv f A outer s H vs Q E hr h => ?_)
  · unfold spLTold at h; split at h; rfl; cases h
  · unfold spLTold at h
    split at h
    · rename_i y z vx vy
      obtain ⟨x, S, rx, ry, o, rfl, rfl, hS, ok, hl, hx, hy, wx, wy, nb, h⟩ := h
      refine ⟨_, (pss_one (ps_try_as (i := 4) rfl rfl Sc.nd rfl rfl ⟨by rfl, by decide, .inl T.mg_ScriptError⟩ takes0
      (fun W0 _ _ tk0 po0 => (pss_one (ps_ret (fe_tup (pa_cons pe_str (pa_cons (fe_callX H_binary (hr.mono (by walk_at "rm")) (by rfl) tk0 (pa_cons (fe_var 0) (pa_cons (fe_var 1) (pa_cons (fe_var 2) (pa_cons (fe_var 3) pa_nil))))) pa_nil))))))
      (fun a0 oe0 cls0 d0 pn0 hz0 hf0 => (pss_one (ps_ret (fe_tup (pa_cons pe_str (pa_cons (fe_xf T.xpl_kind hz0 hf0 (fe_var 4) rfl) (pa_cons (fe_xf T.xpl_message hz0 hf0 (fe_var 4) rfl) pa_nil))))))))), ?_⟩
      walk_at "fx0"
      repeat (walk_at "oxs")
      refine ⟨x, S, rx, ry, o, rfl, rfl, hS, ok, hl, hx, hy, wx, wy, nb, ?_⟩
      revert h
      generalize binR S rx ry o = R
      intro h
      cases R with
      | val r =>
        unfold resB
        repeat (walk_at "oxs")
        exact h
      | mk rs =>
        intro r a b H1 nr nf k1 st hr1
        repeat (walk_at "oxs")
        exact h r a b H1 nr nf k1 st hr1
      | err k m =>
        intro d H3 nd s3 ed
        unfold WE wAs
        refine ⟨_, T.em_ScriptError_ScriptError, fun _ a0 na0 => ?_, fun z => by cases z⟩
        repeat (first | walk_at "oxs" | simp only [ed])
        exact newT.same h s3
    · cases h

structure SI (S : SV) (ps : List (Option Nat)) : Prop where
  kin : ∀ (j : Nat) (p : Option Nat), ps[j]? = some p → ∃ n ms, S.things[j]? = some (.kin n p ms)
  lo : ∀ (j k : Nat), ps[j]? = some (some k) → k < j
  on : ∀ (n : Nat) (t : Th), S.things[n]? = some t → match t with
    | .kin _ _ _ => n < ps.length
    | .inst o _ => o < ps.length
    | .parts rs => rs.length ≤ 1000 ∧ ∀ r ∈ rs, isN r = true
    | _ => True
theorem SI.isKin {S : SV} {ps : List (Option Nat)} (I : SI S ps) {n : Nat} (h : n < ps.length) : IsKin S n := by
  obtain ⟨a, ms, e⟩ := I.kin n _ (List.getElem?_eq_getElem h)
  exact ⟨a, _, ms, e⟩
theorem SI.anc {S : SV} {ps : List (Option Nat)} (I : SI S ps) : ∀ (f n : Nat), n < f → n < ps.length → ∃ l, Anc S n l ∧ l.length ≤ n + 1
  | 0, n, h, _ => absurd h (Nat.not_lt_zero n)
  | f + 1, n, hf, h => by
    have ep := List.getElem?_eq_getElem h
    obtain ⟨a, ms, e⟩ := I.kin n _ ep
    have hp : parentOf S n = ps[n] := by unfold parentOf; rw [e]
    cases q : ps[n] with
    | none => exact ⟨[n], .top ⟨a, _, ms, e⟩ (by rw [hp, q]), by simp⟩
    | some k =>
      rw [q] at ep
      have hk := I.lo n k ep
      obtain ⟨l, hl, hn⟩ := I.anc f k (by omega) (by omega)
      exact ⟨n :: l, .up ⟨a, _, ms, e⟩ (by rw [hp, q]) hl, by rw [List.length_cons]; omega⟩
theorem SI.ok {S : SV} {ps : List (Option Nat)} (I : SI S ps) : OkB S := by
  refine ⟨fun n rs e => (I.on n _ e).1, fun n ⟨a, p, ms, e⟩ => ?_, fun n o fs e => I.isKin (I.on n _ e)⟩
  obtain ⟨l, h, _⟩ := I.anc (n + 1) n (by omega) (I.on n _ e)
  exact ⟨l, h⟩
theorem SI.add {S : SV} {ps : List (Option Nat)} {t : Th} (I : SI S ps) (h : match t with
    | .kin _ _ _ => False
    | .inst o _ => o < ps.length
    | .parts rs => rs.length ≤ 1000 ∧ ∀ r ∈ rs, isN r = true
    | _ => True) : SI (S.add t) ps := by
  have up : ∀ {j : Nat} {u : Th}, S.things[j]? = some u → (S.add t).things[j]? = some u := fun {j u} e => by
    obtain ⟨hi, _⟩ := List.getElem?_eq_some_iff.mp e
    show (S.things ++ [t])[j]? = _
    rw [List.getElem?_append_left hi]; exact e
  refine ⟨fun j p e => (I.kin j p e).imp fun _ ⟨ms, e⟩ => ⟨ms, up e⟩, I.lo, fun n u e => ?_⟩
  have e : (S.things ++ [t])[n]? = some u := e
  by_cases hn : n < S.things.length
  · rw [List.getElem?_append_left hn] at e
    exact I.on n u e
  · rw [List.getElem?_append_right (by omega)] at e
    have z : n - S.things.length = 0 := by
      by_cases q : n - S.things.length = 0
      · exact q
      · rw [List.getElem?_eq_none (by show 1 ≤ _; omega)] at e; cases e
    rw [z] at e
    cases e
    cases t with
    | kin _ _ _ => exact h.elim
    | _ => exact h
theorem SI.addK {S : SV} {ps : List (Option Nat)} {p : Option Nat} {z : Str} (I : SI S ps) (hl : S.things.length = ps.length) (h : ∀ k, p = some k → k < ps.length) : SI (S.add (.kin z p [])) (ps ++ [p]) := by
  refine ⟨fun j q e => ?_, fun j k e => ?_, fun n u e => ?_⟩
  · by_cases hj : j < ps.length
    · rw [List.getElem?_append_left hj] at e
      obtain ⟨n, ms, e2⟩ := I.kin j q e
      refine ⟨n, ms, ?_⟩
      show (S.things ++ [_])[j]? = _
      rw [List.getElem?_append_left (by omega)]; exact e2
    · rw [List.getElem?_append_right (by omega)] at e
      have z0 : j - ps.length = 0 := by
        by_cases q : j - ps.length = 0
        · exact q
        · rw [List.getElem?_eq_none (by show 1 ≤ _; omega)] at e; cases e
      rw [z0] at e
      cases e
      refine ⟨z, [], ?_⟩
      show (S.things ++ [_])[j]? = _
      rw [List.getElem?_append_right (by omega), show j - S.things.length = 0 by omega]; rfl
  · by_cases hj : j < ps.length
    · rw [List.getElem?_append_left hj] at e
      exact I.lo j k e
    · rw [List.getElem?_append_right (by omega)] at e
      have z0 : j - ps.length = 0 := by
        by_cases q : j - ps.length = 0
        · exact q
        · rw [List.getElem?_eq_none (by show 1 ≤ _; omega)] at e; cases e
      rw [z0] at e
      have e : some p = some (some k) := e
      have := h k (Option.some.inj e)
      omega
  · have e : (S.things ++ [Th.kin z p []])[n]? = some u := e
    rw [List.length_append, List.length_singleton]
    by_cases hn : n < S.things.length
    · rw [List.getElem?_append_left hn] at e
      have := I.on n u e
      cases u with
      | kin _ _ _ => have this : n < ps.length := this; show n < ps.length + 1; omega
      | inst o fs => have this : o < ps.length := this; show o < ps.length + 1; omega
      | _ => exact this
    · rw [List.getElem?_append_right (by omega)] at e
      have z0 : n - S.things.length = 0 := by
        by_cases q : n - S.things.length = 0
        · exact q
        · rw [List.getElem?_eq_none (by show 1 ≤ _; omega)] at e; cases e
      rw [z0] at e
      cases e
      show n < ps.length + 1
      omega
theorem si0 : SI (st0 []) [none] := by
  refine ⟨fun j p e => ?_, fun j k e => ?_, fun n t e => ?_⟩
  · cases j with
    | zero => cases e; exact ⟨_, _, rfl⟩
    | succ j => cases e
  · cases j with
    | zero => cases e
    | succ j => cases e
  · cases n with
    | zero => cases e; exact (by decide : 0 < 1)
    | succ n => cases e
def spLVal (K : PySem.W.Frag) (w : World) (c : Cs) : Sp := fun vs H Q _ => match vs with
  | [.ref s, .ref y] => ∃ H0 sc ns x S G gf, y = x.y ∧ Wd K w c H0 s sc ns x S G gf H ∧ 0 < S.things.length ∧ S.things.length ≤ 1000 ∧ ∀ H1 v r, Keep [s] H H1 → Wd K w c H0 s sc ns x S G gf H1 → IsVal c H1 v r → VR S r → Q v H1
  | _ => False
theorem ok_lval (A : At K mg "_law_value" "_law_value" s_law_value ["state", "store"]) (T : Txt K mg c) (H_law_draw : Has P w K mg base CX0 "_law_draw" 2 ["state", "many"] (spDraw K)) (H_law_pick : Has P w K mg base CX0 "_law_pick" 3 ["state", "row"] (spPick2 K)) (H_law_text : Has P w K mg base CX0 "_law_text" 4 ["state"] (spLText K)) (M_Builtin : HasC P w K mg base CX0 c.Builtin "Builtin" 1 ["self", "name"] (spMk_Builtin K c)) (M_Ref : HasC P w K mg base CX0 c.Ref "Ref" 1 ["self", "number"] (spMk_Ref K c)) : Has P w K mg base CX0 "_law_value" 5 ["state", "store"] (spLVal K w c) := by
  have Sc := sc_law_value
  refine has_of A Sc (fun vs H Q E h => ?_) (fun cdv f A outer s H vs Q E hr h => ?_)
  · unfold spLVal at h; split at h; rfl; cases h
  · unfold spLVal at h
    split at h
    · rename_i st y
      obtain ⟨H0, sc, ns, x, S, G, gf, rfl, W, hs0, hs1, h⟩ := h
      refine ⟨_, (pss_cons (ps_set (i := 2) Sc.nd rfl (.inl rfl) (fe_call H_law_draw (hr.mono (by walk_at "rm")) (by rfl) pass0 (pa_cons (fe_var 0) (pa_cons pe_int pa_nil))))
      (pss_cons (ps_if (pt_cmpR (op_fEq hr.units) (fe_var 2) pe_int (nomark _)) (pss_one (ps_ret (fe_call H_law_pick (hr.mono (by walk_at "rm")) (by rfl) pass0 (pa_cons (fe_var 0) (pa_cons (fe_tup (pa_cons pe_non (pa_cons pe_bl (pa_cons pe_bl pa_nil)))) pa_nil))))) pss_nil)
      (pss_cons (ps_if (pt_cmpR (op_fEq hr.units) (fe_var 2) pe_int (nomark _)) (pss_one (ps_ret (fe_call H_law_draw (hr.mono (by walk_at "rm")) (by rfl) pass0 (pa_cons (fe_var 0) (pa_cons pe_int pa_nil))))) pss_nil)
      (pss_cons (ps_if (pt_cmpR op_fLt (fe_var 2) pe_int (nomark _)) (pss_one (ps_ret (fe_call H_law_text (hr.mono (by walk_at "rm")) (by rfl) pass0 (pa_cons (fe_var 0) pa_nil)))) pss_nil)
      (pss_cons (ps_if (pt_cmpR (op_fEq hr.units) (fe_var 2) pe_int (nomark _)) (pss_one (ps_ret (fe_make (k := _) M_Builtin (hr.mono (by walk_at "rm")) (by rfl) pass0 (pa_cons pe_str pa_nil)))) pss_nil)
      (pss_one (ps_ret (fe_make (k := _) M_Ref (hr.mono (by walk_at "rm")) (by rfl) pass0 (pa_cons (fe_call H_law_draw (hr.mono (by walk_at "rm")) (by rfl) pass0 (pa_cons (fe_var 0) (pa_cons (pe_callB call_fLen (by rfl) T.no_len (by decide +kernel) (pa_cons (fe_fld (fe_var 1) T.pl_things rfl) pa_nil)) pa_nil))) pa_nil))))))))), ?_⟩
      walk_at "fx0"
      simp only [tSeq]
      refine cut_ fun N hN => ?_
      repeat (walk_at "oxs")
      refine ⟨H0, sc, ns, W.dr, by omega, by omega, fun H1 d k1 D1 d0 d1 => hN _ _ ?_⟩
      clear hN N
      have W1 := W.draw k1 D1
      simp only [tSeq]
      refine cut_ fun N hN => ?_
      repeat (walk_at "oxs")
      split
      · intro p H2 np s2 ep
        have W2 := W1.same s2
        refine ⟨H0, sc, ns, _, W2.dr, fun H3 k3 => rl_t (k3 _ _ (by simpa using D1.ne np) ep), by simp, by simp, fun H3 v k3 D3 hv => ?_⟩
        have k0 : Keep [st] H H3 := (k1.trans (Keep.of s2)).trans k3
        have W3 := W2.draw k3 D3
        simp only [List.mem_cons, List.not_mem_nil, or_false] at hv
        rcases hv with rfl | rfl | rfl
        · exact h H3 _ .nul k0 W3 rfl ⟨fun _ e => (by cases e), fun _ e => (by cases e)⟩
        · exact h H3 _ (.boo true) k0 W3 rfl ⟨fun _ e => (by cases e), fun _ e => (by cases e)⟩
        · exact h H3 _ (.boo false) k0 W3 rfl ⟨fun _ e => (by cases e), fun _ e => (by cases e)⟩
      · refine hN _ _ ?_
        clear hN N
        simp only [tSeq]
        refine cut_ fun N hN => ?_
        repeat (walk_at "oxs")
        split
        · refine ⟨H0, sc, ns, D1, by omega, by omega, fun H2 d2 k2 D2 e0 e1 => ?_⟩
          exact h H2 _ (.num d2) (k1.trans k2) (W1.draw k2 D2) rfl ⟨fun _ e => (by cases e), fun _ e => (by cases e)⟩
        · refine hN _ _ ?_
          clear hN N
          simp only [tSeq]
          refine cut_ fun N hN => ?_
          repeat (walk_at "oxs")
          split
          · exact ⟨H0, sc, ns, D1, fun H2 z k2 D2 hz => h H2 _ (.txt z) (k1.trans k2) (W1.draw k2 D2) rfl ⟨fun _ e => (by cases e), fun _ e => by cases e; omega⟩⟩
          · refine hN _ _ ?_
            clear hN N
            simp only [tSeq]
            refine cut_ fun N hN => ?_
            repeat (walk_at "oxs")
            split
            · unfold spMk_Builtin
              intro b bdx H2 nb s2 eb
              exact h H2 _ (.bt "print") (k1.trans (Keep.of s2)) (W1.same s2) ⟨b, rfl, bdx, eb⟩ ⟨fun _ e => (by cases e), fun _ e => (by cases e)⟩
            · refine hN _ _ ?_
              clear hN N
              obtain ⟨dx1, ey1⟩ := W1.st.st
              repeat (first | walk_at "oxs" | simp only [ey1])
              refine ⟨_, rl_l W1.st.et, ?_⟩
              rw [List.length_map, Paired.length W1.st.th]
              refine ⟨H0, sc, ns, D1, by omega, by omega, fun H2 d2 k2 D2 e0 e1 => ?_⟩
              unfold spMk_Ref
              intro b bdx H3 nb s3 eb
              obtain ⟨n, rfl⟩ := Int.eq_ofNat_of_zero_le e0
              exact h H3 _ (.ob n) ((k1.trans k2).trans (Keep.of s3)) ((W1.draw k2 D2).same s3) ⟨b, rfl, bdx, eb⟩ ⟨fun _ e => by cases e; omega, fun _ e => (by cases e)⟩
    · cases h
def spLCmp : Sp := fun vs H Q _ => match vs with
  | [.str z, .str a, .str b] => ∃ o, z = O9.s o ∧ isC o = true ∧ a.length ≤ 1000 ∧ b.length ≤ 1000 ∧ Q (.bl (cmpB o a b)) H
  | _ => False
theorem ok_lcmp (A : At K mg "_law_compared" "_law_compared" s_law_compared ["operator", "x", "y"]) (T : Txt K mg c) : Has P w K mg base CX0 "_law_compared" 1 ["operator", "x", "y"] spLCmp := by
  have Sc := sc_law_compared
  refine has_of A Sc (fun vs H Q E h => ?_) (fun cdv f A outer s H vs Q E hr h => ?_)
  · unfold spLCmp at h; split at h; rfl; cases h
  · unfold spLCmp at h
    split at h
    · rename_i z a b
      obtain ⟨o, rfl, ho, la, lb, h⟩ := h
      refine ⟨_, (pss_cons (ps_if (pt_cmpR (op_fEq hr.units) (fe_var 0) pe_str (nomark _)) (pss_one (ps_ret (pe_cmpR op_fLt (fe_var 1) (fe_var 2) (nomark _)))) pss_nil)
      (pss_cons (ps_if (pt_cmpR (op_fEq hr.units) (fe_var 0) pe_str (nomark _)) (pss_one (ps_ret (pe_cmpR op_fLe (fe_var 1) (fe_var 2) (nomark _)))) pss_nil)
      (pss_cons (ps_if (pt_cmpR (op_fEq hr.units) (fe_var 0) pe_str (nomark _)) (pss_one (ps_ret (pe_cmpR op_fGt (fe_var 1) (fe_var 2) (nomark _)))) pss_nil)
      (pss_one (ps_ret (pe_cmpR op_fGe (fe_var 1) (fe_var 2) (nomark _))))))), ?_⟩
      walk_at "fx0"
      cases o <;> first
        | exact absurd ho (by decide)
        | (simp only [O9.s, opne]
           repeat (first | walk_at "oxs" | simp only [opne])
           exact h)
    · cases h
def spLInt (c : Cs) : Sp := fun vs H Q _ => match vs with
  | [v] => ∃ r, IsVal c H v r ∧ Q (.bl (isN r)) H
  | _ => False
theorem ok_lint (A : At K mg "_law_is_integer" "_law_is_integer" s_law_is_integer ["told"]) (T : Txt K mg c) : Has P w K mg base CX0 "_law_is_integer" 1 ["told"] (spLInt c) := by
  have Sc := sc_law_is_integer
  refine has_of A Sc (fun vs H Q E h => ?_) (fun cdv f A outer s H vs Q E hr h => ?_)
  · unfold spLInt at h; split at h; rfl; cases h
  · unfold spLInt at h
    split at h
    · rename_i v
      obtain ⟨r, hv, h⟩ := h
      refine ⟨_, (pss_one (ps_ret (pe_and (pe_callB (call_fIsiA T.kit) (by rfl) T.no_isinstance (by decide +kernel) (pa_cons (fe_var 0) (pa_cons (fe_ty (n := "int") (by rfl) T.no_int (by decide +kernel)) pa_nil))) (pe_one (pe_not (pe_callB (call_fIsiA T.kit) (by rfl) T.no_isinstance (by decide +kernel) (pa_cons (fe_var 0) (pa_cons (fe_ty (n := "bool") (by rfl) T.no_bool (by decide +kernel)) pa_nil)))))))), ?_⟩
      walk_at "fx0"
      cases r <;> first
        | (cases hv
           repeat (walk_at "oxs")
           exact h)
        | (obtain ⟨a, rfl, dx, e1⟩ := hv
           repeat (first | walk_at "oxs" | simp only [e1])
           exact h)
    · cases h
def spLNeg (w : World) (c : Cs) : Sp := fun vs H Q _ => match vs with
  | [.ref y, vx] => ∃ x S rx, y = x.y ∧ Sto w c H x S ∧ IsVal c H vx rx ∧ WfR S rx ∧ ∀ H1, Same H H1 → Q (.bl true) H1
  | _ => False
end

section
variable {P : Program} {w : World} {K : PySem.W.Frag} {mg : Str → Option Value} {base : Heap} {c : Cs}
def AbR (c : Cs) (H : Hp) (v : V) : Option Nat → Prop
  | none => v = .non
  | some k => IsRefV c H v k
theorem AbR.hs {H H' : Hp} {v : V} {o : Option Nat} (h : AbR c H v o) (s : HardStay c H H') : AbR c H' v o := by
  cases o with
  | none => exact h
  | some k => exact IsRefV.hs h s
def GAb (c : Cs) (al : Addr) (ps : List (Option Nat)) (H : Hp) : Prop := ∃ vs, H al = some (.lst vs) ∧ Paired (AbR c H) vs ps
def GKd (kl : Addr) (n : Nat) (H : Hp) : Prop := ∃ ks, H kl = some (.lst ks) ∧ ks.length = n
def G1 (c : Cs) (al kl : Addr) (ps : List (Option Nat)) (H : Hp) : Prop := GAb c al ps H ∧ GKd kl ps.length H
def GP (c : Cs) (al p y : Addr) (ps : List (Option Nat)) (H : Hp) : Prop := GAb c al ps H ∧ H p = some (.lst [.ref y, .ref al])
theorem GAb.gm {al : Addr} {ps : List (Option Nat)} {H H' : Hp} (h : GAb c al ps H) (s : HardStay c H H') (k : ∀ o, H al = some o → H' al = some o) : GAb c al ps H' := by
  obtain ⟨vs, e, h⟩ := h
  exact ⟨vs, k _ e, Paired.mapP h fun _ _ z => z.hs s⟩
theorem G1.gm {al kl : Addr} {ps : List (Option Nat)} : ∀ H H' : Hp, G1 c al kl ps H → HardStay c H H' → (∀ q ∈ [al, kl], ∀ o, H q = some o → H' q = some o) → G1 c al kl ps H' := fun H H' g s k =>
  ⟨g.1.gm s fun o e => k al (by simp) o e, g.2.imp fun ks z => ⟨k kl (by simp) _ z.1, z.2⟩⟩
theorem GP.gm {al p y : Addr} {ps : List (Option Nat)} : ∀ H H' : Hp, GP c al p y ps H → HardStay c H H' → (∀ q ∈ [al, p], ∀ o, H q = some o → H' q = some o) → GP c al p y ps H' := fun H H' g s k =>
  ⟨g.1.gm s fun o e => k al (by simp) o e, k p (by simp) _ g.2⟩
def spMkMap0 (w : World) (c : Cs) : Sp := fun vs H Q _ => match vs with
  | [.ref y, .ref l] => ∃ x S, y = x.y ∧ Sto w c H x S ∧ H l = some (.lst []) ∧ S.things.length < 99999 ∧ NewTh w c H x S (.table []) Q
  | _ => False
theorem ok_mkmap0 (A : At K mg "make_map" "make_map" s_make_map ["store", "pairs"]) (T : Txt K mg c) (M_Table : HasC P w K mg base CX0 c.Table "Table" 1 ["self"] (spMkTab w c)) (M_Store_make : HasM P w K mg base CX0 c.Store "make" 3 ["self", "thing"] (spMake w c)) : Has P w K mg base (L2.CX P w) "make_map" 4 ["store", "pairs"] (spMkMap0 w c) := by
  have Sc := sc_make_map
  refine hasX_of A Sc (fun vs H Q E h => ?_) (fun cdv f A outer s H vs Q E hr h => ?_)
  · unfold spMkMap0 at h; split at h; rfl; cases h
  · unfold spMkMap0 at h
    split at h
    · rename_i y l
      obtain ⟨x, S, rfl, hS, el, hl, h⟩ := h
      obtain ⟨sdx, es⟩ := hS.st
      refine ⟨_, (pss_cons (ps_set (i := 2) Sc.nd rfl (.inl rfl) (fe_make0 M_Table (hr.mono (by walk_at "rm")) (by rfl) pass0))
      (pss_cons (ps_for (passes_of rfl) rfl (pi_list (fe_var 1)) (pg_tup (n := 2) rfl (pgs_cons (pg_name (i := 3) Sc.nd rfl (.inl rfl)) (pgs_cons (pg_name (i := 4) Sc.nd rfl (.inl rfl)) pgs_nil))) (pss_one (ps_expr pe_dead)))
      (pss_one (ps_ret (fe_meth M_Store_make T.cl_Store (hr.mono (by walk_at "rm")) pass0 (fe_var 0) (pa_cons (fe_var 2) pa_nil)))))), ?_⟩
      walk_at "fx0"
      walk_at "ox"
      intro a d H1 na nd s1 ha TR0
      refine cut_ fun N hN => for_ ?_
      repeat (walk_at "oxs")
      refine ⟨⟨_, .inl (.inl (s1 _ _ el))⟩, ?_⟩
      refine loop_list [] (fun i σ H' => H' = H1 ∧ σ = [some (.ref x.y), some (.ref l), some (.ref a), none, none]) ⟨rfl, rfl⟩ (fun i σ H' _ ⟨e, _⟩ => by rw [e]; exact .inl (.inl (s1 _ _ el))) (fun i v σ H' e _ => by cases e) ?_
      rintro σ H' ⟨rfl, rfl⟩
      refine hN _ _ ?_
      clear hN N
      have es1 := s1 _ _ es
      repeat (first | walk_at "oxs" | simp only [es1])
      have ne : d ≠ a := fun z => by
        obtain ⟨⟨es', _, e0, _⟩, _⟩ := TR0
        obtain ⟨dx, ea⟩ := ha
        rw [z, ea] at e0; cases e0
      exact new_make (t := .table []) (b := some d) hS s1 ⟨d, [], rfl, ha, TR0, .nil⟩ (foot_two ne) (free_two na nd) hl h
    · cases h
def spLStore (K : PySem.W.Frag) (w : World) (c : Cs) : Sp := fun vs H Q _ => match vs with
  | [.ref s] => ∃ H0 sc ns, Dr K H0 s sc ns H ∧ ∀ H1 p x S ps al, Wd K w c H0 s sc ns x S (GP c al p x.y ps) [al, p] H1 → SI S ps → 2 ≤ S.things.length → S.things.length ≤ 30 → Q (.ref p) H1
  | _ => False
def Ls1 (K : PySem.W.Frag) (w : World) (c : Cs) (H0 : Hp) (s sc : Addr) (ns : List Int) (y kl al : Addr) (i : Nat) (σ : L2.St) (H : Hp) : Prop := ∃ x S ps v4 v5 v6 v7 v8, σ = [some (.ref s), some (.ref y), some (.ref kl), some (.ref al), v4, v5, v6, v7, v8] ∧ x.y = y ∧ Wd K w c H0 s sc ns x S (G1 c al kl ps) [al, kl] H ∧ SI S ps ∧ S.things.length = 1 + i ∧ ps.length = 1 + i
def Ls2 (K : PySem.W.Frag) (w : World) (c : Cs) (H0 : Hp) (s sc : Addr) (ns : List Int) (y kl al : Addr) (ps : List (Option Nat)) (n0 : Nat) (i : Nat) (σ : L2.St) (H : Hp) : Prop := ∃ x S v4 v5 v6 v7 v8, σ = [some (.ref s), some (.ref y), some (.ref kl), some (.ref al), v4, v5, v6, v7, v8] ∧ x.y = y ∧ Wd K w c H0 s sc ns x S (G1 c al kl ps) [al, kl] H ∧ SI S ps ∧ S.things.length = n0 + i
set_option maxHeartbeats 8000000 in
theorem ok_lstore (A : At K mg "_law_store" "_law_store" s_law_store ["state"]) (T : Txt K mg c) (H_law_draw : Has P w K mg base CX0 "_law_draw" 2 ["state", "many"] (spDraw K)) (H_law_pick : Has P w K mg base CX0 "_law_pick" 3 ["state", "row"] (spPick2 K)) (M_Store : HasC P w K mg base CX0 c.Store "Store" 3 ["self", "lines"] (spStore w K c)) (M_Ref : HasC P w K mg base CX0 c.Ref "Ref" 1 ["self", "number"] (spMk_Ref K c)) (M_Instance : HasC P w K mg base CX0 c.Instance "Instance" 1 ["self", "owner"] (spMk_Instance K c)) (M_Closure : HasC P w K mg base CX0 c.Closure "Closure" 1 ["self", "number", "wanted", "scope"] (spMk_Closure K c)) (M_Store_make : HasM P w K mg base CX0 c.Store "make" 3 ["self", "thing"] (spMake w c)) (H_make_class : Has P w K mg base (L2.CX P w) "make_class" 4 ["store", "name", "parent"] (spMkClass w c)) (H_make_list : Has P w K mg base (L2.CX P w) "make_list" 4 ["store", "values"] (spMkL2 w c)) (H_make_map : Has P w K mg base (L2.CX P w) "make_map" 4 ["store", "pairs"] (spMkMap0 w c)) : Has P w K mg base CX0 "_law_store" 5 ["state"] (spLStore K w c) := by
  have Sc := sc_law_store
  refine has_of A Sc (fun vs H Q E h => ?_) (fun cdv f A outer s H vs Q E hr h => ?_)
  · unfold spLStore at h; split at h; rfl; cases h
  · unfold spLStore at h
    split at h
    · rename_i st
      obtain ⟨H0, sc, ns, D, h⟩ := h
      refine ⟨_, (pss_cons (ps_set (i := 1) Sc.nd rfl (.inl rfl) (fe_make (k := _) M_Store (hr.mono (by walk_at "rm")) (by rfl) pass0 (pa_cons (fe_lst pa_nil) pa_nil)))
      (pss_cons (ps_set (i := 2) Sc.nd rfl (.inl rfl) (fe_lst (pa_cons pe_str pa_nil)))
      (pss_cons (ps_set (i := 3) Sc.nd rfl (.inl rfl) (fe_lst (pa_cons pe_non pa_nil)))
      (pss_cons (ps_for PassesOwn.never rfl (pi_range1 (by rfl) T.no_range (pa_cons (pe_op op_fAdd pe_int (fe_call H_law_draw (hr.mono (by walk_at "rm")) (by rfl) pass0 (pa_cons (fe_var 0) (pa_cons pe_int pa_nil)))) pa_nil)) (pg_name (i := 4) Sc.nd rfl (.inl rfl)) (pss_cons (ps_set (i := 5) Sc.nd rfl (.inl rfl) (pe_op op_fSub (fe_call H_law_draw (hr.mono (by walk_at "rm")) (by rfl) pass0 (pa_cons (fe_var 0) (pa_cons (pe_op op_fAdd (pe_callB call_fLen (by rfl) T.no_len (by decide +kernel) (pa_cons (fe_var 3) pa_nil)) pe_int) pa_nil))) pe_int))
      (pss_cons (ps_set (i := 6) Sc.nd rfl (.inl rfl) pe_non)
      (pss_cons (ps_if (pt_cmpR op_fGe (fe_var 5) pe_int (nomark _)) (pss_one (ps_set (i := 6) Sc.nd rfl (.inl rfl) (fe_make (k := _) M_Ref (hr.mono (by walk_at "rm")) (by rfl) pass0 (pa_cons (fe_var 5) pa_nil)))) pss_nil)
      (pss_cons (ps_set (i := 7) Sc.nd rfl (.inl rfl) (fe_callX H_make_class (hr.mono (by walk_at "rm")) (by rfl) takes0 (pa_cons (fe_var 1) (pa_cons pe_str (pa_cons (fe_var 6) pa_nil)))))
      (pss_cons (ps_expr (fe_bm PySem.F.plainAttrs_list PySem.F.slot_list_append PySem.F.type_list_append isLst_ty mt_fAppend (fe_var 2) (pa_cons pe_str pa_nil)))
      (pss_cons (ps_expr (fe_bm PySem.F.plainAttrs_list PySem.F.slot_list_append PySem.F.type_list_append isLst_ty mt_fAppend (fe_var 3) (pa_cons (fe_var 6) pa_nil)))
      (pss_one (ps_if (pt_cmpR (op_fNe hr.units) (fe_fld (fe_var 7) T.pl_number rfl) (pe_op op_fSub (pe_callB call_fLen (by rfl) T.no_len (by decide +kernel) (pa_cons (fe_var 3) pa_nil)) pe_int) (nomark _)) (pss_one (ps_ret pe_non)) pss_nil)))))))))
      (pss_cons (ps_for PassesOwn.never rfl (pi_range1 (by rfl) T.no_range (pa_cons (pe_op op_fAdd pe_int (fe_call H_law_draw (hr.mono (by walk_at "rm")) (by rfl) pass0 (pa_cons (fe_var 0) (pa_cons pe_int pa_nil)))) pa_nil)) (pg_name (i := 4) Sc.nd rfl (.inl rfl)) (pss_one (ps_expr (fe_meth M_Store_make T.cl_Store (hr.mono (by walk_at "rm")) pass0 (fe_var 1) (pa_cons (fe_make (k := _) M_Instance (hr.mono (by walk_at "rm")) (by rfl) pass0 (pa_cons (fe_make (k := _) M_Ref (hr.mono (by walk_at "rm")) (by rfl) pass0 (pa_cons (fe_call H_law_draw (hr.mono (by walk_at "rm")) (by rfl) pass0 (pa_cons (fe_var 0) (pa_cons (pe_callB call_fLen (by rfl) T.no_len (by decide +kernel) (pa_cons (fe_var 3) pa_nil)) pa_nil))) pa_nil)) pa_nil)) pa_nil)))))
      (pss_cons (ps_for PassesOwn.never rfl (pi_range1 (by rfl) T.no_range (pa_cons (pe_op op_fAdd pe_int (fe_call H_law_draw (hr.mono (by walk_at "rm")) (by rfl) pass0 (pa_cons (fe_var 0) (pa_cons pe_int pa_nil)))) pa_nil)) (pg_name (i := 4) Sc.nd rfl (.inl rfl)) (pss_one (ps_expr (fe_callX H_make_list (hr.mono (by walk_at "rm")) (by rfl) takes0 (pa_cons (fe_var 1) (pa_cons (pe_lc (own := [("j", 8)]) (by rfl) Sc.nd (pi_range1 (by rfl) T.no_range (pa_cons (fe_call H_law_pick (hr.mono (by walk_at "rm")) (by rfl) pass0 (pa_cons (fe_var 0) (pa_cons (fe_tup (pa_cons pe_int (pa_cons pe_int (pa_cons pe_int (pa_cons pe_int pa_nil))))) pa_nil))) pa_nil)) (blkOk_by (own := [("j", 8)]) (N := ["state", "store", "kinds", "above", "k", "parent", "ref", "made", "j"]) (sc := defScope s_law_store) (by decide +kernel)) (fun _ _ _ _ _ => (pg_name (i := 8) Sc.nd rfl (.inl rfl))) (fun _ _ _ _ _ => pts_nil) (fun _ _ _ _ _ => (fe_var 8))) pa_nil))))))
      (pss_cons (ps_expr (fe_callX H_make_map (hr.mono (by walk_at "rm")) (by rfl) takes0 (pa_cons (fe_var 1) (pa_cons (fe_lst pa_nil) pa_nil))))
      (pss_cons (ps_expr (fe_meth M_Store_make T.cl_Store (hr.mono (by walk_at "rm")) pass0 (fe_var 1) (pa_cons (fe_make (k := _) M_Closure (hr.mono (by walk_at "rm")) (by rfl) pass0 (pa_cons pe_int (pa_cons pe_int (pa_cons (fe_tup pa_nil) pa_nil)))) pa_nil)))
      (pss_one (ps_ret (fe_lst (pa_cons (fe_var 1) (pa_cons (fe_var 3) pa_nil))))))))))))), ?_⟩
      walk_at "fx0"
      walk_at "ox"
      intro l0 H2 nl0 s2 el0
      refine ⟨[], rl_l el0, fun x0 H3 St s3 hfr => ?_⟩
      have W3 : Wd K w c H0 st sc ns x0 (st0 []) (fun _ => True) [] H3 := by
        refine ⟨(D.same s2).same s3, St, trivial, fun _ _ _ _ _ => trivial, (fun q m => by cases m), ?_, ?_⟩
        · rw [List.append_nil, List.nodup_cons]
          exact ⟨(fun m => by
            obtain ⟨a, k, es, _⟩ := D.st
            have := hfr st m
            rw [s2 _ _ es] at this; cases this), St.nd⟩
        · intro q m
          rw [List.append_nil] at m
          rcases List.mem_cons.mp m with rfl | m
          · exact D.nw
          · exact D.sm.free (s2.free (hfr q m))
      walk_at "ox"
      intro kl H4 nkl s4 ekl al H5 nal s5 eal
      have nka : al ≠ kl := fun z => by rw [z, ekl] at nal; cases nal
      have W5 : Wd K w c H0 st sc ns x0 (st0 []) (G1 c al kl [none]) [al, kl] H5 := W3.grow (qs := [al, kl]) (s4.trans s5) (fun q m => by
        simp only [List.mem_cons, List.not_mem_nil, or_false] at m
        rcases m with rfl | rfl
        · exact s4.free nal
        · exact nkl) (by simpa using nka) (fun q m => by
        simp only [List.mem_cons, List.not_mem_nil, or_false] at m
        rcases m with rfl | rfl
        · exact ⟨_, eal⟩
        · exact ⟨_, s5 _ _ ekl⟩) ⟨⟨_, eal, .cons rfl .nil⟩, ⟨_, s5 _ _ ekl, rfl⟩⟩ G1.gm
      refine cut_ fun N hN => for_ ?_
      repeat (walk_at "oxs")
      refine ⟨H0, sc, ns, W5.dr, by omega, by omega, fun H6 d k6 D6 d0 d1 => ?_⟩
      have W6 := W5.draw k6 D6
      repeat (walk_at "oxs")
      refine ⟨by omega, by omega, ?_⟩
      refine loop_range (Ls1 K w c H0 st sc ns x0.y kl al) ⟨x0, _, _, _, _, _, _, _, rfl, rfl, W6, si0, rfl, rfl⟩ ?_ ?_
      · rintro i σ H7 hi ⟨x, S, ps, v4, v5, v6, v7, v8, rfl, ey, W7, I7, hS7, hp7⟩
        simp only [gName, List.set_cons_succ, List.set_cons_zero]
        simp only [tSeq]
        refine cut_ fun N1 hN1 => ?_
        obtain ⟨⟨vs7, eal7, hvs7⟩, _⟩ := W7.g
        have lv7 := Paired.length hvs7
        repeat (walk_at "oxs")
        refine ⟨_, rl_l eal7, ?_⟩
        refine ⟨H0, sc, ns, W7.dr, by omega, by omega, fun H8 d8 k8 D8 d80 d81 => ?_⟩
        have W8 := W7.draw k8 D8
        repeat (walk_at "oxs")
        refine hN1 _ _ ?_
        clear hN1 N1
        simp only [tSeq]
        refine cut_ fun N1 hN1 => ?_
        repeat (walk_at "oxs")
        refine hN1 _ _ ?_
        clear hN1 N1
        simp only [tSeq]
        refine cut_ fun N1 hN1 => ?_
        have fin : ∀ (u6 : V) (H9 : Hp) (p : Option Nat), Wd K w c H0 st sc ns x S (G1 c al kl ps) [al, kl] H9 → AbR c H9 u6 p → (∀ k, p = some k → k < ps.length) → N1 [some (.ref st), some (.ref x0.y), some (.ref kl), some (.ref al), some (.int (i : Nat)), some (.int (d8 - 1)), some u6, v7, v8] H9 := fun u6 H9 p W9 hu6 hp => by
          refine hN1 _ _ ?_
          clear hN1 N1
          simp only [tSeq]
          refine cut_ fun N1 hN1 => ?_
          repeat (walk_at "oxs")
          have hr : ∃ r, IsVal c H9 u6 r ∧ WfR S r ∧ parR S r = some p := by
            cases p with
            | none => exact ⟨.nul, hu6, fun n e => (by cases e), rfl⟩
            | some k =>
              have hk := hp k rfl
              obtain ⟨a, ms, e⟩ := I7.kin k _ (List.getElem?_eq_getElem hk)
              exact ⟨.ob k, hu6, fun n e => (by cases e; omega), by simp only [parR, e]⟩
          obtain ⟨r, hr1, hr2, hr3⟩ := hr
          refine ⟨x, S, r, ey.symm, W9.st, hr1, hr2, by omega, ?_⟩
          rw [hr3]
          intro ra a b H10 nr nf k10 st10 hra
          have W10 := W9.make nf k10 st10
          have hu10 : AbR c H10 u6 p := hu6.hs (.keep k10 W9.st.soft_tl)
          repeat (walk_at "oxs")
          refine hN1 _ _ ?_
          clear hN1 N1
          simp only [tSeq]
          refine cut_ fun N1 hN1 => ?_
          obtain ⟨⟨vs10, eal10, hvs10⟩, ks10, ekl10, lk10⟩ := id W10.g
          have lv10 := Paired.length hvs10
          repeat (first | walk_at "oxs" | simp only [ekl10])
          have kk : Keep [kl] H10 (upd H10 kl (.lst (ks10 ++ [.str (Str.ofString "class")]))) := Keep.refl.upd (by simp)
          have W11 : Wd K w c H0 st sc ns (x.add a b) (S.add (.kin "C" p [])) (fun H => GAb c al ps H ∧ GKd kl (ps.length + 1) H) [al, kl] (upd H10 kl (.lst (ks10 ++ [.str (Str.ofString "class")]))) := W10.own (by simp) kk (soft_lst ekl10) ⟨_, upd_same⟩ ⟨⟨vs10, by rw [upd_ne nka]; exact eal10, Paired.mapP hvs10 fun _ _ z => z.hs (.keep kk fun q m => by rw [List.mem_singleton.mp m]; exact soft_lst ekl10)⟩, _, upd_same, by rw [List.length_append, lk10]; rfl⟩ fun H H' g s k => ⟨g.1.gm s fun o e => k al (by simp) o e, g.2.imp fun ks z => ⟨k kl (by simp) _ z.1, z.2⟩⟩
          have hu11 := hu10.hs (.keep kk fun q m => by rw [List.mem_singleton.mp m]; exact soft_lst ekl10)
          have hra11 := hra.hs (.keep kk fun q m => by rw [List.mem_singleton.mp m]; exact soft_lst ekl10)
          refine ⟨len_line' (by omega), hN1 _ _ ?_⟩
          clear hN1 N1
          generalize upd H10 kl (.lst (ks10 ++ [.str (Str.ofString "class")])) = H11 at W11 hu11 hra11
          simp only [tSeq]
          refine cut_ fun N1 hN1 => ?_
          obtain ⟨⟨vs11, eal11, hvs11⟩, ks11, ekl11, lk11⟩ := id W11.g
          have lv11 := Paired.length hvs11
          repeat (first | walk_at "oxs" | simp only [eal11])
          have ka : Keep [al] H11 (upd H11 al (.lst (vs11 ++ [u6]))) := Keep.refl.upd (by simp)
          have sa : HardStay c H11 (upd H11 al (.lst (vs11 ++ [u6]))) := .keep ka fun q m => by rw [List.mem_singleton.mp m]; exact soft_lst eal11
          have W12 : Wd K w c H0 st sc ns (x.add a b) (S.add (.kin "C" p [])) (G1 c al kl (ps ++ [p])) [al, kl] (upd H11 al (.lst (vs11 ++ [u6]))) := W11.own (by simp) ka (soft_lst eal11) ⟨_, upd_same⟩ ⟨⟨_, upd_same, Paired.snoc (Paired.mapP hvs11 fun _ _ z => z.hs sa) (hu11.hs sa)⟩, ks11, by rw [upd_ne (Ne.symm nka)]; exact ekl11, by rw [lk11, List.length_append]; rfl⟩ G1.gm
          have hra12 := hra11.hs sa
          refine ⟨len_line' (by omega), hN1 _ _ ?_⟩
          clear hN1 N1
          have eal12 : (upd H11 al (.lst (vs11 ++ [u6]))) al = some (.lst (vs11 ++ [u6])) := upd_same
          generalize upd H11 al (.lst (vs11 ++ [u6])) = H12 at W12 hra12 eal12
          obtain ⟨rdx, era⟩ := id hra12
          repeat (first | walk_at "oxs" | simp only [era])
          refine ⟨_, rl_l eal12, ?_⟩
          rw [List.length_append, List.length_singleton, lv11, hp7, hS7, if_neg (by omega)]
          exact ⟨x.add a b, S.add (.kin "C" p []), ps ++ [p], _, _, _, _, _, rfl, ey, W12, I7.addK (hS7.trans hp7.symm) hp, by show (S.things ++ [_]).length = _; rw [List.length_append, hS7]; exact Nat.add_assoc .., by rw [List.length_append, hp7]; exact Nat.add_assoc ..⟩
        repeat (walk_at "oxs")
        split
        · unfold spMk_Ref
          intro r rdx H9 nr s9 er
          obtain ⟨n, en⟩ : ∃ n : Nat, d8 - 1 = (n : Nat) := ⟨(d8 - 1).toNat, by omega⟩
          refine fin _ H9 (some n) (W8.same s9) ⟨r, rfl, rdx, by rw [← en]; exact er⟩ fun k e => by cases e; omega
        · exact fin .non H8 none W8 rfl fun k e => by cases e
      · rintro σ H7 ⟨x, S, ps, v4, v5, v6, v7, v8, rfl, ey, W7, I7, hS7, hp7⟩
        refine hN _ _ ?_
        clear hN N
        have lp5 : ps.length ≤ 5 := by omega
        have lp1 : 1 ≤ ps.length := by omega
        simp only [tSeq]
        refine cut_ fun N hN => for_ ?_
        repeat (walk_at "oxs")
        refine ⟨H0, sc, ns, W7.dr, by omega, by omega, fun H8 d8 k8 D8 d80 d81 => ?_⟩
        have W8 := W7.draw k8 D8
        repeat (walk_at "oxs")
        refine ⟨by omega, by omega, ?_⟩
        refine loop_range (Ls2 K w c H0 st sc ns x0.y kl al ps S.things.length) ⟨x, S, _, _, _, _, _, rfl, ey, W8, I7, rfl⟩ ?_ ?_
        · rintro j σ H9 hj ⟨X, S1, u4, u5, u6, u7, u8, rfl, ey1, W9, I9, hS9⟩
          obtain ⟨⟨vs9, eal9, hvs9⟩, _⟩ := W9.g
          obtain ⟨dx9, ey9⟩ := W9.st.st
          rw [ey1] at ey9
          have lv9 := Paired.length hvs9
          repeat (first | walk_at "oxs" | simp only [ey9])
          refine ⟨_, rl_l eal9, ?_⟩
          rw [lv9]
          refine ⟨H0, sc, ns, W9.dr, by omega, by omega, fun H10 d10 k10 D10 e0 e1 => ?_⟩
          have W10 := W9.draw k10 D10
          unfold spMk_Ref
          intro r rdx H11 nr s11 er
          unfold spMk_Instance
          intro a adx pn H12 na s12 ea npn epn nep
          have W12 := (W10.same s11).same s12
          obtain ⟨n, rfl⟩ := Int.eq_ofNat_of_zero_le e0
          refine ⟨X, S1, some pn, .inst n [], ey1.symm, W12.st, ⟨adx, r, pn, [], rfl, ea, ⟨rdx, s12 _ _ er⟩, epn, .nil⟩, foot_two nep, ?_, by omega, fun r2 H13 nr2 k13 st13 hr2 => ?_⟩
          · intro q hq m
            obtain ⟨o, eo⟩ := (W10.same s11).st.live q m
            rw [free_two na npn q hq] at eo
            cases eo
          have W13 := (W10.same s11).same s12 |>.make2 (a := a) (b := some pn) (t := .inst n []) (fun q hq m => by
            obtain ⟨o, eo⟩ := (W10.same s11).live m
            rw [free_two na npn q hq] at eo; cases eo) (fun q hq => (W10.same s11).dr.sm.free (free_two na npn q hq)) k13 st13
          repeat (walk_at "oxs")
          exact ⟨X.add a (some pn), S1.add (.inst n []), _, _, _, _, _, rfl, ey1, W13, I9.add (by show n < ps.length; omega), by show (S1.things ++ [_]).length = _; rw [List.length_append, hS9]; exact Nat.add_assoc ..⟩
        · rintro σ H9 ⟨X, S1, u4, u5, u6, u7, u8, rfl, ey1, W9, I9, hS9⟩
          refine hN _ _ ?_
          clear hN N
          simp only [tSeq]
          refine cut_ fun N hN => for_ ?_
          repeat (walk_at "oxs")
          refine ⟨H0, sc, ns, W9.dr, by omega, by omega, fun H10 d10 k10 D10 e0 e1 => ?_⟩
          have W10 := W9.draw k10 D10
          repeat (walk_at "oxs")
          refine ⟨by omega, by omega, ?_⟩
          refine loop_range (Ls2 K w c H0 st sc ns x0.y kl al ps S1.things.length) ⟨X, S1, _, _, _, _, _, rfl, ey1, W10, I9, rfl⟩ ?_ ?_
          · rintro j σ H11 hj ⟨X2, S2, u4, u5, u6, u7, u8, rfl, ey2, W11, I11, hS11⟩
            walk_at "ox"
            refine lc_ ?_
            walk_at "ox"
            intro tp H12 ntp s12 etp
            have W12 := W11.same s12
            have ntps : tp ≠ st := W11.dr.ne ntp
            refine ⟨H0, sc, ns, _, W12.dr, fun H13 k13 => rl_t (k13 _ _ (by simpa using ntps) etp), by simp, by simp, fun H13 nm k13 D13 hnm => ?_⟩
            have W13 := W12.draw k13 D13
            have hnm2 : ∃ m : Nat, nm = .int m ∧ m ≤ 600 := by
              simp only [List.mem_cons, List.not_mem_nil, or_false] at hnm
              rcases hnm with rfl | rfl | rfl | rfl
              · exact ⟨0, rfl, by omega⟩
              · exact ⟨1, rfl, by omega⟩
              · exact ⟨4, rfl, by omega⟩
              · exact ⟨600, rfl, by omega⟩
            obtain ⟨m, rfl, hm⟩ := hnm2
            clear hnm
            walk_at "ox"
            refine ⟨by omega, by omega, fun R nR => ?_⟩
            refine lcx_range (fun i H14 => Same H13 H14 ∧ H14 R = some (.lst ((List.range i).map fun n => V.int (n : Nat)))) ⟨same_new nR, upd_same⟩ ?_ ?_
            · rintro i H14 hi ⟨s14, e14⟩
              walk_at "ox"
              exact ⟨_, e14, len_line' (by rw [List.length_map, List.length_range]; omega), mk_same s14 nR, by rw [List.range_succ, List.map_append]; rfl⟩
            · rintro H14 ⟨s14, e14⟩
              have W14 := W13.same s14
              have hvs : VsAt c H14 ((List.range m).map fun n => V.int (n : Nat)) ((List.range m).map fun n => RV.num (n : Nat)) := by
                have : ∀ l : List Nat, VsAt c H14 (l.map fun n => V.int (n : Nat)) (l.map fun n => RV.num (n : Nat)) := fun l => by
                  induction l with
                  | nil => exact .nil
                  | cons a l ih => exact .cons rfl ih
                exact this _
              walk_at "ox"
              refine ⟨X2, S2, _, _, ey2.symm, W14.st, e14, hvs, by rw [List.length_map, List.length_range]; omega, by omega, ?_⟩
              rw [if_pos (by rw [List.length_map, List.length_range]; omega)]
              intro r a b H15 nr nf k15 st15 hr15
              have W15 := W14.make nf k15 st15
              refine ⟨X2.add a b, S2.add _, _, _, _, _, _, rfl, ey2, W15, I11.add ⟨by rw [List.length_map, List.length_range]; omega, fun r m => ?_⟩, by show (S2.things ++ [_]).length = _; rw [List.length_append, hS11]; exact Nat.add_assoc ..⟩
              obtain ⟨n, _, rfl⟩ := List.mem_map.mp m
              rfl
          · rintro σ H11 ⟨X2, S2, u4, u5, u6, u7, u8, rfl, ey2, W11, I11, hS11⟩
            refine hN _ _ ?_
            clear hN N
            simp only [tSeq]
            refine cut_ fun N hN => ?_
            obtain ⟨dx11, ey11⟩ := W11.st.st
            rw [ey2] at ey11
            repeat (first | walk_at "oxs" | simp only [ey11])
            intro pl H12 npl s12 epl
            have W12 := W11.same s12
            refine ⟨X2, S2, ey2.symm, W12.st, epl, by omega, fun r a b H13 nr nf k13 st13 hr13 => ?_⟩
            have W13 := W12.make nf k13 st13
            have I13 := I11.add (t := .table []) trivial
            have hS13 : (S2.add (.table [])).things.length = S2.things.length + 1 := by show (S2.things ++ [_]).length = _; rw [List.length_append]; rfl
            refine hN _ _ ?_
            clear hN N
            simp only [tSeq]
            refine cut_ fun N hN => ?_
            obtain ⟨dx13, ey13⟩ := W13.st.st
            have ey3 : (X2.add a b).y = x0.y := ey2
            rw [ey3] at ey13
            repeat (first | walk_at "oxs" | simp only [ey13])
            intro pe H14 npe s14 epe
            have W14 := W13.same s14
            unfold spMk_Closure
            intro ac cdx H15 nac s15 eac
            have W15 := W14.same s15
            refine ⟨X2.add a b, S2.add (.table []), none, .clo 0 0 [], ey3.symm, W15.st, ⟨cdx, pe, [], rfl, eac, s15 _ _ epe, .nil⟩, foot_one, ?_, by omega, fun r2 H16 nr2 k16 st16 hr2 => ?_⟩
            · intro q hq m
              obtain ⟨o, eo⟩ := W14.st.live q m
              rw [free_one nac q hq] at eo
              cases eo
            have W16 := W15.make2 (a := ac) (b := none) (t := .clo 0 0 []) (fun q hq m => by
              obtain ⟨o, eo⟩ := W14.live m
              rw [free_one nac q hq] at eo; cases eo) (fun q hq => W14.dr.sm.free (free_one nac q hq)) k16 st16
            have I16 := I13.add (t := .clo 0 0 []) trivial
            repeat (walk_at "oxs")
            refine hN _ _ ?_
            clear hN N
            repeat (walk_at "oxs")
            intro pr H17 npr s17 epr
            have W17 := W16.same s17
            have hS16 : ((S2.add (.table [])).add (.clo 0 0 [])).things.length = S2.things.length + 2 := by show ((S2.things ++ [_]) ++ [_]).length = _; rw [List.length_append, List.length_append]; rfl
            have ey4 : ((X2.add a b).add ac none).y = x0.y := ey2
            refine h H17 pr ((X2.add a b).add ac none) _ ps al ?_ I16 (by omega) (by omega)
            rw [ey4]
            have nn : pr ∉ st :: (((X2.add a b).add ac none).foot ++ [al, kl]) := fun m => by
              obtain ⟨o, eo⟩ := W16.live m
              rw [npr] at eo; cases eo
            refine W17.adopt ⟨W17.g.1, epr⟩ GP.gm (fun q m => ?_) (by
              have : al ≠ pr := fun z => nn (by rw [← z]; simp)
              simpa using this)
            simp only [List.mem_cons, List.not_mem_nil, or_false] at m
            rcases m with rfl | rfl
            · exact .inl (by simp)
            · exact .inr ⟨nn, W16.dr.sm.free npr, _, epr⟩
    · cases h
end

section
variable {P : Program} {w : World} {K : PySem.W.Frag} {mg : Str → Option Value} {base : Heap} {c : Cs}
def spEqRef (c : Cs) : Sp := fun vs H Q _ => match vs with
  | [.ref a, .ref b] => ∃ n m, IsRef c H a n ∧ IsRef c H b m ∧ Q (.bl (decide (n = m))) H
  | _ => False
theorem ok_eqRef (A : AtM K c.Ref "__eq__" "Ref.__eq__" s_Ref___eq__ ["self", "other"]) (T : Txt K mg c) : HasM P w K mg base CX0 c.Ref "__eq__" 1 ["self", "other"] (spEqRef c) := by
  have Sc := sc_Ref___eq__
  refine hasM_of A Sc (fun vs H Q E h => ?_) (fun cdv f A outer s H vs Q E hr h => ?_)
  · unfold spEqRef at h; split at h; rfl; cases h
  · unfold spEqRef at h
    split at h
    · obtain ⟨n, m, ⟨dx, e1⟩, ⟨dy, e2⟩, k⟩ := h
      refine ⟨_, (pss_one (ps_ret (pe_and (pe_callB (call_fIsiO T.kit) (by rfl) T.no_isinstance (by decide +kernel) (pa_cons (fe_var 1) (pa_cons (pe_glob (v := .ref c.Ref) (by rfl) T.mg_Ref rfl) pa_nil))) (pe_one (pe_cmpR (op_fEq hr.units) (fe_fld (fe_var 0) T.pl_number rfl) (fe_fld (fe_var 1) T.pl_number rfl) (nomark _)))))), ?_⟩
      walk_at "fx0"
      repeat (first | walk_at "oxs" | simp only [e2] | simp only [e1])
      exact k
    · cases h
def spEqBt : Sp := fun _ _ _ _ => False
theorem ok_eqBt (A : AtM K c.Builtin "__eq__" "Builtin.__eq__" s_Builtin___eq__ ["self", "other"]) (T : Txt K mg c) : HasM P w K mg base CX0 c.Builtin "__eq__" 1 ["self", "other"] spEqBt := by
  have Sc := sc_Builtin___eq__
  exact hasM_of A Sc (fun vs H Q E h => h.elim) (fun cdv f A outer s H vs Q E hr h => h.elim)
theorem str_nil (z : Str) : ("" : Str) ++ z = z := by
  have h : L (("" : Str) ++ z) = L z := by
    show (("" : Str) ++ z).cps.toList = z.cps.toList
    show (#[] ++ z.cps).toList = z.cps.toList
    simp
  obtain ⟨a⟩ := z
  have h2 : ((("" : Str) ++ ⟨a⟩ : Str).cps).toList = a.toList := h
  show (⟨#[] ++ a⟩ : Str) = ⟨a⟩
  simp
theorem vs_ints2 {H : Hp} {xs : List V} {rs : List RV} (h : VsAt c H xs rs) : (∀ r ∈ rs, isN r = true) → xs = rs.map vOf ∧ xs.all scV = true := by
  induction h with
  | nil => exact fun _ => ⟨rfl, rfl⟩
  | @cons a b as bs r t ih =>
    intro hn
    have hb := hn b (List.mem_cons_self ..)
    obtain ⟨e1, e2⟩ := ih fun q m => hn q (List.mem_cons_of_mem _ m)
    cases b <;> first
      | (cases hb; done)
      | skip
    obtain rfl := (show a = _ from r)
    exact ⟨by rw [e1]; rfl, by rw [List.all_cons, e2]; rfl⟩
theorem two_eqv {a b d e : Str} : PyData.eqv (.tuple ([V.str a, V.str b].map dV)) (.tuple ([V.str d, V.str e].map dV)) = decide (a = d ∧ b = e) := by
  have s : ∀ x y : Str, (x == y) = decide (x = y) := fun x y => by
    by_cases h : x = y
    · subst h; simp
    · simp [h]
  have h : PyData.eqv (.tuple ([V.str a, V.str b].map dV)) (.tuple ([V.str d, V.str e].map dV)) = ((a == d) && ((b == e) && true)) := by
    simp only [List.map_cons, List.map_nil, dV, PyData.eqv, PyData.eqvAll]
  rw [h, s, s, Bool.and_true]
  by_cases h1 : a = d <;> by_cases h2 : b = e <;> simp [h1, h2]
theorem knd : (("list" : Str) == "map") = false ∧ ¬ (("list" : Str) = "map") ∧ (("list" : Str) == "instance") = false ∧ ¬ (("list" : Str) = "instance") ∧ (("list" : Str) == "class") = false ∧ ¬ (("list" : Str) = "class") ∧ (("list" : Str) == "function") = false ∧ ¬ (("list" : Str) = "function") ∧ (("list" : Str) == "null") = false ∧ ¬ (("list" : Str) = "null") ∧ (("list" : Str) == "boolean") = false ∧ ¬ (("list" : Str) = "boolean") ∧ (("list" : Str) == "integer") = false ∧ ¬ (("list" : Str) = "integer") ∧ (("list" : Str) == "text") = false ∧ ¬ (("list" : Str) = "text") ∧ (("map" : Str) == "list") = false ∧ ¬ (("map" : Str) = "list") ∧ (("map" : Str) == "instance") = false ∧ ¬ (("map" : Str) = "instance") ∧ (("map" : Str) == "class") = false ∧ ¬ (("map" : Str) = "class") ∧ (("map" : Str) == "function") = false ∧ ¬ (("map" : Str) = "function") ∧ (("map" : Str) == "null") = false ∧ ¬ (("map" : Str) = "null") ∧ (("map" : Str) == "boolean") = false ∧ ¬ (("map" : Str) = "boolean") ∧ (("map" : Str) == "integer") = false ∧ ¬ (("map" : Str) = "integer") ∧ (("map" : Str) == "text") = false ∧ ¬ (("map" : Str) = "text") ∧ (("instance" : Str) == "list") = false ∧ ¬ (("instance" : Str) = "list") ∧ (("instance" : Str) == "map") = false ∧ ¬ (("instance" : Str) = "map") ∧ (("instance" : Str) == "class") = false ∧ ¬ (("instance" : Str) = "class") ∧ (("instance" : Str) == "function") = false ∧ ¬ (("instance" : Str) = "function") ∧ (("instance" : Str) == "null") = false ∧ ¬ (("instance" : Str) = "null") ∧ (("instance" : Str) == "boolean") = false ∧ ¬ (("instance" : Str) = "boolean") ∧ (("instance" : Str) == "integer") = false ∧ ¬ (("instance" : Str) = "integer") ∧ (("instance" : Str) == "text") = false ∧ ¬ (("instance" : Str) = "text") ∧ (("class" : Str) == "list") = false ∧ ¬ (("class" : Str) = "list") ∧ (("class" : Str) == "map") = false ∧ ¬ (("class" : Str) = "map") ∧ (("class" : Str) == "instance") = false ∧ ¬ (("class" : Str) = "instance") ∧ (("class" : Str) == "function") = false ∧ ¬ (("class" : Str) = "function") ∧ (("class" : Str) == "null") = false ∧ ¬ (("class" : Str) = "null") ∧ (("class" : Str) == "boolean") = false ∧ ¬ (("class" : Str) = "boolean") ∧ (("class" : Str) == "integer") = false ∧ ¬ (("class" : Str) = "integer") ∧ (("class" : Str) == "text") = false ∧ ¬ (("class" : Str) = "text") ∧ (("function" : Str) == "list") = false ∧ ¬ (("function" : Str) = "list") ∧ (("function" : Str) == "map") = false ∧ ¬ (("function" : Str) = "map") ∧ (("function" : Str) == "instance") = false ∧ ¬ (("function" : Str) = "instance") ∧ (("function" : Str) == "class") = false ∧ ¬ (("function" : Str) = "class") ∧ (("function" : Str) == "null") = false ∧ ¬ (("function" : Str) = "null") ∧ (("function" : Str) == "boolean") = false ∧ ¬ (("function" : Str) = "boolean") ∧ (("function" : Str) == "integer") = false ∧ ¬ (("function" : Str) = "integer") ∧ (("function" : Str) == "text") = false ∧ ¬ (("function" : Str) = "text") ∧ (("null" : Str) == "list") = false ∧ ¬ (("null" : Str) = "list") ∧ (("null" : Str) == "map") = false ∧ ¬ (("null" : Str) = "map") ∧ (("null" : Str) == "instance") = false ∧ ¬ (("null" : Str) = "instance") ∧ (("null" : Str) == "class") = false ∧ ¬ (("null" : Str) = "class") ∧ (("null" : Str) == "function") = false ∧ ¬ (("null" : Str) = "function") ∧ (("null" : Str) == "boolean") = false ∧ ¬ (("null" : Str) = "boolean") ∧ (("null" : Str) == "integer") = false ∧ ¬ (("null" : Str) = "integer") ∧ (("null" : Str) == "text") = false ∧ ¬ (("null" : Str) = "text") ∧ (("boolean" : Str) == "list") = false ∧ ¬ (("boolean" : Str) = "list") ∧ (("boolean" : Str) == "map") = false ∧ ¬ (("boolean" : Str) = "map") ∧ (("boolean" : Str) == "instance") = false ∧ ¬ (("boolean" : Str) = "instance") ∧ (("boolean" : Str) == "class") = false ∧ ¬ (("boolean" : Str) = "class") ∧ (("boolean" : Str) == "function") = false ∧ ¬ (("boolean" : Str) = "function") ∧ (("boolean" : Str) == "null") = false ∧ ¬ (("boolean" : Str) = "null") ∧ (("boolean" : Str) == "integer") = false ∧ ¬ (("boolean" : Str) = "integer") ∧ (("boolean" : Str) == "text") = false ∧ ¬ (("boolean" : Str) = "text") ∧ (("integer" : Str) == "list") = false ∧ ¬ (("integer" : Str) = "list") ∧ (("integer" : Str) == "map") = false ∧ ¬ (("integer" : Str) = "map") ∧ (("integer" : Str) == "instance") = false ∧ ¬ (("integer" : Str) = "instance") ∧ (("integer" : Str) == "class") = false ∧ ¬ (("integer" : Str) = "class") ∧ (("integer" : Str) == "function") = false ∧ ¬ (("integer" : Str) = "function") ∧ (("integer" : Str) == "null") = false ∧ ¬ (("integer" : Str) = "null") ∧ (("integer" : Str) == "boolean") = false ∧ ¬ (("integer" : Str) = "boolean") ∧ (("integer" : Str) == "text") = false ∧ ¬ (("integer" : Str) = "text") ∧ (("text" : Str) == "list") = false ∧ ¬ (("text" : Str) = "list") ∧ (("text" : Str) == "map") = false ∧ ¬ (("text" : Str) = "map") ∧ (("text" : Str) == "instance") = false ∧ ¬ (("text" : Str) = "instance") ∧ (("text" : Str) == "class") = false ∧ ¬ (("text" : Str) = "class") ∧ (("text" : Str) == "function") = false ∧ ¬ (("text" : Str) = "function") ∧ (("text" : Str) == "null") = false ∧ ¬ (("text" : Str) = "null") ∧ (("text" : Str) == "boolean") = false ∧ ¬ (("text" : Str) = "boolean") ∧ (("text" : Str) == "integer") = false ∧ ¬ (("text" : Str) = "integer") := by (repeat' apply And.intro) <;> decide +kernel
theorem kind_class {S : SV} {r : RV} (wf : WfR S r) : decide (kindR S r = "class") = (kinN S r).isSome := by
  cases r with
  | ob n =>
    obtain ⟨t, et⟩ : ∃ t, S.things[n]? = some t := ⟨_, List.getElem?_eq_getElem (wf n rfl)⟩
    simp only [kindR, kinN, et]
    cases t <;> simp [kindT, knd]
  | _ => simp [kindR, kinN, instO, partsR, knd]
theorem kind_inst {S : SV} {r : RV} (wf : WfR S r) : decide (kindR S r = "instance") = (instO S r).isSome := by
  cases r with
  | ob n =>
    obtain ⟨t, et⟩ : ∃ t, S.things[n]? = some t := ⟨_, List.getElem?_eq_getElem (wf n rfl)⟩
    simp only [kindR, instO, et]
    cases t <;> simp [kindT, knd]
  | _ => simp [kindR, kinN, instO, partsR, knd]
theorem kind_list {S : SV} {r : RV} (wf : WfR S r) : decide (kindR S r = "list") = (partsR S r).isSome := by
  cases r with
  | ob n =>
    obtain ⟨t, et⟩ : ∃ t, S.things[n]? = some t := ⟨_, List.getElem?_eq_getElem (wf n rfl)⟩
    simp only [kindR, partsR, et]
    cases t <;> simp [kindT, knd]
  | _ => simp [kindR, kinN, instO, partsR, knd]
theorem kind_text {S : SV} {r : RV} (wf : WfR S r) : kindR S r = "text" ↔ ∃ z, r = .txt z := by
  cases r with
  | ob n =>
    obtain ⟨t, et⟩ : ∃ t, S.things[n]? = some t := ⟨_, List.getElem?_eq_getElem (wf n rfl)⟩
    refine ⟨fun h => ?_, fun ⟨z, h⟩ => by cases h⟩
    simp only [kindR, et] at h
    cases t <;> simp [kindT, knd] at h
  | txt z => exact ⟨fun _ => ⟨z, rfl⟩, fun _ => rfl⟩
  | _ => exact ⟨fun h => (by simp [kindR, knd] at h), fun ⟨z, h⟩ => by cases h⟩
theorem anc_uniq {S : SV} {n : Nat} {l : List Nat} (h : Anc S n l) : ∀ {l' : List Nat}, Anc S n l' → l = l' := by
  induction h with
  | top h e =>
    intro l' h'
    cases h' with
    | top => rfl
    | up h2 e2 a2 => rw [e] at e2; cases e2
  | up h e a ih =>
    intro l' h'
    cases h' with
    | top h2 e2 => rw [e] at e2; cases e2
    | up h2 e2 a2 =>
      rw [e] at e2
      cases e2
      rw [ih a2]
theorem anc_len {S : SV} {ps : List (Option Nat)} (I : SI S ps) {n : Nat} (h : n < ps.length) : Anc S n (ancOf S n) ∧ (ancOf S n).length ≤ ps.length := by
  obtain ⟨l, hl, hn⟩ := I.anc (n + 1) n (by omega) h
  have h2 := anc_of ⟨l, hl⟩
  exact ⟨h2, by rw [anc_uniq h2 hl]; omega⟩
def ToldB (H : Hp) (t : Addr) : BR → Prop
  | .val r => H t = some (.tup [.str "told", vOf r])
  | .err k m => H t = some (.tup [.str "raised", .str k, .str m])
  | .mk _ => False
def spLIs (w : World) (c : Cs) : Sp := fun vs H Q _ => match vs with
  | [.ref y, .ref al, vx, vy, .ref t] => ∃ x S ps rx ry, y = x.y ∧ Sto w c H x S ∧ SI S ps ∧ ps.length ≤ 1000 ∧ GAb c al ps H ∧ IsVal c H vx rx ∧ IsVal c H vy ry ∧ WfR S rx ∧ WfR S ry ∧ ToldB H t (isR S rx ry) ∧ ∀ H1, Same H H1 → Q (.bl true) H1
  | _ => False
def IsI (c : Cs) (S : SV) (H : Hp) (y al t : Addr) (vx vy : V) (m o : Nat) (n0 : Nat) (i : Nat) (σ : L2.St) (H' : Hp) : Prop := H' = H ∧ ∃ b vk v7, σ = [some (.ref y), some (.ref al), some vx, some vy, some (.ref t), some (.bl b), some vk, v7] ∧ ((∃ p k l, vk = .ref p ∧ IsRef c H p (k : Nat) ∧ Anc S k l ∧ decide (m ∈ ancOf S o) = (b || decide (m ∈ l)) ∧ l.length + i ≤ n0) ∨ (vk = .non ∧ b = decide (m ∈ ancOf S o)))
set_option maxHeartbeats 4000000 in
theorem ok_lis (A : At K mg "_law_is" "_law_is" s_law_is ["store", "above", "x", "y", "told"]) (T : Txt K mg c) (H_law_kind : Has P w K mg base CX0 "_law_kind" 4 ["store", "value"] (spLKind w c)) : Has P w K mg base CX0 "_law_is" 5 ["store", "above", "x", "y", "told"] (spLIs w c) := by
  have Sc := sc_law_is
  refine has_of A Sc (fun vs H Q E h => ?_) (fun cdv f A outer s H vs Q E hr h => ?_)
  · unfold spLIs at h; split at h; rfl; cases h
  · unfold spLIs at h
    split at h
    · rename_i y al vx vy t
      obtain ⟨x, S, ps, rx, ry, rfl, hS, I, lps, ⟨vs, eal, hvs⟩, hx, hy, wx, wy, ht, h⟩ := h
      obtain ⟨sdx, es⟩ := hS.st
      refine ⟨_, (pss_cons (ps_if (pt_cmpR (op_fNe hr.units) (fe_call H_law_kind (hr.mono (by walk_at "rm")) (by rfl) pass0 (pa_cons (fe_var 0) (pa_cons (fe_var 3) pa_nil))) pe_str (nomark _)) (pss_one (ps_ret (pe_cmpR (op_fEq hr.units) (fe_var 4) (fe_tup (pa_cons pe_str (pa_cons pe_str (pa_cons pe_str pa_nil)))) (nomark _)))) pss_nil)
      (pss_cons (ps_set (i := 5) Sc.nd rfl (.inl rfl) pe_bl)
      (pss_cons (ps_if (pt_cmpR (op_fEq hr.units) (fe_call H_law_kind (hr.mono (by walk_at "rm")) (by rfl) pass0 (pa_cons (fe_var 0) (pa_cons (fe_var 2) pa_nil))) pe_str (nomark _)) (pss_cons (ps_set (i := 6) Sc.nd rfl (.inl rfl) (fe_fld (pe_ix ix_fx (fe_fld (fe_var 0) T.pl_things rfl) (fe_fld (fe_var 2) T.pl_number rfl) (fun _ _ => rfl)) T.pl_owner rfl))
      (pss_one (ps_for PassesOwn.never rfl (pi_range1 (by rfl) T.no_range (pa_cons (pe_op op_fAdd (pe_callB call_fLen (by rfl) T.no_len (by decide +kernel) (pa_cons (fe_var 1) pa_nil)) pe_int) pa_nil)) (pg_name (i := 7) Sc.nd rfl (.inl rfl)) (pss_cons (ps_if (pt_cmpR op_fIsN (fe_var 6) pe_non (nomark _)) (pss_one ps_break) pss_nil)
      (pss_cons (ps_set (i := 5) Sc.nd rfl (.inl rfl) (pe_or (fe_var 5) (pe_one (pe_cmpR (op_fEq hr.units) (fe_fld (fe_var 6) T.pl_number rfl) (fe_fld (fe_var 3) T.pl_number rfl) (nomark _)))))
      (pss_one (ps_set (i := 6) Sc.nd rfl (.inl rfl) (pe_ix ix_fx (fe_var 1) (fe_fld (fe_var 6) T.pl_number rfl) (fun _ _ => rfl))))))))) pss_nil)
      (pss_one (ps_ret (pe_and (pe_cmpR (op_fEq hr.units) (pe_ix ix_fx (fe_var 4) pe_int (fun _ _ => rfl)) pe_str (nomark _)) (pe_and (pe_callB (call_fIsiA T.kit) (by rfl) T.no_isinstance (by decide +kernel) (pa_cons (pe_ix ix_fx (fe_var 4) pe_int (fun _ _ => rfl)) (pa_cons (fe_ty (n := "bool") (by rfl) T.no_bool (by decide +kernel)) pa_nil))) (pe_one (pe_cmpR (op_fEq hr.units) (pe_ix ix_fx (fe_var 4) pe_int (fun _ _ => rfl)) (fe_var 5) (nomark _)))))))))), ?_⟩
      walk_at "fx0"
      simp only [tSeq]
      refine cut_ fun N hN => ?_
      repeat (walk_at "oxs")
      refine ⟨x, S, ry, rfl, hS, hy, wy, ?_⟩
      repeat (walk_at "oxs")
      have kc := kind_class wy
      cases ek : kinN S ry with
      | none =>
        rw [ek] at kc
        rw [if_pos (of_decide_eq_false kc)]
        unfold isR at ht
        rw [ek] at ht
        intro p H1 np s1 ep
        exact tup_same (R := fun b => Q (.bl b) H1) (.inl (.inl (s1 _ _ ht))) (.inl (.inl ep)) rfl (h H1 s1)
      | some m =>
        rw [ek] at kc
        rw [if_neg (fun z => z (of_decide_eq_true kc))]
        obtain ⟨rfl, _⟩ := kin_at ek
        obtain ⟨py, rfl, ydx, epy⟩ := id hy
        unfold isR at ht
        rw [ek] at ht
        refine hN _ _ ?_
        clear hN N
        simp only [tSeq]
        refine cut_ fun N hN => ?_
        repeat (walk_at "oxs")
        refine hN _ _ ?_
        clear hN N
        simp only [tSeq]
        refine cut_ fun N hN => ?_
        have fin : ∀ b v6 v7, b = (match instO S rx with | some o => decide (m ∈ ancOf S o) | none => false) → N [some (.ref x.y), some (.ref al), some vx, some (.ref py), some (.ref t), some (.bl b), v6, v7] H := fun b v6 v7 hb => by
          refine hN _ _ ?_
          clear hN N
          have ht2 : H t = some (.tup [.str (Str.ofString "told"), .bl b]) := by rw [hb]; exact ht
          repeat (walk_at "oxs")
          refine ⟨_, rl_t ht2, _, rfl, ?_⟩
          repeat (walk_at "oxs")
          refine ⟨_, rl_t ht2, _, rfl, ?_⟩
          repeat (walk_at "oxs")
          refine ⟨_, rl_t ht2, _, rfl, ?_⟩
          repeat (walk_at "oxs")
          simpa using h H (Same.refl _)
        repeat (walk_at "oxs")
        refine ⟨x, S, rx, rfl, hS, hx, wx, ?_⟩
        repeat (walk_at "oxs")
        have ki := kind_inst wx
        cases ei : instO S rx with
        | none =>
          rw [ei] at ki fin
          rw [if_neg (of_decide_eq_false ki)]
          exact fin _ _ _ rfl
        | some o =>
          rw [ei] at ki fin
          rw [if_pos (of_decide_eq_true ki)]
          obtain ⟨n, fs, rfl, en⟩ := inst_at ei
          obtain ⟨px, rfl, xdx, epx⟩ := id hx
          obtain ⟨a, b2, h1, h2, h3⟩ := hS.num en
          obtain ⟨dx, ra, nd, kvs, rfl, e1, e2, e3, e4⟩ := id h2
          have ho := I.on n _ en
          obtain ⟨hA, hAl⟩ := anc_len I ho
          repeat (first | walk_at "oxs" | simp only [epx] | simp only [es])
          refine ⟨_, rl_l hS.et, _, h3, ?_⟩
          repeat (first | walk_at "oxs" | simp only [e1])
          refine for_ ?_
          repeat (walk_at "oxs")
          refine ⟨_, rl_l eal, ?_⟩
          rw [Paired.length hvs]
          refine ⟨by omega, by omega, ?_⟩
          refine loop_range (IsI c S H x.y al t (.ref px) (.ref py) m o ps.length) ⟨rfl, false, .ref ra, none, rfl, .inl ⟨ra, o, _, rfl, e2, hA, by simp, by omega⟩⟩ ?_ ?_
          · rintro i σ H' hi ⟨rfl, b, vk, v7, rfl, hcase⟩
            simp only [gName, List.set_cons_succ, List.set_cons_zero]
            rcases hcase with ⟨p, k, l, rfl, ⟨pdx, epp⟩, hl, hd, hn⟩ | ⟨rfl, hd⟩
            · obtain ⟨ka, kp, kms, ekk⟩ := hl.kin
              have hk := I.on k _ ekk
              have hk : k < ps.length := hk
              have ep := List.getElem?_eq_getElem hk
              obtain ⟨_, _, e9⟩ := I.kin k _ ep
              rw [ekk] at e9
              have hpp : ps[k] = kp := by cases e9; rfl
              rw [hpp] at ep
              have hpar : parentOf S k = kp := by unfold parentOf; rw [ekk]
              have hkv : k < vs.length := by rw [Paired.length hvs]; exact hk
              have ev := List.getElem?_eq_getElem hkv
              generalize vs[k] = v at ev
              obtain ⟨kp2, ep2, hv⟩ := paired_get hvs ev
              rw [ep] at ep2
              cases ep2
              have eiv : atI vs (k : Nat) = some v := atI_nat ev
              have nxt : ∀ b2 : Bool, b2 = (b || decide (k = m)) → IsI c S H' x.y al t (.ref px) (.ref py) m o ps.length (i + 1) [some (.ref x.y), some (.ref al), some (.ref px), some (.ref py), some (.ref t), some (.bl b2), some v, some (.int (i : Nat))] H' := fun b2 hb2 => by
                refine ⟨rfl, b2, v, _, rfl, ?_⟩
                cases hl with
                | top h9 e9 =>
                  rw [hpar] at e9
                  subst e9
                  obtain rfl : v = .non := hv
                  refine .inr ⟨rfl, ?_⟩
                  rw [hd, hb2]
                  simp [eq_comm]
                | up h9 e9 a9 =>
                  rename_i p9 l9
                  rw [hpar] at e9
                  subst e9
                  obtain ⟨q9, rfl, hq9⟩ := hv
                  refine .inl ⟨q9, p9, l9, rfl, hq9, a9, ?_, by rw [List.length_cons] at hn; omega⟩
                  rw [hd, hb2]
                  simp [Bool.or_assoc, eq_comm]
              cases b with
              | true =>
                repeat (first | walk_at "oxs" | simp only [epp] | simp only [epy])
                exact ⟨_, rl_l eal, _, eiv, nxt true (by simp)⟩
              | false =>
                repeat (first | walk_at "oxs" | simp only [epp] | simp only [epy])
                refine ⟨_, rl_l eal, _, eiv, nxt _ ?_⟩
                simp
                omega
            · repeat (walk_at "oxs")
              exact fin _ _ _ hd
          · rintro σ H' ⟨rfl, b, vk, v7, rfl, hcase⟩
            rcases hcase with ⟨p, k, l, rfl, ⟨pdx, epp⟩, hl, hd, hn⟩ | ⟨rfl, hd⟩
            · cases hl <;> (simp only [List.length_cons] at hn; omega)
            · exact fin _ _ _ hd
    · cases h

theorem added_same {H : Hp} {t : Addr} {S : SV} {rx ry : RV} {k m : Str} (h : ToldB H t (addR S rx ry)) (e : addR S rx ry = .err k m) : H t = some (.tup [.str "raised", .str k, .str m]) := by rw [e] at h; exact h
def spLAdded (w : World) (c : Cs) : Sp := fun vs H Q _ => match vs with
  | [.ref y, vx, vy, .ref t, .int m] => ∃ x S rx ry, y = x.y ∧ Sto w c H x S ∧ OkB S ∧ (∀ (n : Nat) (rs : List RV), S.things[n]? = some (.parts rs) → ∀ r ∈ rs, isN r = true) ∧ IsVal c H vx rx ∧ IsVal c H vy ry ∧ VR S rx ∧ VR S ry ∧ S.things.length < 99999 ∧
      ((ToldB H t (addR S rx ry) ∧ m = (S.things.length : Nat)) ∨ ∃ (n : Nat) (r1 r2 : List RV) (ra : Addr), m = (n : Nat) ∧ partsR S rx = some r1 ∧ partsR S ry = some r2 ∧ r1.length + r2.length ≤ 1000 ∧ H t = some (.tup [.str "told", .ref ra]) ∧ IsRef c H ra (n : Nat) ∧ S.things[n]? = some (.parts (r1 ++ r2)) ∧ S.things.length = n + 1) ∧ ∀ H1, Same H H1 → Q (.bl true) H1
  | _ => False
set_option maxHeartbeats 8000000 in
theorem ok_ladded (A : At K mg "_law_added" "_law_added" s_law_added ["store", "x", "y", "told", "many"]) (T : Txt K mg c) (H_law_kind : Has P w K mg base CX0 "_law_kind" 4 ["store", "value"] (spLKind w c)) (M_Ref : HasC P w K mg base CX0 c.Ref "Ref" 1 ["self", "number"] (spMk_Ref K c)) (M_Ref___eq__ : HasM P w K mg base CX0 c.Ref "__eq__" 1 ["self", "other"] (spEqRef c)) : Has P w K mg base CX0 "_law_added" 5 ["store", "x", "y", "told", "many"] (spLAdded w c) := by
  have Sc := sc_law_added
  refine has_of A Sc (fun vs H Q E h => ?_) (fun cdv f A outer s H vs Q E hr h => ?_)
  · unfold spLAdded at h; split at h; rfl; cases h
  · unfold spLAdded at h
    split at h
    · rename_i y vx vy t m
      obtain ⟨x, S, rx, ry, rfl, hS, ok, hint, hx, hy, wx, wy, hlen, htold, h⟩ := h
      obtain ⟨sdx, es⟩ := hS.st
      refine ⟨_, (pss_cons (ps_set (i := 5) Sc.nd rfl (.inl rfl) (fe_tup (pa_cons (fe_call H_law_kind (hr.mono (by walk_at "rm")) (by rfl) pass0 (pa_cons (fe_var 0) (pa_cons (fe_var 1) pa_nil))) (pa_cons (fe_call H_law_kind (hr.mono (by walk_at "rm")) (by rfl) pass0 (pa_cons (fe_var 0) (pa_cons (fe_var 2) pa_nil))) pa_nil))))
      (pss_cons (ps_if (pt_cmpR (op_fEq hr.units) (fe_var 5) (fe_tup (pa_cons pe_str (pa_cons pe_str pa_nil))) (nomark _)) (pss_cons (ps_if (pt_cmpR op_fGt (pe_op op_fAdd (pe_callB call_fLen (by rfl) T.no_len (by decide +kernel) (pa_cons (fe_var 1) pa_nil)) (pe_callB call_fLen (by rfl) T.no_len (by decide +kernel) (pa_cons (fe_var 2) pa_nil))) pe_int (nomark _)) (pss_one (ps_ret (pe_and (pe_cmpR (op_fEq hr.units) (fe_var 3) (fe_tup (pa_cons pe_str (pa_cons pe_str (pa_cons pe_str pa_nil)))) (nomark _)) (pe_one (pe_cmpR (op_fEq hr.units) (pe_callB call_fLen (by rfl) T.no_len (by decide +kernel) (pa_cons (fe_fld (fe_var 0) T.pl_things rfl) pa_nil)) (fe_var 4) (nomark _)))))) pss_nil)
      (pss_one (ps_ret (pe_and (pe_cmpR (op_fEq hr.units) (fe_var 3) (fe_tup (pa_cons pe_str (pa_cons (pe_op op_fAdd (fe_var 1) (fe_var 2)) pa_nil))) (nomark _)) (pe_one (pe_cmpR (op_fEq hr.units) (pe_callB call_fLen (by rfl) T.no_len (by decide +kernel) (pa_cons (fe_fld (fe_var 0) T.pl_things rfl) pa_nil)) (fe_var 4) (nomark _))))))) pss_nil)
      (pss_cons (ps_if (pt_cmpR (op_fEq hr.units) (fe_var 5) (fe_tup (pa_cons pe_str (pa_cons pe_str pa_nil))) (nomark _)) (pss_cons (ps_set (i := 6) Sc.nd rfl (.inl rfl) (fe_fld (pe_ix ix_fx (fe_fld (fe_var 0) T.pl_things rfl) (fe_fld (fe_var 1) T.pl_number rfl) (fun _ _ => rfl)) T.pl_held rfl))
      (pss_cons (ps_set (i := 7) Sc.nd rfl (.inl rfl) (fe_fld (pe_ix ix_fx (fe_fld (fe_var 0) T.pl_things rfl) (fe_fld (fe_var 2) T.pl_number rfl) (fun _ _ => rfl)) T.pl_held rfl))
      (pss_cons (ps_if (pt_cmpR op_fGt (pe_op op_fAdd (pe_callB call_fLen (by rfl) T.no_len (by decide +kernel) (pa_cons (fe_var 6) pa_nil)) (pe_callB call_fLen (by rfl) T.no_len (by decide +kernel) (pa_cons (fe_var 7) pa_nil))) pe_int (nomark _)) (pss_one (ps_ret (pe_and (pe_cmpR (op_fEq hr.units) (fe_var 3) (fe_tup (pa_cons pe_str (pa_cons pe_str (pa_cons pe_str pa_nil)))) (nomark _)) (pe_one (pe_cmpR (op_fEq hr.units) (pe_callB call_fLen (by rfl) T.no_len (by decide +kernel) (pa_cons (fe_fld (fe_var 0) T.pl_things rfl) pa_nil)) (fe_var 4) (nomark _)))))) pss_nil)
      (pss_cons (ps_if (PW.pt (pw_or (pt_cmpR (op_fOr (op_fNeT M_Ref___eq__ (hr.mono (by walk_at "rm")) pass0) (op_fNe hr.units)) (fe_var 3) (fe_tup (pa_cons pe_str (pa_cons (fe_make (k := _) M_Ref (hr.mono (by walk_at "rm")) (by rfl) pass0 (pa_cons (fe_var 4) pa_nil)) pa_nil))) (nomark _)) (pw_or1 (pt_cmpR (op_fNe hr.units) (pe_callB call_fLen (by rfl) T.no_len (by decide +kernel) (pa_cons (fe_fld (fe_var 0) T.pl_things rfl) pa_nil)) (pe_op op_fAdd (fe_var 4) pe_int) (nomark _))))) (pss_one (ps_ret pe_bl)) pss_nil)
      (pss_one (ps_ret (pe_cmpR (op_fEq hr.units) (fe_fld (pe_ix ix_fx (fe_fld (fe_var 0) T.pl_things rfl) (fe_var 4) (fun _ _ => rfl)) T.pl_held rfl) (pe_op op_fAdd (fe_var 6) (fe_var 7)) (nomark _)))))))) pss_nil)
      (pss_cons (ps_set (i := 8) Sc.nd rfl (.inl rfl) (fe_tup (pa_cons pe_str (pa_cons pe_str (pa_cons (pe_op op_fAdd (pe_op op_fAdd (pe_op op_fAdd pe_str (pe_ix ix_fx (fe_var 5) pe_int (fun _ _ => rfl))) pe_str) (pe_ix ix_fx (fe_var 5) pe_int (fun _ _ => rfl))) pa_nil)))))
      (pss_one (ps_ret (pe_and (pe_cmpR (op_fEq hr.units) (fe_var 3) (fe_var 8) (nomark _)) (pe_one (pe_cmpR (op_fEq hr.units) (pe_callB call_fLen (by rfl) T.no_len (by decide +kernel) (pa_cons (fe_fld (fe_var 0) T.pl_things rfl) pa_nil)) (fe_var 4) (nomark _)))))))))), ?_⟩
      walk_at "fx0"
      have k1 := kindR_len (S := S) (r := rx)
      have k2 := kindR_len (S := S) (r := ry)
      simp only [tSeq]
      refine cut_ fun N hN => ?_
      repeat (walk_at "oxs")
      refine ⟨x, S, rx, rfl, hS, hx, wx.wf, ?_⟩
      repeat (walk_at "oxs")
      refine ⟨x, S, ry, rfl, hS, hy, wy.wf, ?_⟩
      repeat (walk_at "oxs")
      intro pk H1 npk s1 epk
      refine hN _ _ ?_
      clear hN N
      have hS1 := hS.same s1
      have es1 := s1 _ _ es
      have hx1 := hx.same s1
      have hy1 := hy.same s1
      simp only [tSeq]
      refine cut_ fun N hN => ?_
      repeat (walk_at "oxs")
      intro pt H2 npt s2 ept
      have s12 := s1.trans s2
      refine ⟨_, .tup (.inl (.inl (s2 _ _ epk))) (dpAll_sc rfl), _, .tup (.inl (.inl ept)) (dpAll_sc rfl), tup_okd rfl, tup_okd rfl, ?_⟩
      rw [two_eqv]
      have fin : ∀ H3, Same H H3 → m = (S.things.length : Nat) → ∃ ys, Rl K H3 x.tl ys ∧ Q (.bl (decide ((ys.length : Int) = m))) H3 := fun H3 s3 e => by
        refine ⟨_, rl_l (s3 _ _ hS.et), ?_⟩
        rw [List.length_map, Paired.length hS.th, e, decide_eq_true rfl]
        exact h H3 s3
      by_cases q : kindR S rx = "text" ∧ kindR S ry = "text"
      · rw [if_pos (decide_eq_true q)]
        obtain ⟨a, rfl⟩ := (kind_text wx.wf).mp q.1
        obtain ⟨b, rfl⟩ := (kind_text wy.wf).mp q.2
        cases hx
        cases hy
        have la := wx.tx a rfl
        have lb := wy.tx b rfl
        have lab : (a ++ b).length = a.length + b.length := Str.length_append ..
        have htold : ToldB H t (addR S (.txt a) (.txt b)) ∧ m = (S.things.length : Nat) := by
          rcases htold with z | ⟨_, _, _, _, _, z, _⟩
          · exact z
          · cases z
        obtain ⟨ht, hm⟩ := htold
        have ht : ToldB H t (if (a ++ b).length ≤ 1000 then .val (.txt (a ++ b)) else .err "SizeError" "too large") := ht
        dsimp only
        refine ⟨by rw [sizeLine_eq]; omega, by rw [sizeLine_eq]; omega, ?_⟩
        by_cases z : (a ++ b).length ≤ 1000
        · rw [if_pos z] at ht
          rw [if_neg (by omega)]
          refine ⟨by rw [sizeLine_eq]; omega, fun p3 H3 np3 s3 ep3 => ?_⟩
          have s03 := s12.trans s3
          refine ⟨_, .tup (.inl (.inl (s03 _ _ ht))) (dpAll_sc rfl), _, .tup (.inl (.inl ep3)) (dpAll_sc rfl), tup_okd rfl, tup_okd rfl, ?_⟩
          rw [show vOf (.txt (a ++ b)) = .str (a ++ b) from rfl, tup_eqv rfl, if_pos rfl]
          simp only [s03 _ _ es]
          repeat (walk_at "oxs")
          exact fin H3 s03 hm
        · rw [if_neg z] at ht
          rw [if_pos (by omega)]
          intro p3 H3 np3 s3 ep3
          have s03 := s12.trans s3
          refine ⟨_, .tup (.inl (.inl (s03 _ _ ht))) (dpAll_sc rfl), _, .tup (.inl (.inl ep3)) (dpAll_sc rfl), tup_okd rfl, tup_okd rfl, ?_⟩
          rw [tup_eqv rfl, if_pos rfl]
          simp only [s03 _ _ es]
          repeat (walk_at "oxs")
          exact fin H3 s03 hm
      rw [if_neg (by simpa using q)]
      refine hN _ _ ?_
      clear hN N
      have es2 := s2 _ _ es1
      have nt : ¬ ∃ a b, rx = .txt a ∧ ry = .txt b := fun ⟨a, b, e1, e2⟩ => q ⟨(kind_text wx.wf).mpr ⟨a, e1⟩, (kind_text wy.wf).mpr ⟨b, e2⟩⟩
      have eA : addR S rx ry = (match partsR S rx, partsR S ry with
        | some r1, some r2 => if r1.length + r2.length ≤ 1000 then .mk (r1 ++ r2) else .err "SizeError" "too large"
        | _, _ => addE S rx ry) := by
        unfold addR
        split
        · exact absurd ⟨_, _, rfl, rfl⟩ nt
        · rfl
      rw [eA] at htold
      simp only [tSeq]
      refine cut_ fun N hN => ?_
      repeat (walk_at "oxs")
      intro pu H3 npu s3 epu
      have s03 := s12.trans s3
      refine ⟨_, .tup (.inl (.inl (s3 _ _ (s2 _ _ epk)))) (dpAll_sc rfl), _, .tup (.inl (.inl epu)) (dpAll_sc rfl), tup_okd rfl, tup_okd rfl, ?_⟩
      rw [two_eqv]
      have kl1 := kind_list wx.wf
      have kl2 := kind_list wy.wf
      by_cases q2 : kindR S rx = "list" ∧ kindR S ry = "list"
      · rw [if_pos (decide_eq_true q2)]
        rw [decide_eq_true q2.1] at kl1
        rw [decide_eq_true q2.2] at kl2
        obtain ⟨r1, p1⟩ := Option.isSome_iff_exists.mp kl1.symm
        obtain ⟨r2, p2⟩ := Option.isSome_iff_exists.mp kl2.symm
        simp only [p1, p2] at htold
        obtain ⟨n1, rfl, en1⟩ := parts_at p1
        obtain ⟨n2, rfl, en2⟩ := parts_at p2
        obtain ⟨q1, rfl, qdx1, eq1⟩ := id hx
        obtain ⟨q2', rfl, qdx2, eq2⟩ := id hy
        have hS3 := hS.same s03
        obtain ⟨a1, b1, h11, h12, h13⟩ := hS3.num en1
        obtain ⟨a2, b2, h21, h22, h23⟩ := hS3.num en2
        obtain ⟨dx1, l1, xs1, rfl, e11, e12, e13⟩ := id h12
        obtain ⟨dx2, l2, xs2, rfl, e21, e22, e23⟩ := id h22
        have es3 := s3 _ _ es2
        have eq13 := s03 _ _ eq1
        have eq23 := s03 _ _ eq2
        repeat (first | walk_at "oxs" | simp only [es3] | simp only [eq13])
        refine ⟨_, rl_l hS3.et, _, h13, ?_⟩
        repeat (first | walk_at "oxs" | simp only [e11] | simp only [eq23])
        refine ⟨_, rl_l hS3.et, _, h23, ?_⟩
        repeat (first | walk_at "oxs" | simp only [e21])
        refine ⟨_, rl_l e12, _, rl_l e22, ?_⟩
        have w1 : xs1.length = r1.length := Paired.length e13
        have w2 : xs2.length = r2.length := Paired.length e23
        have u1 := ok.pt _ _ en1
        have u2 := ok.pt _ _ en2
        obtain ⟨v1, v1s⟩ := vs_ints2 e13 (hint _ _ en1)
        obtain ⟨v2, v2s⟩ := vs_ints2 e23 (hint _ _ en2)
        rcases htold with ⟨ht, hm⟩ | ⟨n, r1', r2', ra, rfl, z1, z2, hle, ht, hra, en, hln⟩
        · by_cases z : r1.length + r2.length ≤ 1000
          · rw [if_pos z] at ht; exact ht.elim
          · rw [if_neg z] at ht
            rw [if_pos (by omega)]
            intro p4 H4 np4 s4 ep4
            have s04 := s03.trans s4
            refine ⟨_, .tup (.inl (.inl (s04 _ _ ht))) (dpAll_sc rfl), _, .tup (.inl (.inl ep4)) (dpAll_sc rfl), tup_okd rfl, tup_okd rfl, ?_⟩
            rw [tup_eqv rfl, if_pos rfl]
            simp only [s04 _ _ es]
            repeat (walk_at "oxs")
            exact fin H4 s04 hm
        · cases z1
          cases z2
          rw [if_neg (by omega)]
          unfold spMk_Ref
          intro rb rbx H4 nrb s4 erb
          intro p5 H5 np5 s5 ep5
          have s05 := (s03.trans s4).trans s5
          have erb5 := s5 _ _ erb
          obtain ⟨rax, era⟩ := hra.same s05
          refine .inl ⟨⟨t, p5, _, _, rfl, rfl, .inl (.inl (s05 _ _ ht)), .inl (.inl ep5), Prs.cons (.inl ⟨rfl, rfl, rfl⟩) (Prs.cons (.inr ⟨ra, rb, _, _, _, _, rfl, rfl, era, erb5, fun H6 Q6 E6 e6 q6 => ⟨(n : Nat), (n : Nat), ⟨_, e6 _ _ era⟩, ⟨_, e6 _ _ erb5⟩, ?_⟩⟩) Prs.nil)⟩, fun H6 e6 => ?_⟩
          · rw [decide_eq_true rfl]
            exact q6 H6 Ext.rfl'
          have s06 : Same H H6 := s05.trans e6
          have hS6 := hS.same s06
          obtain ⟨a3, b3, h31, h32, h33⟩ := hS6.num en
          obtain ⟨dx3, l3, xs3, rfl, e31, e32, e33⟩ := id h32
          have es6 := s06 _ _ es
          have e11' := ((s4.trans s5).trans e6) _ _ e11
          have e21' := ((s4.trans s5).trans e6) _ _ e21
          have e12' := ((s4.trans s5).trans e6) _ _ e12
          have e22' := ((s4.trans s5).trans e6) _ _ e22
          repeat (first | walk_at "oxs" | simp only [es6])
          refine ⟨_, rl_l hS6.et, ?_⟩
          rw [List.length_map, Paired.length hS6.th, hln, if_neg (by omega)]
          refine ⟨_, rl_l hS6.et, _, h33, ?_⟩
          repeat (first | walk_at "oxs" | simp only [e31] | simp only [e12'] | simp only [e22'])
          refine ⟨by rw [sizeLine_eq]; omega, fun p7 H7 np7 s7 ep7 => ?_⟩
          obtain ⟨v3, v3s⟩ := vs_ints2 e33 (hint _ _ en)
          have e3 : xs3 = xs1 ++ xs2 := by rw [v3, v1, v2, List.map_append]
          rw [← e3] at ep7
          exact lst_same (R := fun b => Q (.bl b) H7) (.inl (.inl (s7 _ _ e32))) (.inl (.inl ep7)) v3s (h H7 (s06.trans s7))
      · rw [if_neg (by simpa using q2)]
        refine hN _ _ ?_
        clear hN N
        have eE : (match partsR S rx, partsR S ry with
          | some r1, some r2 => if r1.length + r2.length ≤ 1000 then BR.mk (r1 ++ r2) else .err "SizeError" "too large"
          | _, _ => addE S rx ry) = addE S rx ry := by
          cases z1 : partsR S rx with
          | none => rfl
          | some r1 =>
            cases z2 : partsR S ry with
            | none => rfl
            | some r2 =>
              rw [z1] at kl1
              rw [z2] at kl2
              exact absurd ⟨of_decide_eq_true kl1, of_decide_eq_true kl2⟩ q2
        have htold : ToldB H t (addE S rx ry) ∧ m = (S.things.length : Nat) := by
          rcases htold with ⟨z, z2⟩ | ⟨_, r1, r2, _, _, z1, z2, _⟩
          · rw [eE] at z; exact ⟨z, z2⟩
          · rw [z1] at kl1
            rw [z2] at kl2
            exact absurd ⟨of_decide_eq_true kl1, of_decide_eq_true kl2⟩ q2
        obtain ⟨ht, hm⟩ := htold
        have ht : H t = some (.tup [.str "raised", .str "KindError", .str ("" ++ "cannot add " ++ kindR S rx ++ " and " ++ kindR S ry)]) := ht
        rw [str_nil] at ht
        have epk3 := s3 _ _ (s2 _ _ epk)
        have a1 : Str.length (Str.ofString "cannot add ") = 11 := rfl
        have a3 : Str.length (Str.ofString " and ") = 5 := rfl
        repeat (walk_at "oxs")
        refine ⟨_, rl_t epk3, _, rfl, ?_⟩
        dsimp only
        refine ⟨by rw [a1, sizeLine_eq]; omega, by simp only [Str.length_append, a1, a3, sizeLine_eq]; omega, _, rl_t epk3, _, rfl, ?_⟩
        dsimp only
        refine ⟨by simp only [Str.length_append, a1, a3, sizeLine_eq]; omega, fun p4 H4 np4 s4 ep4 => ?_⟩
        have s04 := s03.trans s4
        refine ⟨_, .tup (.inl (.inl (s04 _ _ ht))) (dpAll_sc rfl), _, .tup (.inl (.inl ep4)) (dpAll_sc rfl), tup_okd rfl, tup_okd rfl, ?_⟩
        rw [tup_eqv rfl, if_pos rfl]
        simp only [s04 _ _ es]
        repeat (walk_at "oxs")
        exact fin H4 s04 hm
    · cases h
end

section
variable {P : Program} {w : World} {K : PySem.W.Frag} {mg : Str → Option Value} {base : Heap} {c : Cs}
/-! ### called within an except suite -/
theorem okq_at (A : AtM K c.Store "at" "Store.at" s_Store_at ["self", "ref"]) (T : Txt K mg c) : HasMQ P w K mg base c.Store "at" 1 ["self", "ref"] (spAt w c) := by
  have Sc := sc_Store_at
  refine hasMQ_of A Sc (fun vs H Q E h => ?_) (fun cdv f A outer s H vs Q p0 hr h => ?_)
  · unfold spAt at h; split at h; rfl; cases h
  · unfold spAt at h
    split at h
    · rename_i y r
      obtain ⟨x, S, n, t, rfl, hS, ⟨rdx, er⟩, et, h⟩ := h
      obtain ⟨dx, e0⟩ := hS.st
      obtain ⟨a, b, h1, h2, h3⟩ := hS.num et
      refine ⟨_, (pss_one (ps_ret (pe_ix ix_fx (fe_fld (fe_var 0) T.pl_things rfl) (fe_fld (fe_var 1) T.pl_number rfl) (fun _ _ => rfl)))), ?_⟩
      try dsimp only [cxOf, Cx.nox, Cx.wish]
      walk_at "ox"
      simp only [e0]
      walk_at "ox"
      simp only [er]
      walk_at "ox"
      exact ⟨_, rl_l hS.et, _, h3, h a b h1 h2⟩
    · cases h
theorem okq_thing (A : At K mg "thing_of" "thing_of" s_thing_of ["store", "value"]) (T : Txt K mg c) (MQ_Store_at : HasMQ P w K mg base c.Store "at" 1 ["self", "ref"] (spAt w c)) : HasQ P w K mg base "thing_of" 2 ["store", "value"] (spThing w c) := by
  have Sc := sc_thing_of
  refine hasQ_of A Sc (fun vs H Q E h => ?_) (fun cdv f A outer s H vs Q p0 hr h => ?_)
  · unfold spThing at h; split at h; rfl; cases h
  · unfold spThing at h
    split at h
    · rename_i y v
      obtain ⟨x, S, r, rfl, hS, hv, hw, h⟩ := h
      obtain ⟨dx0, e0⟩ := hS.st
      refine ⟨_, (pss_cons (ps_if (pt_val (pe_callB (call_fIsiO T.kit) (by rfl) T.no_isinstance (by decide +kernel) (pa_cons (fe_var 1) (pa_cons (pe_glob (v := .ref c.Ref) (by rfl) T.mg_Ref rfl) pa_nil)))) (pss_one (ps_ret (fe_methQ MQ_Store_at T.cl_Store (hr.mono (by walk_at "rm")) ⟨_, List.mem_cons_self⟩ (fe_var 0) (pa_cons (fe_var 1) pa_nil)))) pss_nil)
      (pss_one (ps_ret pe_non))), ?_⟩
      try dsimp only [cxOf, Cx.nox, Cx.wish]
      cases r with
      | ob n =>
        obtain ⟨a, rfl, dx, e1⟩ := hv
        have hn := hw n rfl
        obtain ⟨t, et⟩ : ∃ t, S.things[n]? = some t := ⟨S.things[n], List.getElem?_eq_getElem hn⟩
        repeat (first | walk_at "oxs" | simp only [e1] | simp only [e0])
        refine ⟨x, S, n, t, rfl, hS, ⟨dx, e1⟩, et, fun a' b h1 h2 => ?_⟩
        obtain ⟨dx2, fs2, e2⟩ := h2.ins
        refine h _ ?_ (fun n' t' e3 e4 => ?_) fun hn => absurd rfl (hn n)
        · show tyV2 H (.ref a') = some (match S.things[n]? with | some t => .ref (clsT c t) | none => .type "NoneType")
          rw [et]
          simp only [tyV2, e2]
        · cases e3
          rw [et] at e4
          cases e4
          exact ⟨a', b, rfl, h1, h2⟩
      | bt z =>
        obtain ⟨a, rfl, dx, e1⟩ := hv
        repeat (first | walk_at "oxs" | simp only [e1])
        exact h _ rfl (fun _ _ z _ => by cases z) fun _ => rfl
      | nul => cases hv; repeat (walk_at "oxs"); exact h _ rfl (fun _ _ z _ => by cases z) fun _ => rfl
      | boo b => cases hv; repeat (walk_at "oxs"); exact h _ rfl (fun _ _ z _ => by cases z) fun _ => rfl
      | num b => cases hv; repeat (walk_at "oxs"); exact h _ rfl (fun _ _ z _ => by cases z) fun _ => rfl
      | txt b => cases hv; repeat (walk_at "oxs"); exact h _ rfl (fun _ _ z _ => by cases z) fun _ => rfl
    · cases h
set_option maxHeartbeats 4000000 in
theorem okq_kind (A : At K mg "kind_of" "kind_of" s_kind_of ["store", "value"]) (T : Txt K mg c) (HQ_thing_of : HasQ P w K mg base "thing_of" 2 ["store", "value"] (spThing w c)) : HasQ P w K mg base "kind_of" 3 ["store", "value"] (spKind w c) := by
  have Sc := sc_kind_of
  refine hasQ_of A Sc (fun vs H Q E h => ?_) (fun cdv f A outer s H vs Q p0 hr h => ?_)
  · unfold spKind at h; split at h; rfl; cases h
  · unfold spKind at h
    split at h
    · rename_i y v
      obtain ⟨x, S, r, rfl, hS, hv, hw, h⟩ := h
      refine ⟨_, (pss_cons (ps_if (pt_cmpR op_fIsN (fe_var 1) pe_non (nomark _)) (pss_one (ps_ret pe_str)) pss_nil)
      (pss_cons (ps_if (pt_val (pe_callB (call_fIsiA T.kit) (by rfl) T.no_isinstance (by decide +kernel) (pa_cons (fe_var 1) (pa_cons (fe_ty (n := "bool") (by rfl) T.no_bool (by decide +kernel)) pa_nil)))) (pss_one (ps_ret pe_str)) pss_nil)
      (pss_cons (ps_if (pt_val (pe_callB (call_fIsiA T.kit) (by rfl) T.no_isinstance (by decide +kernel) (pa_cons (fe_var 1) (pa_cons (fe_ty (n := "int") (by rfl) T.no_int (by decide +kernel)) pa_nil)))) (pss_one (ps_ret pe_str)) pss_nil)
      (pss_cons (ps_if (pt_val (pe_callB (call_fIsiA T.kit) (by rfl) T.no_isinstance (by decide +kernel) (pa_cons (fe_var 1) (pa_cons (fe_ty (n := "str") (by rfl) T.no_str (by decide +kernel)) pa_nil)))) (pss_one (ps_ret pe_str)) pss_nil)
      (pss_cons (ps_set (i := 2) Sc.nd rfl (.inl rfl) (fe_callQ HQ_thing_of (hr.mono (by walk_at "rm")) ⟨_, List.mem_cons_self⟩ (by rfl) (pa_cons (fe_var 0) (pa_cons (fe_var 1) pa_nil))))
      (pss_cons (ps_if (pt_val (pe_callB (call_fIsiO T.kit) (by rfl) T.no_isinstance (by decide +kernel) (pa_cons (fe_var 2) (pa_cons (pe_glob (v := .ref c.Parts) (by rfl) T.mg_Parts rfl) pa_nil)))) (pss_one (ps_ret pe_str)) pss_nil)
      (pss_cons (ps_if (pt_val (pe_callB (call_fIsiO T.kit) (by rfl) T.no_isinstance (by decide +kernel) (pa_cons (fe_var 2) (pa_cons (pe_glob (v := .ref c.Table) (by rfl) T.mg_Table rfl) pa_nil)))) (pss_one (ps_ret pe_str)) pss_nil)
      (pss_cons (ps_if (pt_val (pe_callB (call_fIsiO T.kit) (by rfl) T.no_isinstance (by decide +kernel) (pa_cons (fe_var 2) (pa_cons (pe_glob (v := .ref c.Instance) (by rfl) T.mg_Instance rfl) pa_nil)))) (pss_one (ps_ret pe_str)) pss_nil)
      (pss_cons (ps_if (pt_val (pe_callB (call_fIsiO T.kit) (by rfl) T.no_isinstance (by decide +kernel) (pa_cons (fe_var 2) (pa_cons (pe_glob (v := .ref c.Kin) (by rfl) T.mg_Kin rfl) pa_nil)))) (pss_one (ps_ret pe_str)) pss_nil)
      (pss_one (ps_ret pe_str))))))))))), ?_⟩
      try dsimp only [cxOf, Cx.nox, Cx.wish]
      have hv0 := hv
      cases r with
      | ob n =>
        obtain ⟨a, rfl, dx, e1⟩ := hv
        have hn := hw n rfl
        obtain ⟨t, et⟩ : ∃ t, S.things[n]? = some t := ⟨S.things[n], List.getElem?_eq_getElem hn⟩
        repeat (first | walk_at "oxs" | simp only [e1])
        refine ⟨x, S, .ob n, rfl, hS, hv0, hw, fun tv h1 h2 _ => ?_⟩
        obtain ⟨a', b, rfl, h3, h4⟩ := h2 n t rfl et
        obtain ⟨dx2, fs2, e2⟩ := h4.ins
        have hk : kindR S (.ob n) = kindT t := by show (match S.things[n]? with | some t => kindT t | none => "function") = _; rw [et]
        rw [hk] at h
        cases t <;> first
          | exact h4.elim
          | (simp only [clsT] at e2
             repeat (first | walk_at "oxs" | simp only [e2])
             exact h)
      | bt z =>
        obtain ⟨a, rfl, dx, e1⟩ := hv
        repeat (first | walk_at "oxs" | simp only [e1])
        refine ⟨x, S, .bt z, rfl, hS, hv0, hw, fun tv h1 h2 h3 => ?_⟩
        have etv := h3 fun n z => by cases z
        subst etv
        repeat (first | walk_at "oxs" | simp only [e1])
        exact h
      | nul => cases hv; repeat (walk_at "oxs"); exact h
      | boo b => cases hv; repeat (walk_at "oxs"); exact h
      | num b => cases hv; repeat (walk_at "oxs"); exact h
      | txt b => cases hv; repeat (walk_at "oxs"); exact h
    · cases h
theorem okq_lkind (A : At K mg "_law_kind" "_law_kind" s_law_kind ["store", "value"]) (T : Txt K mg c) (HQ_kind_of : HasQ P w K mg base "kind_of" 3 ["store", "value"] (spKind w c)) : HasQ P w K mg base "_law_kind" 4 ["store", "value"] (spLKind w c) := by
  have Sc := sc_law_kind
  refine hasQ_of A Sc (fun vs H Q E h => ?_) (fun cdv f A outer s H vs Q p0 hr h => ?_)
  · unfold spLKind at h; split at h; rfl; cases h
  · unfold spLKind at h
    split at h
    · rename_i y v
      obtain ⟨x, S, r, rfl, hS, hv, hw, h⟩ := h
      refine ⟨_, (pss_cons (ps_if (pt_cmpR op_fIsN (fe_var 1) pe_non (nomark _)) (pss_one (ps_ret pe_str)) pss_nil)
      (pss_cons (ps_if (pt_val (pe_callB (call_fIsiA T.kit) (by rfl) T.no_isinstance (by decide +kernel) (pa_cons (fe_var 1) (pa_cons (fe_ty (n := "bool") (by rfl) T.no_bool (by decide +kernel)) pa_nil)))) (pss_one (ps_ret pe_str)) pss_nil)
      (pss_cons (ps_if (pt_val (pe_callB (call_fIsiA T.kit) (by rfl) T.no_isinstance (by decide +kernel) (pa_cons (fe_var 1) (pa_cons (fe_ty (n := "int") (by rfl) T.no_int (by decide +kernel)) pa_nil)))) (pss_one (ps_ret pe_str)) pss_nil)
      (pss_cons (ps_if (pt_val (pe_callB (call_fIsiA T.kit) (by rfl) T.no_isinstance (by decide +kernel) (pa_cons (fe_var 1) (pa_cons (fe_ty (n := "str") (by rfl) T.no_str (by decide +kernel)) pa_nil)))) (pss_one (ps_ret pe_str)) pss_nil)
      (pss_one (ps_ret (fe_callQ HQ_kind_of (hr.mono (by walk_at "rm")) ⟨_, List.mem_cons_self⟩ (by rfl) (pa_cons (fe_var 0) (pa_cons (fe_var 1) pa_nil))))))))), ?_⟩
      try dsimp only [cxOf, Cx.nox, Cx.wish]
      cases r with
      | ob n =>
        obtain ⟨a, rfl, dx, e1⟩ := id hv
        repeat (first | walk_at "oxs" | simp only [e1])
        exact ⟨x, S, .ob n, rfl, hS, hv, hw, h⟩
      | bt z =>
        obtain ⟨a, rfl, dx, e1⟩ := id hv
        repeat (first | walk_at "oxs" | simp only [e1])
        exact ⟨x, S, .bt z, rfl, hS, hv, hw, h⟩
      | _ => cases hv; repeat (walk_at "oxs"); exact h
    · cases h
theorem ok_lneg (A : At K mg "_law_negated" "_law_negated" s_law_negated ["store", "x"]) (T : Txt K mg c) (H_unary : Has P w K mg base (L2.CX P w) "unary" 5 ["store", "operator", "x"] (spUnO w c)) (HQ_law_kind : HasQ P w K mg base "_law_kind" 4 ["store", "value"] (spLKind w c)) (H_law_is_integer : Has P w K mg base CX0 "_law_is_integer" 1 ["told"] (spLInt c)) : Has P w K mg base CX0 "_law_negated" 6 ["store", "x"] (spLNeg w c) := by
  have Sc := sc_law_negated
  refine has_of A Sc (fun vs H Q E h => ?_) (fun cdv f A outer s H vs Q E hr h => ?_)
  · unfold spLNeg at h; split at h; rfl; cases h
  · unfold spLNeg at h
    split at h
    · rename_i y vx
      obtain ⟨x, S, rx, rfl, hS, hx, wx, h⟩ := h
      refine ⟨_, (pss_cons (ps_try_as (i := 2) rfl rfl Sc.nd rfl rfl ⟨by rfl, by decide, .inl T.mg_ScriptError⟩ takes0
      (fun W0 _ _ tk0 po0 => (pss_one (ps_expr (fe_callX H_unary (hr.mono (by walk_at "rm")) (by rfl) tk0 (pa_cons (fe_var 0) (pa_cons pe_str (pa_cons (fe_var 1) pa_nil)))))))
      (fun a0 oe0 cls0 d0 pn0 hz0 hf0 => (pss_one (ps_ret (pe_cmpR (op_fEqK (K := K) hr.units rfl) (fe_tup (pa_cons (fe_xf T.xpl_kind hz0 hf0 (fe_var 2) rfl) (pa_cons (fe_xf T.xpl_message hz0 hf0 (fe_var 2) rfl) pa_nil))) (fe_tup (pa_cons pe_str (pa_cons (pe_op (op_fAddK (K := K) rfl) pe_str (fe_callQ HQ_law_kind ⟨(hr.mono (j := 4) (by decide)).dp, (hr.mono (j := 4) (by decide)).un⟩ ⟨_, List.mem_cons_self⟩ (by rfl) (pa_cons (fe_var 0) (pa_cons (fe_var 1) pa_nil)))) pa_nil))) (nomark _))))))
      (pss_one (ps_ret (fe_call H_law_is_integer (hr.mono (by walk_at "rm")) (by rfl) pass0 (pa_cons (fe_var 1) pa_nil))))), ?_⟩
      walk_at "fx0"
      repeat (walk_at "oxs")
      refine ⟨rfl, x, S, rx, rfl, hS, hx, wx, ?_⟩
      have k1 := kindR_len (S := S) (r := rx)
      have a1 : Str.length (Str.ofString "cannot negate ") = 14 := rfl
      cases q : isN rx with
      | true =>
        cases rx with
        | num n =>
          obtain rfl : vx = .int n := hx
          exact ⟨.num n, rfl, h H (Same.refl _)⟩
        | _ => cases q
      | false =>
        refine neg_out q ?_
        intro d H3 nd s3 ed
        unfold WE wAs
        refine ⟨_, T.em_ScriptError_ScriptError, fun _ a0 na0 => ?_, fun z => by cases z⟩
        repeat (first | walk_at "oxs" | simp only [ed])
        intro p4 H4 np4 s4 ep4
        have s04 := s3.trans s4
        refine ⟨x, S, rx, rfl, hS.same s04, hx.same s04, wx, ?_⟩
        dsimp only
        refine ⟨by rw [a1, sizeLine_eq]; omega, fun p5 H5 np5 s5 ep5 => ?_⟩
        rw [str_nil] at ep4
        exact tup_same (R := fun b => Q (.bl b) H5) (.inl (.inl (s5 _ _ ep4))) (.inl (.inl ep5)) rfl (h H5 (s04.trans s5))
    · cases h
end

section
variable {P : Program} {w : World} {K : PySem.W.Frag} {mg : Str → Option Value} {base : Heap} {c : Cs}
theorem add_mk {S : SV} {rx ry : RV} {rs : List RV} (h : addR S rx ry = .mk rs) : ∃ r1 r2, partsR S rx = some r1 ∧ partsR S ry = some r2 ∧ rs = r1 ++ r2 ∧ r1.length + r2.length ≤ 1000 := by
  unfold addR at h
  split at h
  · split at h <;> cases h
  · split at h
    · rename_i r1 r2 e1 e2
      split at h
      · cases h
        exact ⟨r1, r2, e1, e2, rfl, by assumption⟩
      · cases h
    · cases h
theorem parts_add {S : SV} {r : RV} {rs : List RV} {t : Th} (h : partsR S r = some rs) : partsR (S.add t) r = some rs := by
  obtain ⟨n, rfl, e⟩ := parts_at h
  have e2 : (S.add t).things[n]? = some (.parts rs) := by
    show (S.things ++ [t])[n]? = _
    rw [List.getElem?_append_left (List.getElem?_eq_some_iff.mp e).1]; exact e
  simp only [partsR, e2]
theorem VR.add {S : SV} {r : RV} {t : Th} (h : VR S r) : VR (S.add t) r := ⟨fun n e => by
  have := h.wf n e
  show n < (S.things ++ [t]).length
  rw [List.length_append]; omega, h.tx⟩
def spLaw (K : PySem.W.Frag) : Sp := fun vs H Q _ => ∃ (a : Addr) (ns : List Int), vs = [.ref a] ∧ SqL K H a (ns.map V.int) ∧ ns.length ≤ 63 ∧ ∀ H', Q (.bl true) H'
def LawI (K : PySem.W.Frag) (w : World) (c : Cs) (H0 : Hp) (s sc p y al : Addr) (ns : List Int) (ps : List (Option Nat)) (k : Nat) (σ : L2.St) (H : Hp) : Prop := ∃ X S v4 v5 v6 v7 v8 v9 v10 v11, σ = [some (.ref sc), some (.ref s), some (.ref p), some (.ref y), v4, v5, v6, v7, v8, v9, v10, v11] ∧ X.y = y ∧ Wd K w c H0 s sc ns X S (GP c al p y ps) [al, p] H ∧ SI S ps ∧ 2 ≤ S.things.length ∧ S.things.length ≤ 30 + k
set_option maxHeartbeats 16000000 in
theorem law_has {fa : Addr} {fd : FuncData} (F : Fun K "law" "law" s_law fa fd) (T : Txt K mg c) (H_law_begin : Has P w K mg base CX0 "_law_begin" 1 ["script", "k"] (spBegin K)) (H_law_store : Has P w K mg base CX0 "_law_store" 5 ["state"] (spLStore K w c)) (H_law_value : Has P w K mg base CX0 "_law_value" 5 ["state", "store"] (spLVal K w c)) (H_law_is_integer : Has P w K mg base CX0 "_law_is_integer" 1 ["told"] (spLInt c)) (H_law_kind : Has P w K mg base CX0 "_law_kind" 4 ["store", "value"] (spLKind w c)) (H_law_told : Has P w K mg base CX0 "_law_told" 7 ["store", "operator", "x", "y"] (spLTold w c)) (H_law_compared : Has P w K mg base CX0 "_law_compared" 1 ["operator", "x", "y"] spLCmp) (H_law_is : Has P w K mg base CX0 "_law_is" 5 ["store", "above", "x", "y", "told"] (spLIs w c)) (H_law_negated : Has P w K mg base CX0 "_law_negated" 6 ["store", "x"] (spLNeg w c)) (H_law_added : Has P w K mg base CX0 "_law_added" 5 ["store", "x", "y", "told", "many"] (spLAdded w c)) : FnOk P w K mg base CX0 8 fa fd ["script"] (spLaw K) := by
  have Sc := sc_law
  refine F.ok Sc (fun vs H Q E h => ?_) (fun cdv A outer s H vs Q E hr h => ?_)
  · obtain ⟨a, ns, rfl, _⟩ := h; rfl
  · obtain ⟨sc, ns, rfl, hS, hn, hq⟩ := h
    refine ⟨_, (pss_cons (ps_set (i := 1) Sc.nd rfl (.inl rfl) (fe_call H_law_begin (hr.mono (by walk_at "rm")) (by rfl) pass0 (pa_cons (fe_var 0) (pa_cons pe_int pa_nil))))
      (pss_cons (ps_set (i := 2) Sc.nd rfl (.inl rfl) (fe_call H_law_store (hr.mono (by walk_at "rm")) (by rfl) pass0 (pa_cons (fe_var 1) pa_nil)))
      (pss_cons (ps_if (pt_cmpR op_fIsN (fe_var 2) pe_non (nomark _)) (pss_one (ps_ret pe_bl)) pss_nil)
      (pss_cons (ps_set (i := 3) Sc.nd rfl (.inl rfl) (pe_ix ix_fx (fe_var 2) pe_int (fun _ _ => rfl)))
      (pss_cons (ps_for PassesOwn.never rfl (pi_range1 (by rfl) T.no_range (pa_cons (pe_callB (call_fMin rfl) (by rfl) T.no_min (by decide +kernel) (pa_cons pe_int (pa_cons (pe_callB (call_fMax rfl) (by rfl) T.no_max (by decide +kernel) (pa_cons pe_int (pa_cons (pe_callB call_fLen (by rfl) T.no_len (by decide +kernel) (pa_cons (fe_var 0) pa_nil)) pa_nil))) pa_nil))) pa_nil)) (pg_name (i := 4) Sc.nd rfl (.inl rfl)) (pss_cons (ps_set (i := 5) Sc.nd rfl (.inl rfl) (fe_call H_law_value (hr.mono (by walk_at "rm")) (by rfl) pass0 (pa_cons (fe_var 1) (pa_cons (fe_var 3) pa_nil))))
      (pss_cons (ps_set (i := 6) Sc.nd rfl (.inl rfl) (fe_call H_law_value (hr.mono (by walk_at "rm")) (by rfl) pass0 (pa_cons (fe_var 1) (pa_cons (fe_var 3) pa_nil))))
      (pss_cons (ps_if (PW.pt (pw_and (pt_val (fe_call H_law_is_integer (hr.mono (by walk_at "rm")) (by rfl) pass0 (pa_cons (fe_var 5) pa_nil))) (pw_and1 (pt_val (fe_call H_law_is_integer (hr.mono (by walk_at "rm")) (by rfl) pass0 (pa_cons (fe_var 6) pa_nil)))))) (pss_one (ps_set (i := 6) Sc.nd rfl (.inl rfl) pe_str)) pss_nil)
      (pss_cons (ps_set (i := 7) Sc.nd rfl (.inl rfl) (fe_lst (pa_cons (fe_tup (pa_cons pe_str (pa_cons pe_str pa_nil))) (pa_cons (fe_tup (pa_cons pe_str (pa_cons pe_str pa_nil))) (pa_cons (fe_tup (pa_cons pe_str (pa_cons pe_str pa_nil))) (pa_cons (fe_tup (pa_cons pe_str (pa_cons pe_str pa_nil))) pa_nil))))))
      (pss_cons (ps_set (i := 8) Sc.nd rfl (.inl rfl) (pe_callB call_fLen (by rfl) T.no_len (by decide +kernel) (pa_cons (fe_fld (fe_var 3) T.pl_things rfl) pa_nil)))
      (pss_cons (ps_for PassesOwn.never rfl (pi_list (fe_var 7)) (pg_tup (n := 2) rfl (pgs_cons (pg_name (i := 9) Sc.nd rfl (.inl rfl)) (pgs_cons (pg_name (i := 10) Sc.nd rfl (.inl rfl)) pgs_nil))) (pss_cons (ps_set (i := 11) Sc.nd rfl (.inl rfl) (pe_op op_fAdd (pe_op op_fAdd (pe_op op_fAdd (pe_op op_fAdd (pe_op op_fAdd pe_str (fe_var 10)) pe_str) (fe_call H_law_kind (hr.mono (by walk_at "rm")) (by rfl) pass0 (pa_cons (fe_var 3) (pa_cons (fe_var 5) pa_nil)))) pe_str) (fe_call H_law_kind (hr.mono (by walk_at "rm")) (by rfl) pass0 (pa_cons (fe_var 3) (pa_cons (fe_var 6) pa_nil)))))
      (pss_one (ps_if (pt_cmpR (op_fNe hr.units) (fe_call H_law_told (hr.mono (by walk_at "rm")) (by rfl) pass0 (pa_cons (fe_var 3) (pa_cons (fe_var 9) (pa_cons (fe_var 5) (pa_cons (fe_var 6) pa_nil))))) (fe_tup (pa_cons pe_str (pa_cons pe_str (pa_cons (fe_var 11) pa_nil)))) (nomark _)) (pss_one (ps_ret pe_bl)) pss_nil))))
      (pss_cons (ps_for PassesOwn.never rfl (pi_tup (fe_tup (pa_cons pe_str (pa_cons pe_str (pa_cons pe_str (pa_cons pe_str pa_nil)))))) (pg_name (i := 9) Sc.nd rfl (.inl rfl)) (pss_cons (ps_set (i := 11) Sc.nd rfl (.inl rfl) (fe_tup (pa_cons pe_str (pa_cons pe_str (pa_cons (pe_op op_fAdd (pe_op op_fAdd (pe_op op_fAdd pe_str (fe_call H_law_kind (hr.mono (by walk_at "rm")) (by rfl) pass0 (pa_cons (fe_var 3) (pa_cons (fe_var 5) pa_nil)))) pe_str) (fe_call H_law_kind (hr.mono (by walk_at "rm")) (by rfl) pass0 (pa_cons (fe_var 3) (pa_cons (fe_var 6) pa_nil)))) pa_nil)))))
      (pss_cons (ps_if (PW.pt (pw_and (pt_val (pe_callB (call_fIsiA T.kit) (by rfl) T.no_isinstance (by decide +kernel) (pa_cons (fe_var 5) (pa_cons (fe_ty (n := "str") (by rfl) T.no_str (by decide +kernel)) pa_nil)))) (pw_and1 (pt_val (pe_callB (call_fIsiA T.kit) (by rfl) T.no_isinstance (by decide +kernel) (pa_cons (fe_var 6) (pa_cons (fe_ty (n := "str") (by rfl) T.no_str (by decide +kernel)) pa_nil))))))) (pss_one (ps_set (i := 11) Sc.nd rfl (.inl rfl) (fe_tup (pa_cons pe_str (pa_cons (fe_call H_law_compared (hr.mono (by walk_at "rm")) (by rfl) pass0 (pa_cons (fe_var 9) (pa_cons (fe_var 5) (pa_cons (fe_var 6) pa_nil)))) pa_nil))))) pss_nil)
      (pss_one (ps_if (pt_cmpR (op_fNe hr.units) (fe_call H_law_told (hr.mono (by walk_at "rm")) (by rfl) pass0 (pa_cons (fe_var 3) (pa_cons (fe_var 9) (pa_cons (fe_var 5) (pa_cons (fe_var 6) pa_nil))))) (fe_var 11) (nomark _)) (pss_one (ps_ret pe_bl)) pss_nil)))))
      (pss_cons (ps_if (PW.pt (pw_or (pt_not (pt_val (fe_call H_law_is (hr.mono (by walk_at "rm")) (by rfl) pass0 (pa_cons (fe_var 3) (pa_cons (pe_ix ix_fx (fe_var 2) pe_int (fun _ _ => rfl)) (pa_cons (fe_var 5) (pa_cons (fe_var 6) (pa_cons (fe_call H_law_told (hr.mono (by walk_at "rm")) (by rfl) pass0 (pa_cons (fe_var 3) (pa_cons pe_str (pa_cons (fe_var 5) (pa_cons (fe_var 6) pa_nil))))) pa_nil)))))))) (pw_or1 (pt_not (pt_val (fe_call H_law_negated (hr.mono (by walk_at "rm")) (by rfl) pass0 (pa_cons (fe_var 3) (pa_cons (fe_var 5) pa_nil)))))))) (pss_one (ps_ret pe_bl)) pss_nil)
      (pss_one (ps_if (PW.pt (pw_or (pt_cmpR (op_fNe hr.units) (pe_callB call_fLen (by rfl) T.no_len (by decide +kernel) (pa_cons (fe_fld (fe_var 3) T.pl_things rfl) pa_nil)) (fe_var 8) (nomark _)) (pw_or1 (pt_not (pt_val (fe_call H_law_added (hr.mono (by walk_at "rm")) (by rfl) pass0 (pa_cons (fe_var 3) (pa_cons (fe_var 5) (pa_cons (fe_var 6) (pa_cons (fe_call H_law_told (hr.mono (by walk_at "rm")) (by rfl) pass0 (pa_cons (fe_var 3) (pa_cons pe_str (pa_cons (fe_var 5) (pa_cons (fe_var 6) pa_nil))))) (pa_cons (fe_var 8) pa_nil))))))))))) (pss_one (ps_ret pe_bl)) pss_nil)))))))))))
      (pss_one (ps_ret pe_bl))))))), ?_⟩
    walk_at "fx0"
    walk_at "ox"
    refine ⟨by decide, ?_⟩
    intro s H1 ns1 sm1 es
    have D : Dr K H s sc ns H1 := ⟨⟨0, 0, es, by decide, by decide⟩, hS, sm1, ns1, hn⟩
    walk_at "ox"
    refine ⟨H, sc, ns, D, fun H2 p x0 S0 ps al W2 I2 l2 l30 => ?_⟩
    generalize ey0 : x0.y = y at W2
    repeat (walk_at "oxs")
    refine ⟨_, rl_l W2.g.2, _, rfl, ?_⟩
    refine cut_ fun N hN => for_ ?_
    repeat (walk_at "oxs")
    refine ⟨_, .inl (W2.dr.sm.seq hS), ?_⟩
    rw [List.length_map]
    generalize hm : (if (if (ns.length : Int) > 4 then (ns.length : Int) else 4) < 14 then (if (ns.length : Int) > 4 then (ns.length : Int) else 4) else 14) = m
    have hm9 : 0 ≤ m ∧ m ≤ 14 := by
      rw [← hm]
      split <;> split <;> omega
    refine ⟨by omega, by omega, ?_⟩
    refine loop_range (LawI K w c H s sc p y al ns ps) ⟨x0, S0, _, _, _, _, _, _, _, _, rfl, ey0, W2, I2, l2, l30⟩ ?_ ?_
    · rintro k σ H3 hk ⟨X, S, v4, v5, v6, v7, v8, v9, v10, v11, rfl, ey, W3, I3, l3, l33⟩
      simp only [gName, List.set_cons_succ, List.set_cons_zero]
      simp only [tSeq]
      refine cut_ fun N1 hN1 => ?_
      repeat (walk_at "oxs")
      refine ⟨H, sc, ns, X, S, _, _, ey.symm, W3, by omega, by omega, fun H4 vx rx k4 W4 hx wx => hN1 _ _ ?_⟩
      clear hN1 N1
      simp only [tSeq]
      refine cut_ fun N1 hN1 => ?_
      repeat (walk_at "oxs")
      refine ⟨H, sc, ns, X, S, _, _, ey.symm, W4, by omega, by omega, fun H5 vy ry k5 W5 hy wy => hN1 _ _ ?_⟩
      clear hN1 N1
      have hx5 : IsVal c H5 vx rx := hx.hs (.keep k5 W4.s_soft)
      simp only [tSeq]
      refine cut_ fun N1 hN1 => ?_
      have go : ∀ vy ry, IsVal c H5 vy ry → VR S ry → ¬ (isN rx = true ∧ isN ry = true) → N1 [some (.ref sc), some (.ref s), some (.ref p), some (.ref y), some (.int (k : Nat)), some vx, some vy, v7, v8, v9, v10, v11] H5 := fun vy ry hy wy nb => by
        refine hN1 _ _ ?_
        clear hN1 N1
        simp only [tSeq]
        refine cut_ fun N1 hN1 => ?_
        repeat (walk_at "oxs")
        intro t1 H6 n1 s1 e1 t2 H7 n2 s2 e2 t3 H8 n3 s3 e3 t4 H9 n4 s4 e4 vl H10 nvl s10 evl
        have s510 := (((s1.trans s2).trans s3).trans s4).trans s10
        have W10 := W5.same s510
        refine hN1 _ _ ?_
        clear hN1 N1
        simp only [tSeq]
        refine cut_ fun N1 hN1 => ?_
        obtain ⟨sdx, esy⟩ := W10.st.st
        rw [ey] at esy
        repeat (first | walk_at "oxs" | simp only [esy])
        refine ⟨_, rl_l W10.st.et, ?_⟩
        rw [List.length_map, Paired.length W10.st.th]
        refine hN1 _ _ ?_
        clear hN1 N1
        simp only [tSeq]
        refine cut_ fun N1 hN1 => for_ ?_
        repeat (walk_at "oxs")
        have hx10 := hx5.same s510
        have hy10 := hy.same s510
        have k1 := kindR_len (S := S) (r := rx)
        have k2 := kindR_len (S := S) (r := ry)
        have a1 : Str.length (Str.ofString "cannot ") = 7 := rfl
        have a2 : Str.length (Str.ofString " ") = 1 := rfl
        have a3 : Str.length (Str.ofString " and ") = 5 := rfl
        have a4 : Str.length (Str.ofString "cannot compare ") = 15 := rfl
        have E1 : ∀ H', Same H10 H' → ∀ z, z ∈ [V.ref t1, .ref t2, .ref t3, .ref t4] → ∃ tj o v, z = .ref tj ∧ H' tj = some (.tup [.str (O9.s o), .str v]) ∧ v.length ≤ 8 ∧ binR S rx ry o = .err "KindError" (msg2 v S rx ry) := fun H' s' z mz => by
          simp only [List.mem_cons, List.not_mem_nil, or_false] at mz
          rcases mz with rfl | rfl | rfl | rfl
          · exact ⟨t1, .sub, "subtract", rfl, s' _ _ (s10 _ _ (s4 _ _ (s3 _ _ (s2 _ _ e1)))), by decide, rfl⟩
          · exact ⟨t2, .mul, "multiply", rfl, s' _ _ (s10 _ _ (s4 _ _ (s3 _ _ e2))), by decide, rfl⟩
          · exact ⟨t3, .div, "divide", rfl, s' _ _ (s10 _ _ (s4 _ _ e3)), by decide, rfl⟩
          · exact ⟨t4, .mod, "divide", rfl, s' _ _ (s10 _ _ e4), by decide, rfl⟩
        have kd : ∀ H' {u : V} {r : RV} {Q' : VK}, Same H10 H' → IsVal c H10 u r → WfR S r → Q' (.str (kindR S r)) H' → spLKind w c [.ref y, u] H' Q' E0 := fun H' {u r Q'} s' hu wu q => ⟨X, S, r, ey.symm, (W10.same s').st, hu.same s', wu, q⟩
        have td : ∀ H' {Q' : VK} (o : O9), Same H10 H' → resT w c H' X S (binR S rx ry o) Q' → spLTold w c [.ref y, .str o.s, vx, vy] H' Q' E0 := fun H' {Q'} o s' q => ⟨X, S, rx, ry, o, ey.symm, rfl, (W10.same s').st, I3.ok, by omega, hx10.same s', hy10.same s', wx, wy, nb, q⟩
        refine ⟨⟨_, .inl (.inl evl)⟩, ?_⟩
        refine loop_list [V.ref t1, .ref t2, .ref t3, .ref t4] (fun i σ H' => Same H10 H' ∧ ∃ v9 v10 v11, σ = [some (.ref sc), some (.ref s), some (.ref p), some (.ref y), some (.int (k : Nat)), some vx, some vy, some (.ref vl), some (.int (S.things.length : Nat)), v9, v10, v11]) ⟨Same.refl _, _, _, _, rfl⟩ (fun i σ H' _ ⟨s', _⟩ => .inl (.inl (s' _ _ evl))) ?_ ?_
        · rintro i z σ H11 hz ⟨s11, u9, u10, u11, rfl⟩
          obtain ⟨tj, o, v, rfl, etj, hv8, hbin⟩ := E1 H11 s11 z (List.mem_of_getElem? hz)
          simp only [gTup, gCons, gNil, gName, List.set_cons_succ, List.set_cons_zero]
          refine ⟨_, _, rfl, SqT.of etj, rfl, _, _, rfl, _, _, rfl, rfl, ?_⟩
          simp only [tSeq]
          refine cut_ fun N2 hN2 => ?_
          repeat (walk_at "oxs")
          refine ⟨by rw [a1, sizeLine_eq]; omega, by simp only [Str.length_append, a1, a2, sizeLine_eq]; omega, kd H11 s11 hx10 wx.wf ?_⟩
          dsimp only
          refine ⟨by simp only [Str.length_append, a1, a2, sizeLine_eq]; omega, by simp only [Str.length_append, a1, a2, a3, sizeLine_eq]; omega, kd H11 s11 hy10 wy.wf ?_⟩
          dsimp only
          refine ⟨by simp only [Str.length_append, a1, a2, a3, sizeLine_eq]; omega, hN2 _ _ ?_⟩
          clear hN2 N2
          repeat (walk_at "oxs")
          refine td H11 o s11 ?_
          rw [hbin]
          intro p12 H12 np12 s12 ep12
          intro p13 H13 np13 s13 ep13
          unfold msg2 at ep12
          rw [str_nil] at ep12
          refine ⟨_, .tup (.inl (.inl (s13 _ _ ep12))) (dpAll_sc rfl), _, .tup (.inl (.inl ep13)) (dpAll_sc rfl), tup_okd rfl, tup_okd rfl, ?_⟩
          rw [tup_eqv rfl]
          repeat (walk_at "oxs")
          exact ⟨(s11.trans s12).trans s13, _, rfl⟩
        · rintro σ H11 ⟨s11, u9, u10, u11, rfl⟩
          refine hN1 _ _ ?_
          clear hN1 N1
          simp only [tSeq]
          refine cut_ fun N1 hN1 => for_ ?_
          repeat (walk_at "oxs")
          intro po H12 npo s12 epo
          have s1012 := s11.trans s12
          refine ⟨⟨_, .inl (.inl epo)⟩, ?_⟩
          refine loop_tup [V.str (Str.ofString "<"), V.str (Str.ofString "<="), V.str (Str.ofString ">"), V.str (Str.ofString ">=")] (fun i σ H' => Same H12 H' ∧ ∃ v9 v10 v11, σ = [some (.ref sc), some (.ref s), some (.ref p), some (.ref y), some (.int (k : Nat)), some vx, some vy, some (.ref vl), some (.int (S.things.length : Nat)), v9, v10, v11]) ⟨Same.refl _, _, _, _, rfl⟩ (fun i σ H' _ ⟨s', _⟩ => .inl (.inl (s' _ _ epo))) ?_ ?_
          · rintro i z σ H13 hz ⟨s13, u9, u10, u11, rfl⟩
            have ez : ∃ o, z = .str (O9.s o) ∧ isC o = true := by
              have mz := List.mem_of_getElem? hz
              simp only [List.mem_cons, List.not_mem_nil, or_false] at mz
              rcases mz with rfl | rfl | rfl | rfl
              · exact ⟨.lt, rfl, rfl⟩
              · exact ⟨.le, rfl, rfl⟩
              · exact ⟨.gt, rfl, rfl⟩
              · exact ⟨.ge, rfl, rfl⟩
            obtain ⟨o, rfl, ho⟩ := ez
            have s1013 := s1012.trans s13
            simp only [gName, List.set_cons_succ, List.set_cons_zero]
            simp only [tSeq]
            refine cut_ fun N2 hN2 => ?_
            repeat (walk_at "oxs")
            refine kd H13 s1013 hx10 wx.wf ?_
            dsimp only
            refine ⟨by rw [a4, sizeLine_eq]; omega, by simp only [Str.length_append, a4, a3, sizeLine_eq]; omega, kd H13 s1013 hy10 wy.wf ?_⟩
            dsimp only
            refine ⟨by simp only [Str.length_append, a4, a3, sizeLine_eq]; omega, fun pd H14 npd s14 epd => hN2 _ _ ?_⟩
            clear hN2 N2
            have s1014 := s1013.trans s14
            simp only [tSeq]
            refine cut_ fun N2 hN2 => ?_
            have fin : ∀ pe H15 xs, Same H14 H15 → H15 pe = some (.tup xs) → ((∃ r, binR S rx ry o = .val r ∧ xs = [.str "told", vOf r] ∧ xs.all scV = true) ∨ ∃ k' m', binR S rx ry o = .err k' m' ∧ xs = [.str "raised", .str k', .str m']) → N2 [some (.ref sc), some (.ref s), some (.ref p), some (.ref y), some (.int (k : Nat)), some vx, some vy, some (.ref vl), some (.int (S.things.length : Nat)), some (.str o.s), u10, some (.ref pe)] H15 := fun pe H15 xs s15 epe hR => by
              refine hN2 _ _ ?_
              clear hN2 N2
              repeat (walk_at "oxs")
              refine td H15 o (s1014.trans s15) ?_
              rcases hR with ⟨r, hR, rfl, hxs⟩ | ⟨k', m', hR, rfl⟩
              · rw [hR]
                intro p16 H16 np16 s16 ep16
                refine ⟨_, .tup (.inl (.inl ep16)) (dpAll_sc hxs), _, .tup (.inl (.inl (s16 _ _ epe))) (dpAll_sc hxs), tup_okd hxs, tup_okd hxs, ?_⟩
                rw [tup_eqv hxs]
                repeat (walk_at "oxs")
                exact ⟨((s13.trans s14).trans s15).trans s16, _, rfl⟩
              · rw [hR]
                intro p16 H16 np16 s16 ep16
                refine ⟨_, .tup (.inl (.inl ep16)) (dpAll_sc rfl), _, .tup (.inl (.inl (s16 _ _ epe))) (dpAll_sc rfl), tup_okd rfl, tup_okd rfl, ?_⟩
                rw [tup_eqv rfl]
                repeat (walk_at "oxs")
                exact ⟨((s13.trans s14).trans s15).trans s16, _, rfl⟩
            have hbc : binR S rx ry o = cmpR S o rx ry := by cases o <;> first | rfl | exact absurd ho (by decide)
            have bad : (¬ ∃ a b, rx = .txt a ∧ ry = .txt b) → N2 [some (.ref sc), some (.ref s), some (.ref p), some (.ref y), some (.int (k : Nat)), some vx, some vy, some (.ref vl), some (.int (S.things.length : Nat)), some (.str o.s), u10, some (.ref pd)] H14 := fun hb => fin pd H14 _ (Same.refl _) epd (.inr ⟨_, _, by rw [hbc, cmp_two hb, str_nil], rfl⟩)
            clear hN2
            cases rx with
            | txt a =>
              obtain rfl : vx = .str a := hx10
              cases ry with
              | txt b =>
                obtain rfl : vy = .str b := hy10
                repeat (walk_at "oxs")
                refine ⟨o, rfl, ho, wx.tx a rfl, wy.tx b rfl, fun pe H15 npe s15 epe => ?_⟩
                exact fin pe H15 _ s15 epe (.inl ⟨.boo (cmpB o a b), hbc, rfl, rfl⟩)
              | ob n =>
                obtain ⟨q, rfl, qdx, eq⟩ := id hy10
                have eq' := s1014 _ _ eq
                repeat (first | walk_at "oxs" | simp only [eq'])
                exact bad fun ⟨_, _, _, z⟩ => by cases z
              | bt n =>
                obtain ⟨q, rfl, qdx, eq⟩ := id hy10
                have eq' := s1014 _ _ eq
                repeat (first | walk_at "oxs" | simp only [eq'])
                exact bad fun ⟨_, _, _, z⟩ => by cases z
              | nul => obtain rfl : vy = _ := hy10; repeat (walk_at "oxs"); exact bad fun ⟨_, _, _, z⟩ => by cases z
              | boo b => obtain rfl : vy = _ := hy10; repeat (walk_at "oxs"); exact bad fun ⟨_, _, _, z⟩ => by cases z
              | num b => obtain rfl : vy = _ := hy10; repeat (walk_at "oxs"); exact bad fun ⟨_, _, _, z⟩ => by cases z
            | ob n =>
              obtain ⟨q, rfl, qdx, eq⟩ := id hx10
              have eq' := s1014 _ _ eq
              repeat (first | walk_at "oxs" | simp only [eq'])
              exact bad fun ⟨_, _, z, _⟩ => by cases z
            | bt n =>
              obtain ⟨q, rfl, qdx, eq⟩ := id hx10
              have eq' := s1014 _ _ eq
              repeat (first | walk_at "oxs" | simp only [eq'])
              exact bad fun ⟨_, _, z, _⟩ => by cases z
            | nul => obtain rfl : vx = _ := hx10; repeat (walk_at "oxs"); exact bad fun ⟨_, _, z, _⟩ => by cases z
            | boo b => obtain rfl : vx = _ := hx10; repeat (walk_at "oxs"); exact bad fun ⟨_, _, z, _⟩ => by cases z
            | num b => obtain rfl : vx = _ := hx10; repeat (walk_at "oxs"); exact bad fun ⟨_, _, z, _⟩ => by cases z
          · rintro σ H13 ⟨s13, u9, u10, u11, rfl⟩
            refine hN1 _ _ ?_
            clear hN1 N1
            simp only [tSeq]
            refine cut_ fun N1 hN1 => ?_
            have W13 := (W10.same s1012).same s13
            obtain ⟨hab13, ep13⟩ := id W13.g
            have s1013 := s1012.trans s13
            have hlb := (by omega : S.things.length < 99999)
            have hpl : ps.length ≤ 1000 := by
              rcases Nat.lt_or_ge 0 ps.length with z | z
              · obtain ⟨_, _, e⟩ := I3.kin (ps.length - 1) _ (List.getElem?_eq_getElem (by omega))
                have := (List.getElem?_eq_some_iff.mp e).1
                omega
              · omega
            repeat (walk_at "oxs")
            refine ⟨_, rl_l ep13, _, rfl, td H13 .is s1013 ?_⟩
            have rs : ∀ (Q' : VK), (∀ pt H', H13 pt = none → Same H13 H' → ToldB H' pt (isR S rx ry) → Q' (.ref pt) H') → resT w c H13 X S (binR S rx ry .is) Q' := fun Q' q => by
              show resT w c H13 X S (isR S rx ry) Q'
              revert q
              unfold isR
              cases kinN S ry with
              | none => exact fun q pt H' n s e => q pt H' n s e
              | some m => exact fun q pt H' n s e => q pt H' n s e
            refine rs _ fun pt H14 npt s14 ht => ?_
            have s1014 := s1013.trans s14
            refine ⟨X, S, ps, rx, ry, ey.symm, (W13.same s14).st, I3, hpl, (W13.same s14).g.1, hx10.same s1014, hy10.same s1014, wx.wf, wy.wf, ht, fun H15 s15 => ?_⟩
            repeat (walk_at "oxs")
            have s1015 := s1014.trans s15
            have W15 := (W13.same s14).same s15
            refine ⟨X, S, rx, ey.symm, W15.st, hx10.same s1015, wx.wf, fun H16 s16 => ?_⟩
            have W16 := W15.same s16
            have s1016 := s1015.trans s16
            repeat (walk_at "oxs")
            refine hN1 _ _ ?_
            clear hN1 N1
            obtain ⟨sdx16, esy16⟩ := W16.st.st
            rw [ey] at esy16
            repeat (first | walk_at "oxs" | simp only [esy16])
            refine ⟨_, rl_l W16.st.et, ?_⟩
            rw [List.length_map, Paired.length W16.st.th, if_neg (by simp)]
            refine td H16 .add s1016 ?_
            have hint : ∀ (n : Nat) (rs : List RV), S.things[n]? = some (.parts rs) → ∀ r ∈ rs, isN r = true := fun n rs e => (I3.on n _ e).2
            have hlen16 : S.things.length < 99999 := by omega
            have hx16 := hx10.same s1016
            have hy16 := hy10.same s1016
            show resT w c H16 X S (addR S rx ry) _
            cases e : addR S rx ry with
            | val r =>
              intro pt2 H17 n17 s17 e17
              refine ⟨X, S, rx, ry, ey.symm, (W16.same s17).st, I3.ok, hint, hx16.same s17, hy16.same s17, wx, wy, hlen16, .inl ⟨by rw [e]; exact e17, rfl⟩, fun H18 s18 => ?_⟩
              repeat (walk_at "oxs")
              exact ⟨X, S, _, _, _, _, _, _, _, _, rfl, ey, (W16.same s17).same s18, I3, l3, by omega⟩
            | err k' m' =>
              intro pt2 H17 n17 s17 e17
              refine ⟨X, S, rx, ry, ey.symm, (W16.same s17).st, I3.ok, hint, hx16.same s17, hy16.same s17, wx, wy, hlen16, .inl ⟨by rw [e]; exact e17, rfl⟩, fun H18 s18 => ?_⟩
              repeat (walk_at "oxs")
              exact ⟨X, S, _, _, _, _, _, _, _, _, rfl, ey, (W16.same s17).same s18, I3, l3, by omega⟩
            | mk rs =>
              obtain ⟨r1, r2, z1, z2, rfl, zl⟩ := add_mk e
              obtain ⟨n1, _, en1⟩ := parts_at z1
              obtain ⟨n2, _, en2⟩ := parts_at z2
              intro r a b H17 nr nf k17 st17 hr17
              intro pt2 H18 n18 s18 e18
              have W17 := W16.make nf k17 st17
              have hs17 : HardStay c H16 H17 := .keep k17 W16.st.soft_tl
              have I17 : SI (S.add (.parts (r1 ++ r2))) ps := I3.add ⟨by rw [List.length_append]; exact zl, fun q m => by
                rcases List.mem_append.mp m with m | m
                · exact hint n1 r1 en1 q m
                · exact hint n2 r2 en2 q m⟩
              have hl17 : (S.add (.parts (r1 ++ r2))).things.length = S.things.length + 1 := by show (S.things ++ [_]).length = _; rw [List.length_append]; rfl
              have hn : (S.add (.parts (r1 ++ r2))).things[S.things.length]? = some (.parts (r1 ++ r2)) := by
                show (S.things ++ [_])[S.things.length]? = _
                rw [List.getElem?_append_right (Nat.le_refl _), Nat.sub_self]; rfl
              refine ⟨X.add a b, S.add (.parts (r1 ++ r2)), rx, ry, ey.symm, (W17.same s18).st, I17.ok, fun n rs e => (I17.on n _ e).2, (hx16.hs hs17).same s18, (hy16.hs hs17).same s18, wx.add, wy.add, by omega, .inr ⟨S.things.length, r1, r2, r, rfl, parts_add z1, parts_add z2, zl, e18, hr17.same s18, hn, hl17⟩, fun H19 s19 => ?_⟩
              repeat (walk_at "oxs")
              exact ⟨X.add a b, S.add (.parts (r1 ++ r2)), _, _, _, _, _, _, _, _, rfl, ey, (W17.same s18).same s19, I17, by omega, by omega⟩
      repeat (walk_at "oxs")
      refine ⟨rx, hx5, ?_⟩
      cases q1 : isN rx with
      | false =>
        repeat (walk_at "oxs")
        exact go vy ry hy wy fun z => by rw [q1] at z; cases z.1
      | true =>
        repeat (walk_at "oxs")
        refine ⟨ry, hy, ?_⟩
        cases q2 : isN ry with
        | false =>
          repeat (walk_at "oxs")
          exact go vy ry hy wy fun z => by rw [q2] at z; cases z.2
        | true =>
          repeat (walk_at "oxs")
          exact go _ (.txt "y") rfl ⟨fun _ e => (by cases e), fun _ e => by cases e; decide⟩ fun z => by cases z.2
    · rintro σ H3 ⟨X, S, v4, v5, v6, v7, v8, v9, v10, v11, rfl, ey, W3, I3, l3, l33⟩
      refine hN _ _ ?_
      clear hN N
      repeat (walk_at "oxs")
      exact hq H3
end

section
variable {P : Program} {w : World} {K : PySem.W.Frag} {mg : Str → Option Value} {base : Heap} {c : Cs}
theorem law_fn {fa : Addr} {fd : FuncData} (F : Fun K "law" "law" s_law fa fd) (T : Txt K mg c) (TD : TxD w K mg)
    (a_law_cell : At K mg "_law_cell" "_law_cell" s_law_cell ["script", "k"])
    (a_law_begin : At K mg "_law_begin" "_law_begin" s_law_begin ["script", "k"])
    (a_law_draw : At K mg "_law_draw" "_law_draw" s_law_draw ["state", "many"])
    (a_Ref___init__ : AtM K c.Ref "__init__" "Ref.__init__" s_Ref___init__ ["self", "number"])
    (a_Builtin___init__ : AtM K c.Builtin "__init__" "Builtin.__init__" s_Builtin___init__ ["self", "name"])
    (a_Instance___init__ : AtM K c.Instance "__init__" "Instance.__init__" s_Instance___init__ ["self", "owner"])
    (a_Kin___init__ : AtM K c.Kin "__init__" "Kin.__init__" s_Kin___init__ ["self", "name", "parent"])
    (a_Parts___init__ : AtM K c.Parts "__init__" "Parts.__init__" s_Parts___init__ ["self", "held"])
    (a_Closure___init__ : AtM K c.Closure "__init__" "Closure.__init__" s_Closure___init__ ["self", "number", "wanted", "scope"])
    (a_ScriptError___init__ : AtE K c.ScriptError "ScriptError.__init__" s_ScriptError___init__ ["self", "kind", "message"])
    (a_Table___init__ : AtM K c.Table "__init__" "Table.__init__" s_Table___init__ ["self"])
    (a_Store___init__ : AtM K c.Store "__init__" "Store.__init__" s_Store___init__ ["self", "lines"])
    (a_Store_make : AtM K c.Store "make" "Store.make" s_Store_make ["self", "thing"])
    (a_Store_at : AtM K c.Store "at" "Store.at" s_Store_at ["self", "ref"])
    (a_thing_of : At K mg "thing_of" "thing_of" s_thing_of ["store", "value"])
    (a_kind_of : At K mg "kind_of" "kind_of" s_kind_of ["store", "value"])
    (a_check_parts : At K mg "check_parts" "check_parts" s_check_parts ["count"])
    (a_law_pick : At K mg "_law_pick" "_law_pick" s_law_pick ["state", "row"])
    (a_is_below : At K mg "is_below" "is_below" s_is_below ["store", "kin", "other"])
    (a_make_class : At K mg "make_class" "make_class" s_make_class ["store", "name", "parent"])
    (a_is_integer : At K mg "is_integer" "is_integer" s_is_integer ["value"])
    (a_fitting_text : At K mg "fitting_text" "fitting_text" s_fitting_text ["text"])
    (a_reckoned : At K mg "reckoned" "reckoned" s_reckoned ["store", "operator", "x", "y"])
    (a_compared : At K mg "compared" "compared" s_compared ["store", "operator", "x", "y"])
    (a_make_list : At K mg "make_list" "make_list" s_make_list ["store", "values"])
    (a_is_of : At K mg "is_of" "is_of" s_is_of ["store", "x", "y"])
    (a_unary : At K mg "unary" "unary" s_unary ["store", "operator", "x"])
    (a_added : At K mg "added" "added" s_added ["store", "x", "y"])
    (a_binary : At K mg "binary" "binary" s_binary ["store", "operator", "x", "y"])
    (a_law_text : At K mg "_law_text" "_law_text" s_law_text ["state"])
    (a_law_kind : At K mg "_law_kind" "_law_kind" s_law_kind ["store", "value"])
    (a_law_told : At K mg "_law_told" "_law_told" s_law_told ["store", "operator", "x", "y"])
    (a_law_value : At K mg "_law_value" "_law_value" s_law_value ["state", "store"])
    (a_law_compared : At K mg "_law_compared" "_law_compared" s_law_compared ["operator", "x", "y"])
    (a_law_is_integer : At K mg "_law_is_integer" "_law_is_integer" s_law_is_integer ["told"])
    (a_make_map : At K mg "make_map" "make_map" s_make_map ["store", "pairs"])
    (a_law_store : At K mg "_law_store" "_law_store" s_law_store ["state"])
    (a_Ref___eq__ : AtM K c.Ref "__eq__" "Ref.__eq__" s_Ref___eq__ ["self", "other"])
    (a_Builtin___eq__ : AtM K c.Builtin "__eq__" "Builtin.__eq__" s_Builtin___eq__ ["self", "other"])
    (a_law_is : At K mg "_law_is" "_law_is" s_law_is ["store", "above", "x", "y", "told"])
    (a_law_added : At K mg "_law_added" "_law_added" s_law_added ["store", "x", "y", "told", "many"])
    (a_law_negated : At K mg "_law_negated" "_law_negated" s_law_negated ["store", "x"]) :
    FnOk P w K mg base CX0 8 fa fd ["script"] (spLaw K) := by
  have H_law_cell := ok_cell (P := P) (w := w) (base := base) a_law_cell T 
  have H_law_begin := ok_begin (P := P) (w := w) (base := base) a_law_begin T 
  have H_law_draw := ok_draw (P := P) (w := w) (base := base) a_law_draw T H_law_cell
  have M_Ref := mk_Ref (P := P) (w := w) (base := base) a_Ref___init__ T 
  have M_Builtin := mk_Builtin (P := P) (w := w) (base := base) a_Builtin___init__ T 
  have M_Instance := mk_Instance (P := P) (w := w) (base := base) a_Instance___init__ T 
  have M_Kin := mk_Kin (P := P) (w := w) (base := base) a_Kin___init__ T 
  have M_Parts := mk_Parts (P := P) (w := w) (base := base) a_Parts___init__ T 
  have M_Closure := mk_Closure (P := P) (w := w) (base := base) a_Closure___init__ T 
  have E_ScriptError := mkE_ScriptError (P := P) (w := w) (base := base) a_ScriptError___init__ T 
  have M_Table := ok_mktab (P := P) (w := w) (base := base) a_Table___init__ T 
  have M_Store := ok_store (P := P) (w := w) (base := base) a_Store___init__ T M_Kin
  have M_Store_make := ok_make (P := P) (w := w) (base := base) a_Store_make T M_Ref
  have M_Store_at := ok_at (P := P) (w := w) (base := base) a_Store_at T 
  have H_thing_of := ok_thing (P := P) (w := w) (base := base) a_thing_of T M_Store_at
  have H_kind_of := ok_kind (P := P) (w := w) (base := base) a_kind_of T H_thing_of
  have H_check_parts := ok_check (P := P) (w := w) (base := base) a_check_parts T E_ScriptError
  have H_law_pick := ok_pick2 (P := P) (w := w) (base := base) a_law_pick T H_law_draw
  have H_is_below := ok_below (P := P) (w := w) (base := base) a_is_below T M_Store_at
  have H_make_class := ok_mkclass (P := P) (w := w) (base := base) a_make_class T H_thing_of M_Kin M_Store_make E_ScriptError
  have H_is_integer := ok_isint (P := P) (w := w) (base := base) a_is_integer T 
  have H_fitting_text := ok_fit (P := P) (w := w) (base := base) a_fitting_text T E_ScriptError
  have H_reckoned := ok_reckO (P := P) (w := w) (base := base) a_reckoned T TD H_is_integer H_kind_of E_ScriptError
  have H_compared := ok_cmpO (P := P) (w := w) (base := base) a_compared T H_is_integer H_kind_of E_ScriptError
  have H_make_list := ok_mklist2 (P := P) (w := w) (base := base) a_make_list T H_check_parts M_Parts M_Store_make
  have H_is_of := ok_isof (P := P) (w := w) (base := base) a_is_of T H_thing_of H_is_below E_ScriptError
  have H_unary := ok_unO (P := P) (w := w) (base := base) a_unary T H_is_integer H_kind_of E_ScriptError
  have H_added := ok_addO (P := P) (w := w) (base := base) a_added T H_is_integer H_thing_of H_kind_of H_fitting_text H_make_list E_ScriptError
  have H_binary := ok_binO (P := P) (w := w) (base := base) a_binary T TD H_is_of H_added H_reckoned H_compared
  have H_law_text := ok_ltext (P := P) (w := w) (base := base) a_law_text T H_law_draw H_law_pick
  have H_law_kind := ok_lkind (P := P) (w := w) (base := base) a_law_kind T H_kind_of
  have H_law_told := ok_ltold (P := P) (w := w) (base := base) a_law_told T H_binary
  have H_law_value := ok_lval (P := P) (w := w) (base := base) a_law_value T H_law_draw H_law_pick H_law_text M_Builtin M_Ref
  have H_law_compared := ok_lcmp (P := P) (w := w) (base := base) a_law_compared T 
  have H_law_is_integer := ok_lint (P := P) (w := w) (base := base) a_law_is_integer T 
  have H_make_map := ok_mkmap0 (P := P) (w := w) (base := base) a_make_map T M_Table M_Store_make
  have H_law_store := ok_lstore (P := P) (w := w) (base := base) a_law_store T H_law_draw H_law_pick M_Store M_Ref M_Instance M_Closure M_Store_make H_make_class H_make_list H_make_map
  have M_Ref___eq__ := ok_eqRef (P := P) (w := w) (base := base) a_Ref___eq__ T 
  have M_Builtin___eq__ := ok_eqBt (P := P) (w := w) (base := base) a_Builtin___eq__ T 
  have H_law_is := ok_lis (P := P) (w := w) (base := base) a_law_is T H_law_kind
  have H_law_added := ok_ladded (P := P) (w := w) (base := base) a_law_added T H_law_kind M_Ref M_Ref___eq__
  have MQ_Store_at := okq_at (P := P) (w := w) (base := base) a_Store_at T 
  have HQ_thing_of := okq_thing (P := P) (w := w) (base := base) a_thing_of T MQ_Store_at
  have HQ_kind_of := okq_kind (P := P) (w := w) (base := base) a_kind_of T HQ_thing_of
  have HQ_law_kind := okq_lkind (P := P) (w := w) (base := base) a_law_kind T HQ_kind_of
  have H_law_negated := ok_lneg (P := P) (w := w) (base := base) a_law_negated T H_unary HQ_law_kind H_law_is_integer
  exact law_has F T H_law_begin H_law_store H_law_value H_law_is_integer H_law_kind H_law_told H_law_compared H_law_is H_law_negated H_law_added
end
theorem all_mk {P : Program} {w : World} {K : PySem.W.Frag} {h : Heap} {mg : Str → Option Value} {fa : Addr} {C_Ref C_Builtin C_Parts C_Table C_Instance C_Kin C_Closure C_Store C_LivequillError C_ScriptError : Addr} (X : K.In h) (G : h.Ns mainGlobals mg) (hfa : mg "law" = some (.ref fa))
    (n_Ref : PySem.W.nsIn K mainGlobals "Ref" = some (some (.ref C_Ref)))
    (n_Builtin : PySem.W.nsIn K mainGlobals "Builtin" = some (some (.ref C_Builtin)))
    (n_Parts : PySem.W.nsIn K mainGlobals "Parts" = some (some (.ref C_Parts)))
    (n_Table : PySem.W.nsIn K mainGlobals "Table" = some (some (.ref C_Table)))
    (n_Instance : PySem.W.nsIn K mainGlobals "Instance" = some (some (.ref C_Instance)))
    (n_Kin : PySem.W.nsIn K mainGlobals "Kin" = some (some (.ref C_Kin)))
    (n_Closure : PySem.W.nsIn K mainGlobals "Closure" = some (some (.ref C_Closure)))
    (n_Store : PySem.W.nsIn K mainGlobals "Store" = some (some (.ref C_Store)))
    (n_LivequillError : PySem.W.nsIn K mainGlobals "LivequillError" = some (some (.ref C_LivequillError)))
    (n_ScriptError : PySem.W.nsIn K mainGlobals "ScriptError" = some (some (.ref C_ScriptError)))
    (x_Ref : ClsFact K C_Ref)
    (x_Builtin : ClsFact K C_Builtin)
    (x_Parts : ClsFact K C_Parts)
    (x_Table : ClsFact K C_Table)
    (x_Instance : ClsFact K C_Instance)
    (x_Kin : ClsFact K C_Kin)
    (x_Closure : ClsFact K C_Closure)
    (x_Store : ClsFact K C_Store)
    (x_LivequillError : ExcFact K C_LivequillError)
    (x_ScriptError : ExcFact K C_ScriptError)
    (xn_kind_ScriptError : PySem.W.findIn K (.ref C_ScriptError) "kind" = some none)
    (xn_message_ScriptError : PySem.W.findIn K (.ref C_ScriptError) "message" = some none)
    (em_ScriptError_ScriptError : PySem.W.subIn K (.ref C_ScriptError) (.ref C_ScriptError) = some true)
    (ob : ObjFact K)
    (na__rows_Table : PySem.W.findIn K (.ref C_Table) "_rows" = some none)
    (na_held_Parts : PySem.W.findIn K (.ref C_Parts) "held" = some none)
    (na_lines_Store : PySem.W.findIn K (.ref C_Store) "lines" = some none)
    (na_methods_Kin : PySem.W.findIn K (.ref C_Kin) "methods" = some none)
    (na_name_Builtin : PySem.W.findIn K (.ref C_Builtin) "name" = some none)
    (na_name_Kin : PySem.W.findIn K (.ref C_Kin) "name" = some none)
    (na_named_Instance : PySem.W.findIn K (.ref C_Instance) "named" = some none)
    (na_number_Ref : PySem.W.findIn K (.ref C_Ref) "number" = some none)
    (na_number_Closure : PySem.W.findIn K (.ref C_Closure) "number" = some none)
    (na_output_Store : PySem.W.findIn K (.ref C_Store) "output" = some none)
    (na_owner_Instance : PySem.W.findIn K (.ref C_Instance) "owner" = some none)
    (na_parent_Kin : PySem.W.findIn K (.ref C_Kin) "parent" = some none)
    (na_scope_Closure : PySem.W.findIn K (.ref C_Closure) "scope" = some none)
    (na_taken_Store : PySem.W.findIn K (.ref C_Store) "taken" = some none)
    (na_things_Store : PySem.W.findIn K (.ref C_Store) "things" = some none)
    (na_wanted_Closure : PySem.W.findIn K (.ref C_Closure) "wanted" = some none)
    (oo_Ref_Ref : PySem.W.kitOne K (.ref C_Ref) (.ref C_Ref) = some (decide (C_Ref = C_Ref)))
    (oo_Ref_Parts : PySem.W.kitOne K (.ref C_Ref) (.ref C_Parts) = some (decide (C_Ref = C_Parts)))
    (oo_Ref_Table : PySem.W.kitOne K (.ref C_Ref) (.ref C_Table) = some (decide (C_Ref = C_Table)))
    (oo_Ref_Instance : PySem.W.kitOne K (.ref C_Ref) (.ref C_Instance) = some (decide (C_Ref = C_Instance)))
    (oo_Ref_Kin : PySem.W.kitOne K (.ref C_Ref) (.ref C_Kin) = some (decide (C_Ref = C_Kin)))
    (oo_Ref_Builtin : PySem.W.kitOne K (.ref C_Ref) (.ref C_Builtin) = some (decide (C_Ref = C_Builtin)))
    (oo_Builtin_Ref : PySem.W.kitOne K (.ref C_Builtin) (.ref C_Ref) = some (decide (C_Builtin = C_Ref)))
    (oo_Builtin_Parts : PySem.W.kitOne K (.ref C_Builtin) (.ref C_Parts) = some (decide (C_Builtin = C_Parts)))
    (oo_Builtin_Table : PySem.W.kitOne K (.ref C_Builtin) (.ref C_Table) = some (decide (C_Builtin = C_Table)))
    (oo_Builtin_Instance : PySem.W.kitOne K (.ref C_Builtin) (.ref C_Instance) = some (decide (C_Builtin = C_Instance)))
    (oo_Builtin_Kin : PySem.W.kitOne K (.ref C_Builtin) (.ref C_Kin) = some (decide (C_Builtin = C_Kin)))
    (oo_Builtin_Builtin : PySem.W.kitOne K (.ref C_Builtin) (.ref C_Builtin) = some (decide (C_Builtin = C_Builtin)))
    (oo_Parts_Ref : PySem.W.kitOne K (.ref C_Parts) (.ref C_Ref) = some (decide (C_Parts = C_Ref)))
    (oo_Parts_Parts : PySem.W.kitOne K (.ref C_Parts) (.ref C_Parts) = some (decide (C_Parts = C_Parts)))
    (oo_Parts_Table : PySem.W.kitOne K (.ref C_Parts) (.ref C_Table) = some (decide (C_Parts = C_Table)))
    (oo_Parts_Instance : PySem.W.kitOne K (.ref C_Parts) (.ref C_Instance) = some (decide (C_Parts = C_Instance)))
    (oo_Parts_Kin : PySem.W.kitOne K (.ref C_Parts) (.ref C_Kin) = some (decide (C_Parts = C_Kin)))
    (oo_Parts_Builtin : PySem.W.kitOne K (.ref C_Parts) (.ref C_Builtin) = some (decide (C_Parts = C_Builtin)))
    (oo_Table_Ref : PySem.W.kitOne K (.ref C_Table) (.ref C_Ref) = some (decide (C_Table = C_Ref)))
    (oo_Table_Parts : PySem.W.kitOne K (.ref C_Table) (.ref C_Parts) = some (decide (C_Table = C_Parts)))
    (oo_Table_Table : PySem.W.kitOne K (.ref C_Table) (.ref C_Table) = some (decide (C_Table = C_Table)))
    (oo_Table_Instance : PySem.W.kitOne K (.ref C_Table) (.ref C_Instance) = some (decide (C_Table = C_Instance)))
    (oo_Table_Kin : PySem.W.kitOne K (.ref C_Table) (.ref C_Kin) = some (decide (C_Table = C_Kin)))
    (oo_Table_Builtin : PySem.W.kitOne K (.ref C_Table) (.ref C_Builtin) = some (decide (C_Table = C_Builtin)))
    (oo_Instance_Ref : PySem.W.kitOne K (.ref C_Instance) (.ref C_Ref) = some (decide (C_Instance = C_Ref)))
    (oo_Instance_Parts : PySem.W.kitOne K (.ref C_Instance) (.ref C_Parts) = some (decide (C_Instance = C_Parts)))
    (oo_Instance_Table : PySem.W.kitOne K (.ref C_Instance) (.ref C_Table) = some (decide (C_Instance = C_Table)))
    (oo_Instance_Instance : PySem.W.kitOne K (.ref C_Instance) (.ref C_Instance) = some (decide (C_Instance = C_Instance)))
    (oo_Instance_Kin : PySem.W.kitOne K (.ref C_Instance) (.ref C_Kin) = some (decide (C_Instance = C_Kin)))
    (oo_Instance_Builtin : PySem.W.kitOne K (.ref C_Instance) (.ref C_Builtin) = some (decide (C_Instance = C_Builtin)))
    (oo_Kin_Ref : PySem.W.kitOne K (.ref C_Kin) (.ref C_Ref) = some (decide (C_Kin = C_Ref)))
    (oo_Kin_Parts : PySem.W.kitOne K (.ref C_Kin) (.ref C_Parts) = some (decide (C_Kin = C_Parts)))
    (oo_Kin_Table : PySem.W.kitOne K (.ref C_Kin) (.ref C_Table) = some (decide (C_Kin = C_Table)))
    (oo_Kin_Instance : PySem.W.kitOne K (.ref C_Kin) (.ref C_Instance) = some (decide (C_Kin = C_Instance)))
    (oo_Kin_Kin : PySem.W.kitOne K (.ref C_Kin) (.ref C_Kin) = some (decide (C_Kin = C_Kin)))
    (oo_Kin_Builtin : PySem.W.kitOne K (.ref C_Kin) (.ref C_Builtin) = some (decide (C_Kin = C_Builtin)))
    (oo_Closure_Ref : PySem.W.kitOne K (.ref C_Closure) (.ref C_Ref) = some (decide (C_Closure = C_Ref)))
    (oo_Closure_Parts : PySem.W.kitOne K (.ref C_Closure) (.ref C_Parts) = some (decide (C_Closure = C_Parts)))
    (oo_Closure_Table : PySem.W.kitOne K (.ref C_Closure) (.ref C_Table) = some (decide (C_Closure = C_Table)))
    (oo_Closure_Instance : PySem.W.kitOne K (.ref C_Closure) (.ref C_Instance) = some (decide (C_Closure = C_Instance)))
    (oo_Closure_Kin : PySem.W.kitOne K (.ref C_Closure) (.ref C_Kin) = some (decide (C_Closure = C_Kin)))
    (oo_Closure_Builtin : PySem.W.kitOne K (.ref C_Closure) (.ref C_Builtin) = some (decide (C_Closure = C_Builtin)))
    (oo_Store_Ref : PySem.W.kitOne K (.ref C_Store) (.ref C_Ref) = some (decide (C_Store = C_Ref)))
    (oo_Store_Parts : PySem.W.kitOne K (.ref C_Store) (.ref C_Parts) = some (decide (C_Store = C_Parts)))
    (oo_Store_Table : PySem.W.kitOne K (.ref C_Store) (.ref C_Table) = some (decide (C_Store = C_Table)))
    (oo_Store_Instance : PySem.W.kitOne K (.ref C_Store) (.ref C_Instance) = some (decide (C_Store = C_Instance)))
    (oo_Store_Kin : PySem.W.kitOne K (.ref C_Store) (.ref C_Kin) = some (decide (C_Store = C_Kin)))
    (oo_Store_Builtin : PySem.W.kitOne K (.ref C_Store) (.ref C_Builtin) = some (decide (C_Store = C_Builtin)))
    (bo_NoneType_Ref : PySem.W.kitOne K (.type "NoneType") (.ref C_Ref) = some false)
    (bo_NoneType_Parts : PySem.W.kitOne K (.type "NoneType") (.ref C_Parts) = some false)
    (bo_NoneType_Table : PySem.W.kitOne K (.type "NoneType") (.ref C_Table) = some false)
    (bo_NoneType_Instance : PySem.W.kitOne K (.type "NoneType") (.ref C_Instance) = some false)
    (bo_NoneType_Kin : PySem.W.kitOne K (.type "NoneType") (.ref C_Kin) = some false)
    (bo_NoneType_Builtin : PySem.W.kitOne K (.type "NoneType") (.ref C_Builtin) = some false)
    (bo_bool_Ref : PySem.W.kitOne K (.type "bool") (.ref C_Ref) = some false)
    (bo_bool_Parts : PySem.W.kitOne K (.type "bool") (.ref C_Parts) = some false)
    (bo_bool_Table : PySem.W.kitOne K (.type "bool") (.ref C_Table) = some false)
    (bo_bool_Instance : PySem.W.kitOne K (.type "bool") (.ref C_Instance) = some false)
    (bo_bool_Kin : PySem.W.kitOne K (.type "bool") (.ref C_Kin) = some false)
    (bo_bool_Builtin : PySem.W.kitOne K (.type "bool") (.ref C_Builtin) = some false)
    (bo_int_Ref : PySem.W.kitOne K (.type "int") (.ref C_Ref) = some false)
    (bo_int_Parts : PySem.W.kitOne K (.type "int") (.ref C_Parts) = some false)
    (bo_int_Table : PySem.W.kitOne K (.type "int") (.ref C_Table) = some false)
    (bo_int_Instance : PySem.W.kitOne K (.type "int") (.ref C_Instance) = some false)
    (bo_int_Kin : PySem.W.kitOne K (.type "int") (.ref C_Kin) = some false)
    (bo_int_Builtin : PySem.W.kitOne K (.type "int") (.ref C_Builtin) = some false)
    (bo_str_Ref : PySem.W.kitOne K (.type "str") (.ref C_Ref) = some false)
    (bo_str_Parts : PySem.W.kitOne K (.type "str") (.ref C_Parts) = some false)
    (bo_str_Table : PySem.W.kitOne K (.type "str") (.ref C_Table) = some false)
    (bo_str_Instance : PySem.W.kitOne K (.type "str") (.ref C_Instance) = some false)
    (bo_str_Kin : PySem.W.kitOne K (.type "str") (.ref C_Kin) = some false)
    (bo_str_Builtin : PySem.W.kitOne K (.type "str") (.ref C_Builtin) = some false)
    (bo_list_Ref : PySem.W.kitOne K (.type "list") (.ref C_Ref) = some false)
    (bo_list_Parts : PySem.W.kitOne K (.type "list") (.ref C_Parts) = some false)
    (bo_list_Table : PySem.W.kitOne K (.type "list") (.ref C_Table) = some false)
    (bo_list_Instance : PySem.W.kitOne K (.type "list") (.ref C_Instance) = some false)
    (bo_list_Kin : PySem.W.kitOne K (.type "list") (.ref C_Kin) = some false)
    (bo_list_Builtin : PySem.W.kitOne K (.type "list") (.ref C_Builtin) = some false)
    (bo_tuple_Ref : PySem.W.kitOne K (.type "tuple") (.ref C_Ref) = some false)
    (bo_tuple_Parts : PySem.W.kitOne K (.type "tuple") (.ref C_Parts) = some false)
    (bo_tuple_Table : PySem.W.kitOne K (.type "tuple") (.ref C_Table) = some false)
    (bo_tuple_Instance : PySem.W.kitOne K (.type "tuple") (.ref C_Instance) = some false)
    (bo_tuple_Kin : PySem.W.kitOne K (.type "tuple") (.ref C_Kin) = some false)
    (bo_tuple_Builtin : PySem.W.kitOne K (.type "tuple") (.ref C_Builtin) = some false)
    (bo_dict_Ref : PySem.W.kitOne K (.type "dict") (.ref C_Ref) = some false)
    (bo_dict_Parts : PySem.W.kitOne K (.type "dict") (.ref C_Parts) = some false)
    (bo_dict_Table : PySem.W.kitOne K (.type "dict") (.ref C_Table) = some false)
    (bo_dict_Instance : PySem.W.kitOne K (.type "dict") (.ref C_Instance) = some false)
    (bo_dict_Kin : PySem.W.kitOne K (.type "dict") (.ref C_Kin) = some false)
    (bo_dict_Builtin : PySem.W.kitOne K (.type "dict") (.ref C_Builtin) = some false)
    (ob_Ref_bool : PySem.W.kitOne K (.ref C_Ref) (.type "bool") = some false)
    (ob_Ref_int : PySem.W.kitOne K (.ref C_Ref) (.type "int") = some false)
    (ob_Ref_str : PySem.W.kitOne K (.ref C_Ref) (.type "str") = some false)
    (ob_Ref_list : PySem.W.kitOne K (.ref C_Ref) (.type "list") = some false)
    (ob_Ref_tuple : PySem.W.kitOne K (.ref C_Ref) (.type "tuple") = some false)
    (ob_Ref_dict : PySem.W.kitOne K (.ref C_Ref) (.type "dict") = some false)
    (ob_Builtin_bool : PySem.W.kitOne K (.ref C_Builtin) (.type "bool") = some false)
    (ob_Builtin_int : PySem.W.kitOne K (.ref C_Builtin) (.type "int") = some false)
    (ob_Builtin_str : PySem.W.kitOne K (.ref C_Builtin) (.type "str") = some false)
    (ob_Builtin_list : PySem.W.kitOne K (.ref C_Builtin) (.type "list") = some false)
    (ob_Builtin_tuple : PySem.W.kitOne K (.ref C_Builtin) (.type "tuple") = some false)
    (ob_Builtin_dict : PySem.W.kitOne K (.ref C_Builtin) (.type "dict") = some false)
    (ob_Parts_bool : PySem.W.kitOne K (.ref C_Parts) (.type "bool") = some false)
    (ob_Parts_int : PySem.W.kitOne K (.ref C_Parts) (.type "int") = some false)
    (ob_Parts_str : PySem.W.kitOne K (.ref C_Parts) (.type "str") = some false)
    (ob_Parts_list : PySem.W.kitOne K (.ref C_Parts) (.type "list") = some false)
    (ob_Parts_tuple : PySem.W.kitOne K (.ref C_Parts) (.type "tuple") = some false)
    (ob_Parts_dict : PySem.W.kitOne K (.ref C_Parts) (.type "dict") = some false)
    (ob_Table_bool : PySem.W.kitOne K (.ref C_Table) (.type "bool") = some false)
    (ob_Table_int : PySem.W.kitOne K (.ref C_Table) (.type "int") = some false)
    (ob_Table_str : PySem.W.kitOne K (.ref C_Table) (.type "str") = some false)
    (ob_Table_list : PySem.W.kitOne K (.ref C_Table) (.type "list") = some false)
    (ob_Table_tuple : PySem.W.kitOne K (.ref C_Table) (.type "tuple") = some false)
    (ob_Table_dict : PySem.W.kitOne K (.ref C_Table) (.type "dict") = some false)
    (ob_Instance_bool : PySem.W.kitOne K (.ref C_Instance) (.type "bool") = some false)
    (ob_Instance_int : PySem.W.kitOne K (.ref C_Instance) (.type "int") = some false)
    (ob_Instance_str : PySem.W.kitOne K (.ref C_Instance) (.type "str") = some false)
    (ob_Instance_list : PySem.W.kitOne K (.ref C_Instance) (.type "list") = some false)
    (ob_Instance_tuple : PySem.W.kitOne K (.ref C_Instance) (.type "tuple") = some false)
    (ob_Instance_dict : PySem.W.kitOne K (.ref C_Instance) (.type "dict") = some false)
    (ob_Kin_bool : PySem.W.kitOne K (.ref C_Kin) (.type "bool") = some false)
    (ob_Kin_int : PySem.W.kitOne K (.ref C_Kin) (.type "int") = some false)
    (ob_Kin_str : PySem.W.kitOne K (.ref C_Kin) (.type "str") = some false)
    (ob_Kin_list : PySem.W.kitOne K (.ref C_Kin) (.type "list") = some false)
    (ob_Kin_tuple : PySem.W.kitOne K (.ref C_Kin) (.type "tuple") = some false)
    (ob_Kin_dict : PySem.W.kitOne K (.ref C_Kin) (.type "dict") = some false)
    (ob_Closure_bool : PySem.W.kitOne K (.ref C_Closure) (.type "bool") = some false)
    (ob_Closure_int : PySem.W.kitOne K (.ref C_Closure) (.type "int") = some false)
    (ob_Closure_str : PySem.W.kitOne K (.ref C_Closure) (.type "str") = some false)
    (ob_Closure_list : PySem.W.kitOne K (.ref C_Closure) (.type "list") = some false)
    (ob_Closure_tuple : PySem.W.kitOne K (.ref C_Closure) (.type "tuple") = some false)
    (ob_Closure_dict : PySem.W.kitOne K (.ref C_Closure) (.type "dict") = some false)
    (ob_Store_bool : PySem.W.kitOne K (.ref C_Store) (.type "bool") = some false)
    (ob_Store_int : PySem.W.kitOne K (.ref C_Store) (.type "int") = some false)
    (ob_Store_str : PySem.W.kitOne K (.ref C_Store) (.type "str") = some false)
    (ob_Store_list : PySem.W.kitOne K (.ref C_Store) (.type "list") = some false)
    (ob_Store_tuple : PySem.W.kitOne K (.ref C_Store) (.type "tuple") = some false)
    (ob_Store_dict : PySem.W.kitOne K (.ref C_Store) (.type "dict") = some false)
    (ne_Ref_Builtin : C_Ref ≠ C_Builtin)
    (ne_Ref_Parts : C_Ref ≠ C_Parts)
    (ne_Ref_Table : C_Ref ≠ C_Table)
    (ne_Ref_Instance : C_Ref ≠ C_Instance)
    (ne_Ref_Kin : C_Ref ≠ C_Kin)
    (ne_Ref_Closure : C_Ref ≠ C_Closure)
    (ne_Ref_Store : C_Ref ≠ C_Store)
    (ne_Builtin_Parts : C_Builtin ≠ C_Parts)
    (ne_Builtin_Table : C_Builtin ≠ C_Table)
    (ne_Builtin_Instance : C_Builtin ≠ C_Instance)
    (ne_Builtin_Kin : C_Builtin ≠ C_Kin)
    (ne_Builtin_Closure : C_Builtin ≠ C_Closure)
    (ne_Builtin_Store : C_Builtin ≠ C_Store)
    (ne_Parts_Table : C_Parts ≠ C_Table)
    (ne_Parts_Instance : C_Parts ≠ C_Instance)
    (ne_Parts_Kin : C_Parts ≠ C_Kin)
    (ne_Parts_Closure : C_Parts ≠ C_Closure)
    (ne_Parts_Store : C_Parts ≠ C_Store)
    (ne_Table_Instance : C_Table ≠ C_Instance)
    (ne_Table_Kin : C_Table ≠ C_Kin)
    (ne_Table_Closure : C_Table ≠ C_Closure)
    (ne_Table_Store : C_Table ≠ C_Store)
    (ne_Instance_Kin : C_Instance ≠ C_Kin)
    (ne_Instance_Closure : C_Instance ≠ C_Closure)
    (ne_Instance_Store : C_Instance ≠ C_Store)
    (ne_Kin_Closure : C_Kin ≠ C_Closure)
    (ne_Kin_Store : C_Kin ≠ C_Store)
    (ne_Closure_Store : C_Closure ≠ C_Store)
    (gd_VERBS : GDictF K w "VERBS" [("+", some (.str "add")), ("-", some (.str "subtract")), ("*", some (.str "multiply")), ("/", some (.str "divide")), ("mod", some (.str "divide")), ("<", none), ("<=", none), (">", none), (">=", none), ("is", none)])
    (f0 : FnFact K "_law_cell" "_law_cell" s_law_cell) (f1 : FnFact K "_law_begin" "_law_begin" s_law_begin) (f2 : FnFact K "_law_draw" "_law_draw" s_law_draw) (f3 : MFact K C_Ref "__init__" "Ref.__init__" s_Ref___init__) (f4 : MFact K C_Builtin "__init__" "Builtin.__init__" s_Builtin___init__) (f5 : MFact K C_Instance "__init__" "Instance.__init__" s_Instance___init__) (f6 : MFact K C_Kin "__init__" "Kin.__init__" s_Kin___init__) (f7 : MFact K C_Parts "__init__" "Parts.__init__" s_Parts___init__) (f8 : MFact K C_Closure "__init__" "Closure.__init__" s_Closure___init__) (f9 : EFact K C_ScriptError  "ScriptError.__init__" s_ScriptError___init__) (f10 : MFact K C_Table "__init__" "Table.__init__" s_Table___init__) (f11 : MFact K C_Store "__init__" "Store.__init__" s_Store___init__) (f12 : MFact K C_Store "make" "Store.make" s_Store_make) (f13 : MFact K C_Store "at" "Store.at" s_Store_at) (f14 : FnFact K "thing_of" "thing_of" s_thing_of) (f15 : FnFact K "kind_of" "kind_of" s_kind_of) (f16 : FnFact K "check_parts" "check_parts" s_check_parts) (f17 : FnFact K "_law_pick" "_law_pick" s_law_pick) (f18 : FnFact K "is_below" "is_below" s_is_below) (f19 : FnFact K "make_class" "make_class" s_make_class) (f20 : FnFact K "is_integer" "is_integer" s_is_integer) (f21 : FnFact K "fitting_text" "fitting_text" s_fitting_text) (f22 : FnFact K "reckoned" "reckoned" s_reckoned) (f23 : FnFact K "compared" "compared" s_compared) (f24 : FnFact K "make_list" "make_list" s_make_list) (f25 : FnFact K "is_of" "is_of" s_is_of) (f26 : FnFact K "unary" "unary" s_unary) (f27 : FnFact K "added" "added" s_added) (f28 : FnFact K "binary" "binary" s_binary) (f29 : FnFact K "_law_text" "_law_text" s_law_text) (f30 : FnFact K "_law_kind" "_law_kind" s_law_kind) (f31 : FnFact K "_law_told" "_law_told" s_law_told) (f32 : FnFact K "_law_value" "_law_value" s_law_value) (f33 : FnFact K "_law_compared" "_law_compared" s_law_compared) (f34 : FnFact K "_law_is_integer" "_law_is_integer" s_law_is_integer) (f35 : FnFact K "make_map" "make_map" s_make_map) (f36 : FnFact K "_law_store" "_law_store" s_law_store) (f37 : MFact K C_Ref "__eq__" "Ref.__eq__" s_Ref___eq__) (f38 : MFact K C_Builtin "__eq__" "Builtin.__eq__" s_Builtin___eq__) (f39 : FnFact K "_law_is" "_law_is" s_law_is) (f40 : FnFact K "_law_added" "_law_added" s_law_added) (f41 : FnFact K "_law_negated" "_law_negated" s_law_negated) (f42 : FnFact K "law" "law" s_law)
    (z_abs : PySem.W.nsIn K mainGlobals "abs" = some none) (z_bool : PySem.W.nsIn K mainGlobals "bool" = some none) (z_dict : PySem.W.nsIn K mainGlobals "dict" = some none) (z_enumerate : PySem.W.nsIn K mainGlobals "enumerate" = some none) (z_int : PySem.W.nsIn K mainGlobals "int" = some none) (z_isinstance : PySem.W.nsIn K mainGlobals "isinstance" = some none) (z_len : PySem.W.nsIn K mainGlobals "len" = some none) (z_list : PySem.W.nsIn K mainGlobals "list" = some none) (z_max : PySem.W.nsIn K mainGlobals "max" = some none) (z_min : PySem.W.nsIn K mainGlobals "min" = some none) (z_range : PySem.W.nsIn K mainGlobals "range" = some none) (z_str : PySem.W.nsIn K mainGlobals "str" = some none) (z_tuple : PySem.W.nsIn K mainGlobals "tuple" = some none) (z_zip : PySem.W.nsIn K mainGlobals "zip" = some none)
    (q_ERROR : ∃ t, PySem.W.nsIn K mainGlobals "ERROR" = some (some (.str "Error" t))) (q_MOST_CHARACTERS : ∃ t, PySem.W.nsIn K mainGlobals "MOST_CHARACTERS" = some (some (.int 1000 t))) (q_MOST_PARTS : ∃ t, PySem.W.nsIn K mainGlobals "MOST_PARTS" = some (some (.int 1000 t))) :
    ∃ fd : FuncData, (∀ (s : Shared) (v : Value), BindsTo s fd ⟨[v], []⟩ [("script", v)]) ∧ ∀ base : Heap, K.In base → base.Ns mainGlobals mg → FnOk P w K mg base CX0 8 fa fd ["script"] (spLaw K) := by
  have T : Txt K mg ⟨C_Ref, C_Builtin, C_Parts, C_Table, C_Instance, C_Kin, C_Closure, C_Store, C_LivequillError, C_ScriptError⟩ := ⟨PySem.W.mg_none_of X G z_abs,
    PySem.W.mg_none_of X G z_bool,
    PySem.W.mg_none_of X G z_dict,
    PySem.W.mg_none_of X G z_enumerate,
    PySem.W.mg_none_of X G z_int,
    PySem.W.mg_none_of X G z_isinstance,
    PySem.W.mg_none_of X G z_len,
    PySem.W.mg_none_of X G z_list,
    PySem.W.mg_none_of X G z_max,
    PySem.W.mg_none_of X G z_min,
    PySem.W.mg_none_of X G z_range,
    PySem.W.mg_none_of X G z_str,
    PySem.W.mg_none_of X G z_tuple,
    PySem.W.mg_none_of X G z_zip,
    (let ⟨t, h⟩ := q_ERROR; ⟨t, PySem.W.mg_of X G h⟩),
    (let ⟨t, h⟩ := q_MOST_CHARACTERS; ⟨t, PySem.W.mg_of X G h⟩),
    (let ⟨t, h⟩ := q_MOST_PARTS; ⟨t, PySem.W.mg_of X G h⟩),
    PySem.W.mg_of X G n_Ref,
    x_Ref.cls,
    ⟨x_Ref.mks, x_Ref.kp, PySem.W.mg_of X G n_Ref⟩,
    PySem.W.mg_of X G n_Builtin,
    x_Builtin.cls,
    ⟨x_Builtin.mks, x_Builtin.kp, PySem.W.mg_of X G n_Builtin⟩,
    PySem.W.mg_of X G n_Parts,
    x_Parts.cls,
    ⟨x_Parts.mks, x_Parts.kp, PySem.W.mg_of X G n_Parts⟩,
    PySem.W.mg_of X G n_Table,
    x_Table.cls,
    ⟨x_Table.mks, x_Table.kp, PySem.W.mg_of X G n_Table⟩,
    PySem.W.mg_of X G n_Instance,
    x_Instance.cls,
    ⟨x_Instance.mks, x_Instance.kp, PySem.W.mg_of X G n_Instance⟩,
    PySem.W.mg_of X G n_Kin,
    x_Kin.cls,
    ⟨x_Kin.mks, x_Kin.kp, PySem.W.mg_of X G n_Kin⟩,
    PySem.W.mg_of X G n_Closure,
    x_Closure.cls,
    ⟨x_Closure.mks, x_Closure.kp, PySem.W.mg_of X G n_Closure⟩,
    PySem.W.mg_of X G n_Store,
    x_Store.cls,
    ⟨x_Store.mks, x_Store.kp, PySem.W.mg_of X G n_Store⟩,
    (all_cons ⟨x_Table.cls, na__rows_Table⟩ all_nil),
    (all_cons ⟨x_Parts.cls, na_held_Parts⟩ all_nil),
    (all_cons ⟨x_Store.cls, na_lines_Store⟩ all_nil),
    (all_cons ⟨x_Kin.cls, na_methods_Kin⟩ all_nil),
    (all_cons ⟨x_Builtin.cls, na_name_Builtin⟩ (all_cons ⟨x_Kin.cls, na_name_Kin⟩ all_nil)),
    (all_cons ⟨x_Instance.cls, na_named_Instance⟩ all_nil),
    (all_cons ⟨x_Ref.cls, na_number_Ref⟩ (all_cons ⟨x_Closure.cls, na_number_Closure⟩ all_nil)),
    (all_cons ⟨x_Store.cls, na_output_Store⟩ all_nil),
    (all_cons ⟨x_Instance.cls, na_owner_Instance⟩ all_nil),
    (all_cons ⟨x_Kin.cls, na_parent_Kin⟩ all_nil),
    (all_cons ⟨x_Closure.cls, na_scope_Closure⟩ all_nil),
    (all_cons ⟨x_Store.cls, na_taken_Store⟩ all_nil),
    (all_cons ⟨x_Store.cls, na_things_Store⟩ all_nil),
    (all_cons ⟨x_Closure.cls, na_wanted_Closure⟩ all_nil),
    (all_cons ⟨x_ScriptError.xf, xn_kind_ScriptError⟩ all_nil),
    (all_cons ⟨x_ScriptError.xf, xn_message_ScriptError⟩ all_nil),
    (all_cons x_LivequillError (all_cons x_ScriptError all_nil)),
    PySem.W.mg_of X G n_LivequillError,
    PySem.W.mg_of X G n_ScriptError,
    xn_kind_ScriptError,
    xn_message_ScriptError,
    PySem.W.exm_ref x_ScriptError.exC x_ScriptError.hdC x_ScriptError.tyC em_ScriptError_ScriptError,
    ob,
    ⟨(all_cons (x_Ref.ocls ob) (all_cons (x_Builtin.ocls ob) (all_cons (x_Parts.ocls ob) (all_cons (x_Table.ocls ob) (all_cons (x_Instance.ocls ob) (all_cons (x_Kin.ocls ob) (all_cons (x_Closure.ocls ob) (all_cons (x_Store.ocls ob) all_nil)))))))), (all_cons (all_cons oo_Ref_Ref (all_cons oo_Ref_Parts (all_cons oo_Ref_Table (all_cons oo_Ref_Instance (all_cons oo_Ref_Kin (all_cons oo_Ref_Builtin all_nil)))))) (all_cons (all_cons oo_Builtin_Ref (all_cons oo_Builtin_Parts (all_cons oo_Builtin_Table (all_cons oo_Builtin_Instance (all_cons oo_Builtin_Kin (all_cons oo_Builtin_Builtin all_nil)))))) (all_cons (all_cons oo_Parts_Ref (all_cons oo_Parts_Parts (all_cons oo_Parts_Table (all_cons oo_Parts_Instance (all_cons oo_Parts_Kin (all_cons oo_Parts_Builtin all_nil)))))) (all_cons (all_cons oo_Table_Ref (all_cons oo_Table_Parts (all_cons oo_Table_Table (all_cons oo_Table_Instance (all_cons oo_Table_Kin (all_cons oo_Table_Builtin all_nil)))))) (all_cons (all_cons oo_Instance_Ref (all_cons oo_Instance_Parts (all_cons oo_Instance_Table (all_cons oo_Instance_Instance (all_cons oo_Instance_Kin (all_cons oo_Instance_Builtin all_nil)))))) (all_cons (all_cons oo_Kin_Ref (all_cons oo_Kin_Parts (all_cons oo_Kin_Table (all_cons oo_Kin_Instance (all_cons oo_Kin_Kin (all_cons oo_Kin_Builtin all_nil)))))) (all_cons (all_cons oo_Closure_Ref (all_cons oo_Closure_Parts (all_cons oo_Closure_Table (all_cons oo_Closure_Instance (all_cons oo_Closure_Kin (all_cons oo_Closure_Builtin all_nil)))))) (all_cons (all_cons oo_Store_Ref (all_cons oo_Store_Parts (all_cons oo_Store_Table (all_cons oo_Store_Instance (all_cons oo_Store_Kin (all_cons oo_Store_Builtin all_nil)))))) all_nil)))))))), (all_cons (all_cons bo_NoneType_Ref (all_cons bo_NoneType_Parts (all_cons bo_NoneType_Table (all_cons bo_NoneType_Instance (all_cons bo_NoneType_Kin (all_cons bo_NoneType_Builtin all_nil)))))) (all_cons (all_cons bo_bool_Ref (all_cons bo_bool_Parts (all_cons bo_bool_Table (all_cons bo_bool_Instance (all_cons bo_bool_Kin (all_cons bo_bool_Builtin all_nil)))))) (all_cons (all_cons bo_int_Ref (all_cons bo_int_Parts (all_cons bo_int_Table (all_cons bo_int_Instance (all_cons bo_int_Kin (all_cons bo_int_Builtin all_nil)))))) (all_cons (all_cons bo_str_Ref (all_cons bo_str_Parts (all_cons bo_str_Table (all_cons bo_str_Instance (all_cons bo_str_Kin (all_cons bo_str_Builtin all_nil)))))) (all_cons (all_cons bo_list_Ref (all_cons bo_list_Parts (all_cons bo_list_Table (all_cons bo_list_Instance (all_cons bo_list_Kin (all_cons bo_list_Builtin all_nil)))))) (all_cons (all_cons bo_tuple_Ref (all_cons bo_tuple_Parts (all_cons bo_tuple_Table (all_cons bo_tuple_Instance (all_cons bo_tuple_Kin (all_cons bo_tuple_Builtin all_nil)))))) (all_cons (all_cons bo_dict_Ref (all_cons bo_dict_Parts (all_cons bo_dict_Table (all_cons bo_dict_Instance (all_cons bo_dict_Kin (all_cons bo_dict_Builtin all_nil)))))) all_nil))))))), (all_cons (all_cons ob_Ref_bool (all_cons ob_Ref_int (all_cons ob_Ref_str (all_cons ob_Ref_list (all_cons ob_Ref_tuple (all_cons ob_Ref_dict all_nil)))))) (all_cons (all_cons ob_Builtin_bool (all_cons ob_Builtin_int (all_cons ob_Builtin_str (all_cons ob_Builtin_list (all_cons ob_Builtin_tuple (all_cons ob_Builtin_dict all_nil)))))) (all_cons (all_cons ob_Parts_bool (all_cons ob_Parts_int (all_cons ob_Parts_str (all_cons ob_Parts_list (all_cons ob_Parts_tuple (all_cons ob_Parts_dict all_nil)))))) (all_cons (all_cons ob_Table_bool (all_cons ob_Table_int (all_cons ob_Table_str (all_cons ob_Table_list (all_cons ob_Table_tuple (all_cons ob_Table_dict all_nil)))))) (all_cons (all_cons ob_Instance_bool (all_cons ob_Instance_int (all_cons ob_Instance_str (all_cons ob_Instance_list (all_cons ob_Instance_tuple (all_cons ob_Instance_dict all_nil)))))) (all_cons (all_cons ob_Kin_bool (all_cons ob_Kin_int (all_cons ob_Kin_str (all_cons ob_Kin_list (all_cons ob_Kin_tuple (all_cons ob_Kin_dict all_nil)))))) (all_cons (all_cons ob_Closure_bool (all_cons ob_Closure_int (all_cons ob_Closure_str (all_cons ob_Closure_list (all_cons ob_Closure_tuple (all_cons ob_Closure_dict all_nil)))))) (all_cons (all_cons ob_Store_bool (all_cons ob_Store_int (all_cons ob_Store_str (all_cons ob_Store_list (all_cons ob_Store_tuple (all_cons ob_Store_dict all_nil)))))) all_nil))))))))⟩,
    ⟨eq_false ne_Ref_Builtin, eq_false ne_Ref_Parts, eq_false ne_Ref_Table, eq_false ne_Ref_Instance, eq_false ne_Ref_Kin, eq_false ne_Ref_Closure, eq_false ne_Ref_Store, eq_false (fun h => ne_Ref_Builtin h.symm), eq_false ne_Builtin_Parts, eq_false ne_Builtin_Table, eq_false ne_Builtin_Instance, eq_false ne_Builtin_Kin, eq_false ne_Builtin_Closure, eq_false ne_Builtin_Store, eq_false (fun h => ne_Ref_Parts h.symm), eq_false (fun h => ne_Builtin_Parts h.symm), eq_false ne_Parts_Table, eq_false ne_Parts_Instance, eq_false ne_Parts_Kin, eq_false ne_Parts_Closure, eq_false ne_Parts_Store, eq_false (fun h => ne_Ref_Table h.symm), eq_false (fun h => ne_Builtin_Table h.symm), eq_false (fun h => ne_Parts_Table h.symm), eq_false ne_Table_Instance, eq_false ne_Table_Kin, eq_false ne_Table_Closure, eq_false ne_Table_Store, eq_false (fun h => ne_Ref_Instance h.symm), eq_false (fun h => ne_Builtin_Instance h.symm), eq_false (fun h => ne_Parts_Instance h.symm), eq_false (fun h => ne_Table_Instance h.symm), eq_false ne_Instance_Kin, eq_false ne_Instance_Closure, eq_false ne_Instance_Store, eq_false (fun h => ne_Ref_Kin h.symm), eq_false (fun h => ne_Builtin_Kin h.symm), eq_false (fun h => ne_Parts_Kin h.symm), eq_false (fun h => ne_Table_Kin h.symm), eq_false (fun h => ne_Instance_Kin h.symm), eq_false ne_Kin_Closure, eq_false ne_Kin_Store, eq_false (fun h => ne_Ref_Closure h.symm), eq_false (fun h => ne_Builtin_Closure h.symm), eq_false (fun h => ne_Parts_Closure h.symm), eq_false (fun h => ne_Table_Closure h.symm), eq_false (fun h => ne_Instance_Closure h.symm), eq_false (fun h => ne_Kin_Closure h.symm), eq_false ne_Closure_Store, eq_false (fun h => ne_Ref_Store h.symm), eq_false (fun h => ne_Builtin_Store h.symm), eq_false (fun h => ne_Parts_Store h.symm), eq_false (fun h => ne_Table_Store h.symm), eq_false (fun h => ne_Instance_Store h.symm), eq_false (fun h => ne_Kin_Store h.symm), eq_false (fun h => ne_Closure_Store h.symm)⟩⟩
  have TD : TxD w K mg := ⟨gd_VERBS.get X G⟩
  have a0 : At K mg "_law_cell" "_law_cell" s_law_cell ["script", "k"] := At.of X G f0 fun _ _ _ _ _ _ us hl => match us, hl with | [_, _], _ => rfl
  have a1 : At K mg "_law_begin" "_law_begin" s_law_begin ["script", "k"] := At.of X G f1 fun _ _ _ _ _ _ us hl => match us, hl with | [_, _], _ => rfl
  have a2 : At K mg "_law_draw" "_law_draw" s_law_draw ["state", "many"] := At.of X G f2 fun _ _ _ _ _ _ us hl => match us, hl with | [_, _], _ => rfl
  have a3 : AtM K C_Ref "__init__" "Ref.__init__" s_Ref___init__ ["self", "number"] := AtM.of f3 fun _ _ _ _ _ _ us hl => match us, hl with | [_, _], _ => rfl
  have a4 : AtM K C_Builtin "__init__" "Builtin.__init__" s_Builtin___init__ ["self", "name"] := AtM.of f4 fun _ _ _ _ _ _ us hl => match us, hl with | [_, _], _ => rfl
  have a5 : AtM K C_Instance "__init__" "Instance.__init__" s_Instance___init__ ["self", "owner"] := AtM.of f5 fun _ _ _ _ _ _ us hl => match us, hl with | [_, _], _ => rfl
  have a6 : AtM K C_Kin "__init__" "Kin.__init__" s_Kin___init__ ["self", "name", "parent"] := AtM.of f6 fun _ _ _ _ _ _ us hl => match us, hl with | [_, _, _], _ => rfl
  have a7 : AtM K C_Parts "__init__" "Parts.__init__" s_Parts___init__ ["self", "held"] := AtM.of f7 fun _ _ _ _ _ _ us hl => match us, hl with | [_, _], _ => rfl
  have a8 : AtM K C_Closure "__init__" "Closure.__init__" s_Closure___init__ ["self", "number", "wanted", "scope"] := AtM.of f8 fun _ _ _ _ _ _ us hl => match us, hl with | [_, _, _, _], _ => rfl
  have a9 : AtE K C_ScriptError "ScriptError.__init__" s_ScriptError___init__ ["self", "kind", "message"] := AtE.of f9 fun _ _ _ _ _ _ us hl => match us, hl with | [_, _, _], _ => rfl
  have a10 : AtM K C_Table "__init__" "Table.__init__" s_Table___init__ ["self"] := AtM.of f10 fun _ _ _ _ _ _ us hl => match us, hl with | [_], _ => rfl
  have a11 : AtM K C_Store "__init__" "Store.__init__" s_Store___init__ ["self", "lines"] := AtM.of f11 fun _ _ _ _ _ _ us hl => match us, hl with | [_, _], _ => rfl
  have a12 : AtM K C_Store "make" "Store.make" s_Store_make ["self", "thing"] := AtM.of f12 fun _ _ _ _ _ _ us hl => match us, hl with | [_, _], _ => rfl
  have a13 : AtM K C_Store "at" "Store.at" s_Store_at ["self", "ref"] := AtM.of f13 fun _ _ _ _ _ _ us hl => match us, hl with | [_, _], _ => rfl
  have a14 : At K mg "thing_of" "thing_of" s_thing_of ["store", "value"] := At.of X G f14 fun _ _ _ _ _ _ us hl => match us, hl with | [_, _], _ => rfl
  have a15 : At K mg "kind_of" "kind_of" s_kind_of ["store", "value"] := At.of X G f15 fun _ _ _ _ _ _ us hl => match us, hl with | [_, _], _ => rfl
  have a16 : At K mg "check_parts" "check_parts" s_check_parts ["count"] := At.of X G f16 fun _ _ _ _ _ _ us hl => match us, hl with | [_], _ => rfl
  have a17 : At K mg "_law_pick" "_law_pick" s_law_pick ["state", "row"] := At.of X G f17 fun _ _ _ _ _ _ us hl => match us, hl with | [_, _], _ => rfl
  have a18 : At K mg "is_below" "is_below" s_is_below ["store", "kin", "other"] := At.of X G f18 fun _ _ _ _ _ _ us hl => match us, hl with | [_, _, _], _ => rfl
  have a19 : At K mg "make_class" "make_class" s_make_class ["store", "name", "parent"] := At.of X G f19 fun _ _ _ _ _ _ us hl => match us, hl with | [_, _, _], _ => rfl
  have a20 : At K mg "is_integer" "is_integer" s_is_integer ["value"] := At.of X G f20 fun _ _ _ _ _ _ us hl => match us, hl with | [_], _ => rfl
  have a21 : At K mg "fitting_text" "fitting_text" s_fitting_text ["text"] := At.of X G f21 fun _ _ _ _ _ _ us hl => match us, hl with | [_], _ => rfl
  have a22 : At K mg "reckoned" "reckoned" s_reckoned ["store", "operator", "x", "y"] := At.of X G f22 fun _ _ _ _ _ _ us hl => match us, hl with | [_, _, _, _], _ => rfl
  have a23 : At K mg "compared" "compared" s_compared ["store", "operator", "x", "y"] := At.of X G f23 fun _ _ _ _ _ _ us hl => match us, hl with | [_, _, _, _], _ => rfl
  have a24 : At K mg "make_list" "make_list" s_make_list ["store", "values"] := At.of X G f24 fun _ _ _ _ _ _ us hl => match us, hl with | [_, _], _ => rfl
  have a25 : At K mg "is_of" "is_of" s_is_of ["store", "x", "y"] := At.of X G f25 fun _ _ _ _ _ _ us hl => match us, hl with | [_, _, _], _ => rfl
  have a26 : At K mg "unary" "unary" s_unary ["store", "operator", "x"] := At.of X G f26 fun _ _ _ _ _ _ us hl => match us, hl with | [_, _, _], _ => rfl
  have a27 : At K mg "added" "added" s_added ["store", "x", "y"] := At.of X G f27 fun _ _ _ _ _ _ us hl => match us, hl with | [_, _, _], _ => rfl
  have a28 : At K mg "binary" "binary" s_binary ["store", "operator", "x", "y"] := At.of X G f28 fun _ _ _ _ _ _ us hl => match us, hl with | [_, _, _, _], _ => rfl
  have a29 : At K mg "_law_text" "_law_text" s_law_text ["state"] := At.of X G f29 fun _ _ _ _ _ _ us hl => match us, hl with | [_], _ => rfl
  have a30 : At K mg "_law_kind" "_law_kind" s_law_kind ["store", "value"] := At.of X G f30 fun _ _ _ _ _ _ us hl => match us, hl with | [_, _], _ => rfl
  have a31 : At K mg "_law_told" "_law_told" s_law_told ["store", "operator", "x", "y"] := At.of X G f31 fun _ _ _ _ _ _ us hl => match us, hl with | [_, _, _, _], _ => rfl
  have a32 : At K mg "_law_value" "_law_value" s_law_value ["state", "store"] := At.of X G f32 fun _ _ _ _ _ _ us hl => match us, hl with | [_, _], _ => rfl
  have a33 : At K mg "_law_compared" "_law_compared" s_law_compared ["operator", "x", "y"] := At.of X G f33 fun _ _ _ _ _ _ us hl => match us, hl with | [_, _, _], _ => rfl
  have a34 : At K mg "_law_is_integer" "_law_is_integer" s_law_is_integer ["told"] := At.of X G f34 fun _ _ _ _ _ _ us hl => match us, hl with | [_], _ => rfl
  have a35 : At K mg "make_map" "make_map" s_make_map ["store", "pairs"] := At.of X G f35 fun _ _ _ _ _ _ us hl => match us, hl with | [_, _], _ => rfl
  have a36 : At K mg "_law_store" "_law_store" s_law_store ["state"] := At.of X G f36 fun _ _ _ _ _ _ us hl => match us, hl with | [_], _ => rfl
  have a37 : AtM K C_Ref "__eq__" "Ref.__eq__" s_Ref___eq__ ["self", "other"] := AtM.of f37 fun _ _ _ _ _ _ us hl => match us, hl with | [_, _], _ => rfl
  have a38 : AtM K C_Builtin "__eq__" "Builtin.__eq__" s_Builtin___eq__ ["self", "other"] := AtM.of f38 fun _ _ _ _ _ _ us hl => match us, hl with | [_, _], _ => rfl
  have a39 : At K mg "_law_is" "_law_is" s_law_is ["store", "above", "x", "y", "told"] := At.of X G f39 fun _ _ _ _ _ _ us hl => match us, hl with | [_, _, _, _, _], _ => rfl
  have a40 : At K mg "_law_added" "_law_added" s_law_added ["store", "x", "y", "told", "many"] := At.of X G f40 fun _ _ _ _ _ _ us hl => match us, hl with | [_, _, _, _, _], _ => rfl
  have a41 : At K mg "_law_negated" "_law_negated" s_law_negated ["store", "x"] := At.of X G f41 fun _ _ _ _ _ _ us hl => match us, hl with | [_, _], _ => rfl
  obtain ⟨f, oc, od, an, sl, kV, dc, pm, cd, ct, a, l, cc, k⟩ := f42.ex
  have e := hfa.symm.trans (PySem.W.mg_of X G a)
  cases e
  have F1 := fun_mk (st := s_law) l cc k
  have al : At K mg "law" "law" s_law ["script"] := ⟨_, _, F1, F1.binds fun _ _ _ _ _ _ us hl => match us, hl with | [_], _ => rfl, PySem.W.mg_of X G a⟩
  refine ⟨PySem.W.fnOf "law" "law" (defArgs s_law) (defBody s_law) (defScope s_law) .none kV dc pm an cd ct, fun s v => .of_eq rfl, fun base _ _ => ?_⟩
  exact law_fn F1 T TD a0 a1 a2 a3 a4 a5 a6 a7 a8 a9 a10 a11 a12 a13 a14 a15 a16 a17 a18 a19 a20 a21 a22 a23 a24 a25 a26 a27 a28 a29 a30 a31 a32 a33 a34 a35 a36 a37 a38 a39 a40 a41
end My
namespace My
open PySem PySem.Spec PyProof.Rows L2 Fx
set_option maxHeartbeats 0
theorem facts {P : Program} {w : World} {K : PySem.W.Frag} {h : Heap} {mg : Str → Option Value} {f : Addr} (KX : K.In h) (G : h.Ns mainGlobals mg) (hfa : mg ("law" : Str) = some (.ref f)) (c : Hd.Says fas fns dcs w K) :
    ∃ fd : FuncData, (∀ (s : Shared) (v : Value), BindsTo s fd ⟨[v], []⟩ [("script", v)]) ∧ ∀ base : Heap, K.In base → base.Ns mainGlobals mg → FnOk P w K mg base CX0 8 f fd ["script"] (spLaw K) :=
  all_mk KX G hfa
    (Hd.glo_ (c.fact 0 rfl))
    (Hd.glo_ (c.fact 1 rfl))
    (Hd.glo_ (c.fact 2 rfl))
    (Hd.glo_ (c.fact 3 rfl))
    (Hd.glo_ (c.fact 4 rfl))
    (Hd.glo_ (c.fact 5 rfl))
    (Hd.glo_ (c.fact 6 rfl))
    (Hd.glo_ (c.fact 7 rfl))
    (Hd.glo_ (c.fact 8 rfl))
    (Hd.glo_ (c.fact 9 rfl))
    (Hd.cls_ (c.fact 10 rfl))
    (Hd.cls_ (c.fact 11 rfl))
    (Hd.cls_ (c.fact 12 rfl))
    (Hd.cls_ (c.fact 13 rfl))
    (Hd.cls_ (c.fact 14 rfl))
    (Hd.cls_ (c.fact 15 rfl))
    (Hd.cls_ (c.fact 16 rfl))
    (Hd.cls_ (c.fact 17 rfl))
    (Hd.exc_ (c.fact 18 rfl))
    (Hd.exc_ (c.fact 19 rfl))
    (Hd.noat_ (c.fact 20 rfl))
    (Hd.noat_ (c.fact 21 rfl))
    (Hd.sub_ (c.fact 22 rfl))
    (Hd.obj_ (c.fact 23 rfl))
    (Hd.noat_ (c.fact 24 rfl))
    (Hd.noat_ (c.fact 25 rfl))
    (Hd.noat_ (c.fact 26 rfl))
    (Hd.noat_ (c.fact 27 rfl))
    (Hd.noat_ (c.fact 28 rfl))
    (Hd.noat_ (c.fact 29 rfl))
    (Hd.noat_ (c.fact 30 rfl))
    (Hd.noat_ (c.fact 31 rfl))
    (Hd.noat_ (c.fact 32 rfl))
    (Hd.noat_ (c.fact 33 rfl))
    (Hd.noat_ (c.fact 34 rfl))
    (Hd.noat_ (c.fact 35 rfl))
    (Hd.noat_ (c.fact 36 rfl))
    (Hd.noat_ (c.fact 37 rfl))
    (Hd.noat_ (c.fact 38 rfl))
    (Hd.noat_ (c.fact 39 rfl))
    (Hd.kio_ (c.fact 40 rfl))
    (Hd.kio_ (c.fact 41 rfl))
    (Hd.kio_ (c.fact 42 rfl))
    (Hd.kio_ (c.fact 43 rfl))
    (Hd.kio_ (c.fact 44 rfl))
    (Hd.kio_ (c.fact 45 rfl))
    (Hd.kio_ (c.fact 46 rfl))
    (Hd.kio_ (c.fact 47 rfl))
    (Hd.kio_ (c.fact 48 rfl))
    (Hd.kio_ (c.fact 49 rfl))
    (Hd.kio_ (c.fact 50 rfl))
    (Hd.kio_ (c.fact 51 rfl))
    (Hd.kio_ (c.fact 52 rfl))
    (Hd.kio_ (c.fact 53 rfl))
    (Hd.kio_ (c.fact 54 rfl))
    (Hd.kio_ (c.fact 55 rfl))
    (Hd.kio_ (c.fact 56 rfl))
    (Hd.kio_ (c.fact 57 rfl))
    (Hd.kio_ (c.fact 58 rfl))
    (Hd.kio_ (c.fact 59 rfl))
    (Hd.kio_ (c.fact 60 rfl))
    (Hd.kio_ (c.fact 61 rfl))
    (Hd.kio_ (c.fact 62 rfl))
    (Hd.kio_ (c.fact 63 rfl))
    (Hd.kio_ (c.fact 64 rfl))
    (Hd.kio_ (c.fact 65 rfl))
    (Hd.kio_ (c.fact 66 rfl))
    (Hd.kio_ (c.fact 67 rfl))
    (Hd.kio_ (c.fact 68 rfl))
    (Hd.kio_ (c.fact 69 rfl))
    (Hd.kio_ (c.fact 70 rfl))
    (Hd.kio_ (c.fact 71 rfl))
    (Hd.kio_ (c.fact 72 rfl))
    (Hd.kio_ (c.fact 73 rfl))
    (Hd.kio_ (c.fact 74 rfl))
    (Hd.kio_ (c.fact 75 rfl))
    (Hd.kio_ (c.fact 76 rfl))
    (Hd.kio_ (c.fact 77 rfl))
    (Hd.kio_ (c.fact 78 rfl))
    (Hd.kio_ (c.fact 79 rfl))
    (Hd.kio_ (c.fact 80 rfl))
    (Hd.kio_ (c.fact 81 rfl))
    (Hd.kio_ (c.fact 82 rfl))
    (Hd.kio_ (c.fact 83 rfl))
    (Hd.kio_ (c.fact 84 rfl))
    (Hd.kio_ (c.fact 85 rfl))
    (Hd.kio_ (c.fact 86 rfl))
    (Hd.kio_ (c.fact 87 rfl))
    (Hd.kib_ (c.fact 88 rfl))
    (Hd.kib_ (c.fact 89 rfl))
    (Hd.kib_ (c.fact 90 rfl))
    (Hd.kib_ (c.fact 91 rfl))
    (Hd.kib_ (c.fact 92 rfl))
    (Hd.kib_ (c.fact 93 rfl))
    (Hd.kib_ (c.fact 94 rfl))
    (Hd.kib_ (c.fact 95 rfl))
    (Hd.kib_ (c.fact 96 rfl))
    (Hd.kib_ (c.fact 97 rfl))
    (Hd.kib_ (c.fact 98 rfl))
    (Hd.kib_ (c.fact 99 rfl))
    (Hd.kib_ (c.fact 100 rfl))
    (Hd.kib_ (c.fact 101 rfl))
    (Hd.kib_ (c.fact 102 rfl))
    (Hd.kib_ (c.fact 103 rfl))
    (Hd.kib_ (c.fact 104 rfl))
    (Hd.kib_ (c.fact 105 rfl))
    (Hd.kib_ (c.fact 106 rfl))
    (Hd.kib_ (c.fact 107 rfl))
    (Hd.kib_ (c.fact 108 rfl))
    (Hd.kib_ (c.fact 109 rfl))
    (Hd.kib_ (c.fact 110 rfl))
    (Hd.kib_ (c.fact 111 rfl))
    (Hd.kib_ (c.fact 112 rfl))
    (Hd.kib_ (c.fact 113 rfl))
    (Hd.kib_ (c.fact 114 rfl))
    (Hd.kib_ (c.fact 115 rfl))
    (Hd.kib_ (c.fact 116 rfl))
    (Hd.kib_ (c.fact 117 rfl))
    (Hd.kib_ (c.fact 118 rfl))
    (Hd.kib_ (c.fact 119 rfl))
    (Hd.kib_ (c.fact 120 rfl))
    (Hd.kib_ (c.fact 121 rfl))
    (Hd.kib_ (c.fact 122 rfl))
    (Hd.kib_ (c.fact 123 rfl))
    (Hd.kib_ (c.fact 124 rfl))
    (Hd.kib_ (c.fact 125 rfl))
    (Hd.kib_ (c.fact 126 rfl))
    (Hd.kib_ (c.fact 127 rfl))
    (Hd.kib_ (c.fact 128 rfl))
    (Hd.kib_ (c.fact 129 rfl))
    (Hd.kob_ (c.fact 130 rfl))
    (Hd.kob_ (c.fact 131 rfl))
    (Hd.kob_ (c.fact 132 rfl))
    (Hd.kob_ (c.fact 133 rfl))
    (Hd.kob_ (c.fact 134 rfl))
    (Hd.kob_ (c.fact 135 rfl))
    (Hd.kob_ (c.fact 136 rfl))
    (Hd.kob_ (c.fact 137 rfl))
    (Hd.kob_ (c.fact 138 rfl))
    (Hd.kob_ (c.fact 139 rfl))
    (Hd.kob_ (c.fact 140 rfl))
    (Hd.kob_ (c.fact 141 rfl))
    (Hd.kob_ (c.fact 142 rfl))
    (Hd.kob_ (c.fact 143 rfl))
    (Hd.kob_ (c.fact 144 rfl))
    (Hd.kob_ (c.fact 145 rfl))
    (Hd.kob_ (c.fact 146 rfl))
    (Hd.kob_ (c.fact 147 rfl))
    (Hd.kob_ (c.fact 148 rfl))
    (Hd.kob_ (c.fact 149 rfl))
    (Hd.kob_ (c.fact 150 rfl))
    (Hd.kob_ (c.fact 151 rfl))
    (Hd.kob_ (c.fact 152 rfl))
    (Hd.kob_ (c.fact 153 rfl))
    (Hd.kob_ (c.fact 154 rfl))
    (Hd.kob_ (c.fact 155 rfl))
    (Hd.kob_ (c.fact 156 rfl))
    (Hd.kob_ (c.fact 157 rfl))
    (Hd.kob_ (c.fact 158 rfl))
    (Hd.kob_ (c.fact 159 rfl))
    (Hd.kob_ (c.fact 160 rfl))
    (Hd.kob_ (c.fact 161 rfl))
    (Hd.kob_ (c.fact 162 rfl))
    (Hd.kob_ (c.fact 163 rfl))
    (Hd.kob_ (c.fact 164 rfl))
    (Hd.kob_ (c.fact 165 rfl))
    (Hd.kob_ (c.fact 166 rfl))
    (Hd.kob_ (c.fact 167 rfl))
    (Hd.kob_ (c.fact 168 rfl))
    (Hd.kob_ (c.fact 169 rfl))
    (Hd.kob_ (c.fact 170 rfl))
    (Hd.kob_ (c.fact 171 rfl))
    (Hd.kob_ (c.fact 172 rfl))
    (Hd.kob_ (c.fact 173 rfl))
    (Hd.kob_ (c.fact 174 rfl))
    (Hd.kob_ (c.fact 175 rfl))
    (Hd.kob_ (c.fact 176 rfl))
    (Hd.kob_ (c.fact 177 rfl))
    (Hd.ne_ (c.fact 178 rfl))
    (Hd.ne_ (c.fact 179 rfl))
    (Hd.ne_ (c.fact 180 rfl))
    (Hd.ne_ (c.fact 181 rfl))
    (Hd.ne_ (c.fact 182 rfl))
    (Hd.ne_ (c.fact 183 rfl))
    (Hd.ne_ (c.fact 184 rfl))
    (Hd.ne_ (c.fact 185 rfl))
    (Hd.ne_ (c.fact 186 rfl))
    (Hd.ne_ (c.fact 187 rfl))
    (Hd.ne_ (c.fact 188 rfl))
    (Hd.ne_ (c.fact 189 rfl))
    (Hd.ne_ (c.fact 190 rfl))
    (Hd.ne_ (c.fact 191 rfl))
    (Hd.ne_ (c.fact 192 rfl))
    (Hd.ne_ (c.fact 193 rfl))
    (Hd.ne_ (c.fact 194 rfl))
    (Hd.ne_ (c.fact 195 rfl))
    (Hd.ne_ (c.fact 196 rfl))
    (Hd.ne_ (c.fact 197 rfl))
    (Hd.ne_ (c.fact 198 rfl))
    (Hd.ne_ (c.fact 199 rfl))
    (Hd.ne_ (c.fact 200 rfl))
    (Hd.ne_ (c.fact 201 rfl))
    (Hd.ne_ (c.fact 202 rfl))
    (Hd.ne_ (c.fact 203 rfl))
    (Hd.ne_ (c.fact 204 rfl))
    (Hd.ne_ (c.fact 205 rfl))
    (Hd.dict_ c 0 206 207 rfl rfl rfl)
    (Hd.fn_ c 0 208 209 rfl rfl rfl)
    (Hd.fn_ c 1 210 211 rfl rfl rfl)
    (Hd.fn_ c 2 212 213 rfl rfl rfl)
    (Hd.meth_ c 3 214 rfl rfl)
    (Hd.meth_ c 4 215 rfl rfl)
    (Hd.meth_ c 5 216 rfl rfl)
    (Hd.meth_ c 6 217 rfl rfl)
    (Hd.meth_ c 7 218 rfl rfl)
    (Hd.meth_ c 8 219 rfl rfl)
    (Hd.init_ c 9 220 rfl rfl)
    (Hd.meth_ c 10 221 rfl rfl)
    (Hd.meth_ c 11 222 rfl rfl)
    (Hd.meth_ c 12 223 rfl rfl)
    (Hd.meth_ c 13 224 rfl rfl)
    (Hd.fn_ c 14 225 226 rfl rfl rfl)
    (Hd.fn_ c 15 227 228 rfl rfl rfl)
    (Hd.fn_ c 16 229 230 rfl rfl rfl)
    (Hd.fn_ c 17 231 232 rfl rfl rfl)
    (Hd.fn_ c 18 233 234 rfl rfl rfl)
    (Hd.fn_ c 19 235 236 rfl rfl rfl)
    (Hd.fn_ c 20 237 238 rfl rfl rfl)
    (Hd.fn_ c 21 239 240 rfl rfl rfl)
    (Hd.fn_ c 22 241 242 rfl rfl rfl)
    (Hd.fn_ c 23 243 244 rfl rfl rfl)
    (Hd.fn_ c 24 245 246 rfl rfl rfl)
    (Hd.fn_ c 25 247 248 rfl rfl rfl)
    (Hd.fn_ c 26 249 250 rfl rfl rfl)
    (Hd.fn_ c 27 251 252 rfl rfl rfl)
    (Hd.fn_ c 28 253 254 rfl rfl rfl)
    (Hd.fn_ c 29 255 256 rfl rfl rfl)
    (Hd.fn_ c 30 257 258 rfl rfl rfl)
    (Hd.fn_ c 31 259 260 rfl rfl rfl)
    (Hd.fn_ c 32 261 262 rfl rfl rfl)
    (Hd.fn_ c 33 263 264 rfl rfl rfl)
    (Hd.fn_ c 34 265 266 rfl rfl rfl)
    (Hd.fn_ c 35 267 268 rfl rfl rfl)
    (Hd.fn_ c 36 269 270 rfl rfl rfl)
    (Hd.meth_ c 37 271 rfl rfl)
    (Hd.meth_ c 38 272 rfl rfl)
    (Hd.fn_ c 39 273 274 rfl rfl rfl)
    (Hd.fn_ c 40 275 276 rfl rfl rfl)
    (Hd.fn_ c 41 277 278 rfl rfl rfl)
    (Hd.fn_ c 42 279 280 rfl rfl rfl)
    (Hd.free_ (c.fact 281 rfl))
    (Hd.free_ (c.fact 282 rfl))
    (Hd.free_ (c.fact 283 rfl))
    (Hd.free_ (c.fact 284 rfl))
    (Hd.free_ (c.fact 285 rfl))
    (Hd.free_ (c.fact 286 rfl))
    (Hd.free_ (c.fact 287 rfl))
    (Hd.free_ (c.fact 288 rfl))
    (Hd.free_ (c.fact 289 rfl))
    (Hd.free_ (c.fact 290 rfl))
    (Hd.free_ (c.fact 291 rfl))
    (Hd.free_ (c.fact 292 rfl))
    (Hd.free_ (c.fact 293 rfl))
    (Hd.free_ (c.fact 294 rfl))
    (Hd.str_ (c.fact 295 rfl))
    (Hd.int_ (c.fact 296 rfl))
    (Hd.int_ (c.fact 297 rfl))
end My
open PySem PySem.W PySem.Calls PyProof.Rows
set_option maxRecDepth 100000 in
set_option maxHeartbeats 0 in
theorem PySem.Challenge.cw_livequill_k18_operators_of_other_kinds_holds : PySem.Challenge.rw_livequill_k18_operators_of_other_kinds.Holds := by
  w_on; o_law
  refine HandSHeadRun.head_any (r := OpenLaw.row PySem.Challenge.rw_livequill_k18_operators_of_other_kinds) (q := view (OpenLaw.row PySem.Challenge.rw_livequill_k18_operators_of_other_kinds).prog [60]) (H := My.hk) (ob := My.ob) (M := 300000) (loose := My.nms) (d := HandSHeadRun.topDef (OpenLaw.row PySem.Challenge.rw_livequill_k18_operators_of_other_kinds).prog 60) (kwd := []) My.ob_eq
    (by kernel_rfl) (fun s => by kernel_rfl) My.run (by kernel_rfl) (by kernel_rfl) (by kernel_rfl) (by rfl) (by first | assumption | decide +kernel) (by decide +kernel) ⟨rfl, rfl, rfl, rfl, rfl, by decide +kernel⟩ ?hw ?hc
  case hw => w_witness2
  case hc =>
    refine L2.walk_ofE (l := PySem.Challenge.rw_livequill_k18_operators_of_other_kinds) (n := 63) (k := 8) (x := "script") (CX := L2.CX0) rfl (by decide) (by kernel_rfl) ⟨rfl, by decide, by decide⟩ ?F (fun _ _ _ _ z => z)
    intro w mg fa h Y G hmg0
    obtain ⟨K, KX, c⟩ := Y
    have hmg : mg ("law" : PySem.Str) = some (.ref fa) := by
      have e : (HandSHeadRun.topDef (OpenLaw.row PySem.Challenge.rw_livequill_k18_operators_of_other_kinds).prog 60).name = ("law" : PySem.Str) := by kernel_rfl
      rw [← e]
      exact hmg0
    obtain ⟨fd, hb, hF⟩ := My.facts (P := (PySem.Challenge.rw_livequill_k18_operators_of_other_kinds).prog) (w := w) KX G hmg c
    exact ⟨K, fd, My.spLaw K, KX, hb, fun H a ns hl hO hS => ⟨a, ns, rfl, hS, hl, fun _ => rfl⟩, hF⟩
