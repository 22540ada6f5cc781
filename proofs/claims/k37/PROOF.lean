import PyProof.Rows.All
import Wide.All
import OpenK.AllK
import Wide.FinOn
import HandS.ForMost
import HandS.StrMore
import HandS.Wide
import HandS.IsInst
import HandS.Flow
import HandS.Codes
import HandS.Deep
import HandS.EndBits
import HandS.Walk
import KE.DataEq
import HandS.OwnEq
import HandS.Comp
import HandS.Property
import KE.KIsAll
import KE.KExcIs
import HandS.Exc
import HandS.ExcOwn
import HandS.ExcInit
import HandS.ExcField
import HandS.ExcIs
import HandS.TryOnly
import HandS.TryMany
import HandS.CallSlots
import HandS.WordsExc
import HandS.Small
import HandS.FStr
import HandS.More
import KE.KeyNested
import KE.KDictKeyed
import HandS.TupLen
import HandS.Iter
import HandS.DictComp
import HandS.List
import KE.GoesZip
import KE.GoesMore
import HandS.Zip
import HandS.Style
import HandS.Replace
import HandS.ReplaceLit
import HandS.ReplaceDef
import HandS.ReplaceList
import HandS.Defaults
import KE.KStateDown
import HandS.Head0
import HandS.Head1
import HandS.Head2
import HandS.HeadEnd
import HandS.HeadHook1
import HandS.HeadHook2
import PySem.Challenge.RW_livequill_k37_flaws_of_straight_code
set_option Elab.async false
set_option linter.all false
set_option maxRecDepth 100000
/-! Fx: readings that compute: every operation is one function of its values, whatever their kinds. -/
namespace Fx
open PySem PySem.Spec PyProof.Rows L2

/-! ### weakening -/
section
variable {X : Cx}
theorem pe_wk {e : Expr} {t t' : TE} (h : PE X e t) (w : ∀ σ H Q, t' σ H Q → t σ H Q) : PE X e t' := ⟨fun pins s σ H Q I q => h.run pins s σ H Q I (w σ H Q q)⟩
theorem pt_wk {e : Expr} {t t' : TT} (h : PT X e t) (w : ∀ σ H Q, t' σ H Q → t σ H Q) : PT X e t' := ⟨fun pins s σ H Q I q => h.run pins s σ H Q I (w σ H Q q)⟩
theorem ps_wk {e : Stmt} {t t' : TS} (h : PS X e t) (w : ∀ D σ H, t' D σ H → t D σ H) : PS X e t' := ⟨fun pins s σ H D I q => h.run pins s σ H D I (w D σ H q)⟩
theorem op_wk {f : Value → Value → Sem Value} {r r' : R2} (h : OpR X f r) (w : ∀ x y H Q, r' x y H Q → r x y H Q) : OpR X f r' := fun pins s σ H x y v u Q I rx ry q => h pins s σ H x y v u Q I rx ry (w x y H Q q)
theorem call_wk {f : Value} {r r' : List V → Hp → VK → Prop} (h : CallR X f r) (w : ∀ xs H Q, r' xs H Q → r xs H Q) : CallR X f r' := fun pins s σ H xs us Q I rx q => h pins s σ H xs us Q I rx (w xs H Q q)

/-! ### names -/
def fVar (i : Nat) : TE := fun σ H Q => match σ[i]? with
  | some (some v) => Q v H
  | _ => False
theorem fe_var (i : Nat) {x : Str} {pos : Pos} (hN : X.N[i]? = some x := by rfl) (hv : Vis X.env.scope x := by first | exact Or.inl rfl | exact Or.inr (Or.inl rfl) | exact Or.inr (Or.inr rfl)) (hd : (x == ("__debug__" : Str)) = false := by decide)
    (hcd : (x == ("__classdict__" : Str)) = false := by decide) : PE X (.Name x pos) (fVar i) := pe_wk (pe_var hN hv hd hcd) fun σ H Q q => by
  unfold fVar at q
  split at q
  · exact ⟨_, by assumption, q⟩
  · exact q.elim

theorem same_new {H : Hp} {p : Addr} {o : HO} (h : H p = none) : Same H (upd H p o) := fun b x e => by
  rw [upd_ne (ne_of_none e h)]
  exact e
/-- a new tuple, a new list: behind it a heap that has it and keeps the rest -/
def fTup (t : TA) : TE := fun σ H Q => t σ H fun xs H1 => xs.length ≤ 100000 ∧ ∀ p H2, H1 p = none → Same H1 H2 → H2 p = some (.tup xs) → Q (.ref p) H2
def fLst (t : TA) : TE := fun σ H Q => t σ H fun xs H1 => xs.length ≤ 100000 ∧ ∀ p H2, H1 p = none → Same H1 H2 → H2 p = some (.lst xs) → Q (.ref p) H2
theorem line5 {n : Nat} (h : n ≤ 100000) : n ≤ sizeLine := Nat.le_trans h (by decide)
section
variable {es : List Expr} {t : TA} {pos : Pos}
theorem fe_tup {x1} (h : PA X es t) : PE X (.Tuple es x1 pos) (fTup t) := by
  refine ⟨fun pins s σ H Q I hq => ?_⟩
  refine wpAny_Tuple_spliced (thn (h.run pos pins s σ H _ I hq) fun us s1 ⟨xs, H1, I1, r, z, q⟩ => ⟨by rw [← r.length]; exact line5 z, ?_⟩)
  have hf : H1 s1.heap.objs.size = none := I1.hok.fresh (Nat.le_refl _)
  refine ⟨.ref s1.heap.objs.size, upd H1 s1.heap.objs.size (.tup xs), I1.laid (t' := s1.toks) (fun b u e => Heap.get?_push_of_some _ e) (Nat.le_refl _) ?_, rfl, q _ _ hf (same_new hf) upd_same⟩
  exact ⟨line5 z, us, r, ⟨_, Heap.get?_push_size _ rfl, rfl, _, rfl⟩⟩
theorem fe_lst (h : PA X es t) : PE X (.List es pos) (fLst t) := by
  refine ⟨fun pins s σ H Q I hq => ?_⟩
  refine wpAny_List_spliced (thn (h.run pos pins s σ H _ I hq) fun us s1 ⟨xs, H1, I1, r, z, q⟩ => ⟨by rw [← r.length]; exact line5 z, ?_⟩)
  have hf : H1 s1.heap.objs.size = none := I1.hok.fresh (Nat.le_refl _)
  refine ⟨.ref s1.heap.objs.size, upd H1 s1.heap.objs.size (.lst xs), I1.laid (t' := s1.toks) (fun b u e => Heap.get?_push_of_some _ e) (Nat.le_refl _) ?_, rfl, q _ _ hf (same_new hf) upd_same⟩
  exact ⟨line5 z, us, 0, r, Heap.get?_push_size _ rfl⟩
end
/-! ### a list or a tuple that is read -/
def Rl (K : PySem.W.Frag) (H : Hp) (a : Addr) (xs : List V) : Prop := SqL K H a xs ∨ SqT K H a xs
theorem rl_l {K : PySem.W.Frag} {H : Hp} {a : Addr} {xs : List V} (h : H a = some (.lst xs)) : Rl K H a xs := .inl (SqL.of h)
theorem rl_t {K : PySem.W.Frag} {H : Hp} {a : Addr} {xs : List V} (h : H a = some (.tup xs)) : Rl K H a xs := .inr (SqT.of h)

/-! ### operators by values -/
def fAdd (K : PySem.W.Frag) : R2 := fun x y H Q => match x, y with
  | .int i, .int j => Q (.int (i + j)) H
  | .str a, .str b => a.length + b.length ≤ sizeLine ∧ Q (.str (a ++ b)) H
  | .ref l, .ref b => match H l, H b with
    | some (.lst xs), some (.lst zs) => xs.length + zs.length ≤ sizeLine ∧ ∀ p H1, H p = none → Same H H1 → H1 p = some (.lst (xs ++ zs)) → Q (.ref p) H1
    | _, _ => False
  | _, _ => False
theorem op_fAdd : OpR X (binaryOp .Add) (fAdd X.K) := by
  intro pins s σ H x y v u Q I rx ry h
  cases x <;> cases y <;> first
    | exact False.elim h
    | exact op_add pins s σ H _ _ v u Q I rx ry ⟨_, _, rfl, rfl, h⟩
    | exact op_add_str pins s σ H _ _ v u Q I rx ry ⟨_, _, rfl, rfl, h⟩
    | (dsimp only [fAdd] at h
       split at h
       · exact op_cat pins s σ H _ _ v u Q I rx ry ⟨_, _, _, _, rfl, rfl, by assumption, by assumption, h.1, fun p np => h.2 p _ np (same_new np) upd_same⟩
       · exact h.elim)
def fSub : R2 := fun x y H Q => match x, y with
  | .int i, .int j => Q (.int (i - j)) H
  | _, _ => False
theorem op_fSub : OpR X (binaryOp .Sub) fSub := by
  intro pins s σ H x y v u Q I rx ry h
  cases x <;> cases y <;> first
    | exact False.elim h
    | exact op_sub pins s σ H _ _ v u Q I rx ry ⟨_, _, rfl, rfl, h⟩
def fMul : R2 := fun x y H Q => match x, y with
  | .int i, .int j => IntMulOk i j ∧ Q (.int (i * j)) H
  | .str a, .int j => MulOk a j ∧ Q (.str (Txt.mul a j)) H
  | .ref l, .int k => rRep (.ref l) (.int k) H Q
  | _, _ => False
theorem op_fMul : OpR X (binaryOp .Mult) fMul := by
  intro pins s σ H x y v u Q I rx ry h
  match x, y, rx, ry, h with
  | .int i, .int j, ⟨t, e⟩, ⟨t', e'⟩, ⟨hm, q⟩ =>
    subst e e'
    exact mul_int ⟨.int _, H, I.tok _, ⟨_, rfl⟩, q⟩ hm
  | .str a, .int j, ⟨t, e⟩, ⟨t', e'⟩, ⟨hm, q⟩ =>
    subst e e'
    exact SB.mul hm fun t' k => ⟨.str _, H, I.tok _, ⟨_, rfl⟩, q⟩
  | .ref l, .int k, rx, ry, h => exact op_rep pins s σ H _ _ v u Q I rx ry h
def fDiv : R2 := fun x y H Q => match x, y with
  | .int i, .int j => CDivW i j ∧ Q (.int (i / j)) H
  | _, _ => False
theorem op_fDiv : OpR X (binaryOp .FloorDiv) fDiv := by
  intro pins s σ H x y v u Q I rx ry h
  cases x <;> cases y <;> first
    | exact False.elim h
    | exact op_fdivW pins s σ H _ _ v u Q I rx ry ⟨_, _, rfl, rfl, h⟩
def fMod : R2 := fun x y H Q => match x, y with
  | .int i, .int j => 0 < j ∧ Q (.int (i % j)) H
  | _, _ => False
theorem op_fMod : OpR X (binaryOp .Mod) fMod := by
  intro pins s σ H x y v u Q I rx ry h
  cases x <;> cases y <;> first
    | exact False.elim h
    | exact op_mod pins s σ H _ _ v u Q I rx ry ⟨_, _, rfl, rfl, h⟩
def fNeg : V → Hp → VK → Prop := fun x H Q => match x with
  | .int i => Q (.int (-i)) H
  | _ => False
theorem un_fNeg : UnR X (unaryOp .USub) fNeg := by
  intro pins s σ H x v Q I rx h
  cases x <;> first
    | exact False.elim h
    | exact un_neg pins s σ H _ v Q I rx ⟨_, rfl, h⟩
/-- data that == may look at -/
def okd (d : PyData) : Bool := d.plain && decide (d.depth ≤ 64)
/-- == of scalars as such, of lists and tuples as data -/
def fEq (K : PySem.W.Frag) (neg : Bool) : R2 := fun x y H Q =>
  if scal x y = true then Q (.bl (if neg = true then !decide (x = y) else decide (x = y))) H
  else ∃ d e, Dp K H x d ∧ Dp K H y e ∧ okd d = true ∧ okd e = true ∧ Q (.bl (if neg = true then !PyData.eqv d e else PyData.eqv d e)) H
theorem op_fEq (hu : X.A.units + 64 < cLine) : OpR X (compareOp .Eq) (fEq X.K false) := by
  intro pins s σ H x y v u Q I rx ry h
  unfold fEq at h
  split at h
  · exact op_eq pins s σ H x y v u Q I rx ry ⟨by assumption, h⟩
  · obtain ⟨d, e, hd, he, sd, se, q⟩ := h
    obtain ⟨as, r1⟩ := Dp.reads I d x v hd rx
    obtain ⟨bs, r2⟩ := Dp.reads I e y u he ry
    have sd := Bool.and_eq_true_iff.mp sd
    have se := Bool.and_eq_true_iff.mp se
    have d1 := of_decide_eq_true sd.2
    exact SeqAt.eq_plain r1 r2 sd.1 se.1 (by omega) ⟨.bl _, H, I, rfl, q⟩
theorem op_fNe (hu : X.A.units + 64 < cLine) : OpR X (compareOp .NotEq) (fEq X.K true) := by
  intro pins s σ H x y v u Q I rx ry h
  unfold fEq at h
  split at h
  · exact op_ne pins s σ H x y v u Q I rx ry ⟨by assumption, h⟩
  · obtain ⟨d, e, hd, he, sd, se, q⟩ := h
    obtain ⟨as, r1⟩ := Dp.reads I d x v hd rx
    obtain ⟨bs, r2⟩ := Dp.reads I e y u he ry
    have sd := Bool.and_eq_true_iff.mp sd
    have se := Bool.and_eq_true_iff.mp se
    have d1 := of_decide_eq_true sd.2
    exact SeqAt.ne_plain r1 r2 sd.1 se.1 (by omega) ⟨.bl _, H, I, rfl, q⟩
def fLt : R2 := fun x y H Q => match x, y with
  | .int i, .int j => Q (.bl (decide (i < j))) H
  | .str i, .str j => Q (.bl (decide (i.cps.toList < j.cps.toList))) H
  | _, _ => False
theorem op_fLt : OpR X (compareOp .Lt) fLt := by
  intro pins s σ H x y v u Q I rx ry h
  cases x <;> cases y <;> first
    | exact False.elim h
    | exact op_lt pins s σ H _ _ v u Q I rx ry ⟨_, _, rfl, rfl, h⟩
    | exact op_lt_str pins s σ H _ _ v u Q I rx ry ⟨_, _, rfl, rfl, h⟩
def fLe : R2 := fun x y H Q => match x, y with
  | .int i, .int j => Q (.bl (decide (i ≤ j))) H
  | .str i, .str j => Q (.bl (!decide (j.cps.toList < i.cps.toList))) H
  | _, _ => False
theorem op_fLe : OpR X (compareOp .LtE) fLe := by
  intro pins s σ H x y v u Q I rx ry h
  cases x <;> cases y <;> first
    | exact False.elim h
    | exact op_le pins s σ H _ _ v u Q I rx ry ⟨_, _, rfl, rfl, h⟩
    | exact op_le_str pins s σ H _ _ v u Q I rx ry ⟨_, _, rfl, rfl, h⟩
def fGt : R2 := fun x y H Q => match x, y with
  | .int i, .int j => Q (.bl (decide (j < i))) H
  | .str i, .str j => Q (.bl (decide (j.cps.toList < i.cps.toList))) H
  | _, _ => False
theorem op_fGt : OpR X (compareOp .Gt) fGt := by
  intro pins s σ H x y v u Q I rx ry h
  cases x <;> cases y <;> first
    | exact False.elim h
    | exact op_gt pins s σ H _ _ v u Q I rx ry ⟨_, _, rfl, rfl, h⟩
    | exact op_gt_str pins s σ H _ _ v u Q I rx ry ⟨_, _, rfl, rfl, h⟩
def fGe : R2 := fun x y H Q => match x, y with
  | .int i, .int j => Q (.bl (decide (j ≤ i))) H
  | .str i, .str j => Q (.bl (!decide (i.cps.toList < j.cps.toList))) H
  | _, _ => False
theorem op_fGe : OpR X (compareOp .GtE) fGe := by
  intro pins s σ H x y v u Q I rx ry h
  cases x <;> cases y <;> first
    | exact False.elim h
    | exact op_ge pins s σ H _ _ v u Q I rx ry ⟨_, _, rfl, rfl, h⟩
    | exact op_ge_str pins s σ H _ _ v u Q I rx ry ⟨_, _, rfl, rfl, h⟩
/-- x in y: one sign in a text; a text in a text; a flat value in a list or tuple of flat values -/
def fIn (K : PySem.W.Frag) (neg : Bool) : R2 := fun x y H Q => match x, y with
  | .str a, .str b => match a.cps.toList with
    | [c] => Q (.bl (if neg = true then !decide (c ∈ b.cps.toList) else decide (c ∈ b.cps.toList))) H
    | _ => Q (.bl (if neg = true then !(!(Builtin.Str.occurrences b a 0 b.length 1).isEmpty) else !(Builtin.Str.occurrences b a 0 b.length 1).isEmpty)) H
  | x, .ref p => ∃ xs, Rl K H p xs ∧ flatV x = true ∧ xs.all flatV = true ∧ Q (.bl (if neg = true then !inV x xs else inV x xs)) H
  | _, _ => False
theorem str_one {a : Str} {c : Nat} (h : a.cps.toList = [c]) : a = ⟨#[c]⟩ := by
  obtain ⟨⟨l⟩⟩ := a
  have h' : l = [c] := h
  subst h'
  rfl
theorem op_fIn : OpR X (compareOp .In) (fIn X.K false) := by
  intro pins s σ H x y v u Q I rx ry h
  cases y with
  | str b =>
    cases x with
    | str a =>
      dsimp only [fIn] at h
      split at h
      · rename_i c e
        cases str_one e
        exact op_in_sign pins s σ H _ _ v u Q I rx ry ⟨_, _, rfl, rfl, h⟩
      · exact op_in_str pins s σ H _ _ v u Q I rx ry ⟨_, _, rfl, rfl, h⟩
    | _ => exact False.elim h
  | ref p =>
    have h' : ∃ xs, Rl X.K H p xs ∧ flatV x = true ∧ xs.all flatV = true ∧ Q (.bl (if false = true then !inV x xs else inV x xs)) H := by
      cases x <;> exact h
    obtain ⟨xs, h1, h2, h3, h4⟩ := h'
    exact op_in_seq pins s σ H _ _ v u Q I rx ry ⟨p, xs, rfl, h1, h2, h3, h4⟩
  | _ => cases x <;> exact False.elim h
theorem op_fNotIn : OpR X (compareOp .NotIn) (fIn X.K true) := by
  intro pins s σ H x y v u Q I rx ry h
  cases y with
  | str b =>
    cases x with
    | str a =>
      dsimp only [fIn] at h
      split at h
      · rename_i c e
        cases str_one e
        exact op_notIn_sign pins s σ H _ _ v u Q I rx ry ⟨_, _, rfl, rfl, h⟩
      · exact op_notin_str pins s σ H _ _ v u Q I rx ry ⟨_, _, rfl, rfl, h⟩
    | _ => exact False.elim h
  | ref p =>
    have h' : ∃ xs, Rl X.K H p xs ∧ flatV x = true ∧ xs.all flatV = true ∧ Q (.bl (if true = true then !inV x xs else inV x xs)) H := by
      cases x <;> exact h
    obtain ⟨xs, h1, h2, h3, h4⟩ := h'
    exact op_notIn_seq pins s σ H _ _ v u Q I rx ry ⟨p, xs, rfl, h1, h2, h3, h4⟩
  | _ => cases x <;> exact False.elim h
/-- is, with None on the right -/
def fIsN : R2 := fun x y H Q => y = .non ∧ Q (.bl (decide (x = .non))) H
def fNotN : R2 := fun x y H Q => y = .non ∧ Q (.bl (!decide (x = .non))) H
theorem op_fIsN : OpR X (compareOp .Is) fIsN := op_isN
theorem op_fNotN : OpR X (compareOp .IsNot) fNotN := op_notN
/-- x[i] -/
def fIx (K : PySem.W.Frag) : R2 := fun x y H Q => match x, y with
  | .str z, .int i => z.length ≤ sizeLine ∧ ∃ c, atI z.cps.toList i = some c ∧ Q (.str ⟨#[c]⟩) H
  | .ref p, .int i => ∃ xs, Rl K H p xs ∧ ∃ v, atI xs i = some v ∧ Q v H
  | _, _ => False
theorem ix_fx : IxR X (fIx X.K) := by
  intro e1 e2 pins s σ H x y v u Q I rx ry h hs
  cases x <;> cases y <;> first
    | exact False.elim h
    | (obtain ⟨h1, c, h2, h3⟩ := h
       exact ix_str e1 e2 pins s σ H _ _ v u Q I rx ry ⟨_, _, c, rfl, rfl, h1, h2, h3⟩ hs)
    | (obtain ⟨xs, h1, w, h2, h3⟩ := h
       rcases h1 with h1 | h1
       · exact ix_list e1 e2 pins s σ H _ _ v u Q I rx ry ⟨_, xs, _, w, rfl, rfl, h1, h2, h3⟩ hs
       · exact ix_tup e1 e2 pins s σ H _ _ v u Q I rx ry ⟨_, xs, _, w, rfl, rfl, h1, h2, h3⟩ hs)
/-- x[lo:hi] of a text, of a list -/
def fSl (K : PySem.W.Frag) : V → Option Int → Option Int → Hp → VK → Prop := fun x lo hi H Q => match x with
  | .str z => z.length ≤ sizeLine ∧ Q (.str (cutS z lo hi)) H
  | .ref a => ∃ xs, SqL K H a xs ∧ ∀ p H1, H p = none → Same H H1 → H1 p = some (.lst (cutV xs lo hi)) → Q (.ref p) H1
  | _ => False
theorem sl_fx : SlR X (fSl X.K) := by
  intro pins s σ H x v vl vu lo hi sl Q I rx hs pl pu h
  cases x <;> first
    | exact False.elim h
    | exact sl_str pins s σ H _ v vl vu lo hi sl Q I rx hs pl pu ⟨_, rfl, h⟩
    | (obtain ⟨xs, h1, h2⟩ := h
       exact sl_list pins s σ H _ v vl vu lo hi sl Q I rx hs pl pu ⟨_, xs, rfl, h1, fun p np => h2 p _ np (same_new np) upd_same⟩)
/-- o[i] = v of a list -/
def fSet : TSet := fun o i v H Q => match o, i with
  | .ref p, .int k => match H p with
    | some (.lst xs) => ∃ j, ixN xs.length k = some j ∧ Q (upd H p (.lst (xs.set j v)))
    | _ => False
  | _, _ => False
theorem set_fx : PSet X fSet := by
  intro pins s σ H o i v ov iv u Q I ro ri rv h
  cases o <;> cases i <;> first
    | exact False.elim h
    | (dsimp only [fSet] at h
       split at h
       · obtain ⟨j, h2, h3⟩ := h
         exact set_list pins s σ H _ _ v ov iv u Q I ro ri rv ⟨_, _, _, j, rfl, rfl, by assumption, h2, h3⟩
       · exact h.elim)
/-- name += e -/
def fIAdd : TIp := fun x y H Q => match x, y with
  | .int i, .int j => Q (.int (i + j)) H
  | .str a, .str b => a.length + b.length ≤ sizeLine ∧ Q (.str (a ++ b)) H
  | _, _ => False
theorem ip_fAdd : PIp X .Add fIAdd := by
  intro pins s σ H x y v u Q I rx ry h
  cases x <;> cases y <;> first
    | exact False.elim h
    | exact ip_add pins s σ H _ _ v u Q I rx ry ⟨_, _, rfl, rfl, h⟩
    | exact iop_add_str pins s σ H _ _ v u Q I rx ry ⟨_, _, rfl, rfl, h⟩
def fISub : TIp := fun x y H Q => match x, y with
  | .int i, .int j => Q (.int (i - j)) H
  | _, _ => False
theorem ip_fSub : PIp X .Sub fISub := by
  intro pins s σ H x y v u Q I rx ry h
  cases x <;> cases y <;> first
    | exact False.elim h
    | exact ip_sub pins s σ H _ _ v u Q I rx ry ⟨_, _, rfl, rfl, h⟩
/-! ### built-in calls -/
def fLen (K : PySem.W.Frag) : List V → Hp → VK → Prop := fun xs H Q => match xs with
  | [.str z] => z.length ≤ sizeLine ∧ Q (.int z.length) H
  | [.ref p] => ∃ ys, Rl K H p ys ∧ Q (.int ys.length) H
  | _ => False
theorem call_fLen : CallR X (.builtin "len") (fLen X.K) := by
  intro pins s σ H xs us Q I r h
  match xs, r, h with
  | [.str z], r, h => exact call_len_str pins s σ H _ us Q I r ⟨z, rfl, h⟩
  | [.ref p], r, h =>
    obtain ⟨ys, h1, h2⟩ := h
    exact call_len_seq pins s σ H _ us Q I r ⟨p, ys, rfl, h1, h2⟩
/-- len of a dict -/
def fLenD : List V → Hp → VK → Prop := fun xs H Q => match xs with
  | [.ref p] => ∃ kvs, H p = some (.dK kvs) ∧ Q (.int kvs.length) H
  | _ => False
theorem call_fLenD : CallR X (.builtin "len") fLenD := by
  intro pins s σ H xs us Q I r h
  match xs, r, h with
  | [.ref p], r, h =>
    obtain ⟨kvs, h1, h2⟩ := h
    exact call_lenD pins s σ H _ us Q I r ⟨p, kvs, rfl, h1, h2⟩
def fInt : List V → Hp → VK → Prop := fun xs H Q => match xs with
  | [.int i] => Q (.int i) H
  | [.bl k] => Q (.int (if k then 1 else 0)) H
  | [.str a] => ∃ n, PySem.intText? a = some n ∧ a.length ≤ 640 ∧ Q (.int n) H
  | _ => False
theorem call_fInt : CallR X (.type "int") fInt := by
  intro pins s σ H xs us Q I r h
  match xs, r, h with
  | [.int i], r, h => exact call_int1 pins s σ H _ us Q I r (.inl ⟨i, rfl, h⟩)
  | [.bl k], r, h => exact call_int1 pins s σ H _ us Q I r (.inr ⟨k, rfl, h⟩)
  | [.str a], r, h =>
    obtain ⟨n, h1, h2, h3⟩ := h
    exact call_int_str pins s σ H _ us Q I r ⟨a, n, rfl, h1, h2, h3⟩
def fStr : List V → Hp → VK → Prop := fun xs H Q => match xs with
  | [.int i] => i.natAbs.log2 < 1920 ∧ Q (.str (toString i)) H
  | _ => False
theorem call_fStr : CallR X (.type "str") fStr := by
  intro pins s σ H xs us Q I r h
  match xs, r, h with
  | [.int i], r, h => exact call_str_int pins s σ H _ us Q I r ⟨i, rfl, h⟩
def fAbs : List V → Hp → VK → Prop := fun xs H Q => match xs with
  | [.int i] => Q (.int (if i < 0 then -i else i)) H
  | _ => False
theorem call_fAbs : CallR X (.builtin "abs") fAbs := by
  intro pins s σ H xs us Q I r h
  match xs, r, h with
  | [.int i], r, h => exact call_abs pins s σ H _ us Q I r ⟨i, rfl, h⟩
def fMax : List V → Hp → VK → Prop := fun xs H Q => match xs with
  | [.int i, .int j] => Q (.int (if j > i then j else i)) H
  | _ => False
theorem call_fMax (hc : X.calm = true) : CallR X (.builtin "max") fMax := by
  intro pins s σ H xs us Q I r h
  match xs, r, h with
  | [.int i, .int j], r, h => exact call_max2 hc pins s σ H _ us Q I r ⟨i, j, rfl, h⟩
def fMin : List V → Hp → VK → Prop := fun xs H Q => match xs with
  | [.int i, .int j] => Q (.int (if j < i then j else i)) H
  | _ => False
theorem call_fMin (hc : X.calm = true) : CallR X (.builtin "min") fMin := by
  intro pins s σ H xs us Q I r h
  match xs, r, h with
  | [.int i, .int j], r, h => exact call_min2 hc pins s σ H _ us Q I r ⟨i, j, rfl, h⟩
def fOrd : List V → Hp → VK → Prop := fun xs H Q => match xs with
  | [.str x] => ∃ c, x.cps.toList = [c] ∧ Q (.int (c : Nat)) H
  | _ => False
theorem call_fOrd : CallR X (.builtin "ord") fOrd := by
  intro pins s σ H xs us Q I r h
  match xs, r, h with
  | [.str x], r, h =>
    obtain ⟨c, h1, h2⟩ := h
    cases str_one h1
    exact call_ord pins s σ H _ us Q I r ⟨_, rfl, rfl, h2⟩
def fChr : List V → Hp → VK → Prop := fun xs H Q => match xs with
  | [.int i] => (0 ≤ i ∧ i ≤ 1114111) ∧ Q (.str ⟨#[i.toNat]⟩) H
  | _ => False
theorem call_fChr : CallR X (.builtin "chr") fChr := by
  intro pins s σ H xs us Q I r h
  match xs, r, h with
  | [.int i], r, h => exact call_chr pins s σ H _ us Q I r ⟨i, rfl, h.1.1, h.1.2, h.2⟩
/-- list(x): a new list -/
def fListOf (K : PySem.W.Frag) : List V → Hp → VK → Prop := fun xs H Q => match xs with
  | [.ref p] => ∃ ys, Rl K H p ys ∧ ∀ l H1, H l = none → Same H H1 → H1 l = some (.lst ys) → Q (.ref l) H1
  | _ => False
theorem call_fListOf : CallR X (.type "list") (fListOf X.K) := by
  intro pins s σ H xs us Q I r h
  match xs, r, h with
  | [.ref p], r, h =>
    obtain ⟨ys, h1, h2⟩ := h
    exact call_list_of pins s σ H _ us Q I r ⟨p, ys, rfl, h1, fun l nl => h2 l _ nl (same_new nl) upd_same⟩
/-! ### isinstance of a built-in class -/
/-- a value's built-in class (by the abstract heap), where it is plain -/
def tyOf (H : Hp) : V → Option String
  | .non => some "NoneType"
  | .bl _ => some "bool"
  | .int _ => some "int"
  | .str _ => some "str"
  | .ref a => match H a with
    | some (.lst _) => some "list"
    | some (.tup _) => some "tuple"
    | some (.dK _) => some "dict"
    | some (.dT _) => some "dict"
    | _ => none
  | _ => none
theorem tyX_of {K : PySem.W.Frag} {H : Hp} {x : V} {t : String} (h : tyOf H x = some t) : TyX K H x (.type t) := by
  cases x with
  | non => cases h; exact .base .non
  | bl b => cases h; exact .base (.bl b)
  | int b => cases h; exact .base (.int b)
  | str b => cases h; exact .base (.str b)
  | ref a =>
    dsimp only [tyOf] at h
    split at h <;> first
      | (cases h; exact .base (.lst (by assumption)))
      | (cases h; exact .base (.tup (by assumption)))
      | (cases h; exact .base (.dK (by assumption)))
      | (cases h; exact .base (.dT (by assumption)))
      | cases h
  | _ => cases h
/-- one of some built-in classes -/
def kitBs (t : String) : List V → Option Bool
  | [] => some false
  | .ty n :: cs => match kitB t n, kitBs t cs with
    | some b, some r => some (b || r)
    | _, _ => none
  | _ => none
theorem kitBs_any {K : PySem.W.Frag} {t : String} : ∀ {cs : List V} {r : Bool}, kitBs t cs = some r → ∃ us, Paired ClsV cs us ∧ PySem.W.kitAny K (.type t) us = some r
  | [], r, h => by cases h; exact ⟨[], .nil, kitAny_nil⟩
  | c :: cs, r, h => by
    cases c <;> first
      | cases h
      | (rename_i n
         unfold kitBs at h
         split at h
         · rename_i b r' e e2
           cases h
           obtain ⟨us, p, q⟩ := kitBs_any e2
           refine ⟨_, .cons (.ty n) p, kitAny_cons (kit_ty e) (fun hb => ?_) fun hb => ?_⟩
           · rw [hb]; exact q
           · rw [hb]; rfl
         · cases h)
theorem kitBv : kitB "NoneType" "bool" = some false ∧ kitB "NoneType" "int" = some false ∧ kitB "NoneType" "str" = some false ∧ kitB "NoneType" "list" = some false ∧ kitB "NoneType" "tuple" = some false ∧ kitB "NoneType" "dict" = some false ∧ kitB "bool" "bool" = some true ∧ kitB "bool" "int" = some true ∧ kitB "bool" "str" = some false ∧ kitB "bool" "list" = some false ∧ kitB "bool" "tuple" = some false ∧ kitB "bool" "dict" = some false ∧ kitB "int" "bool" = some false ∧ kitB "int" "int" = some true ∧ kitB "int" "str" = some false ∧ kitB "int" "list" = some false ∧ kitB "int" "tuple" = some false ∧ kitB "int" "dict" = some false ∧ kitB "str" "bool" = some false ∧ kitB "str" "int" = some false ∧ kitB "str" "str" = some true ∧ kitB "str" "list" = some false ∧ kitB "str" "tuple" = some false ∧ kitB "str" "dict" = some false ∧ kitB "list" "bool" = some false ∧ kitB "list" "int" = some false ∧ kitB "list" "str" = some false ∧ kitB "list" "list" = some true ∧ kitB "list" "tuple" = some false ∧ kitB "list" "dict" = some false ∧ kitB "tuple" "bool" = some false ∧ kitB "tuple" "int" = some false ∧ kitB "tuple" "str" = some false ∧ kitB "tuple" "list" = some false ∧ kitB "tuple" "tuple" = some true ∧ kitB "tuple" "dict" = some false ∧ kitB "dict" "bool" = some false ∧ kitB "dict" "int" = some false ∧ kitB "dict" "str" = some false ∧ kitB "dict" "list" = some false ∧ kitB "dict" "tuple" = some false ∧ kitB "dict" "dict" = some true := by decide +kernel
/-- isinstance(x, T), T a built-in class, or a new tuple of such -/
def fIsi : List V → Hp → VK → Prop := fun xs H Q => match xs with
  | [x, .ty n] => ∃ t, tyOf H x = some t ∧ ∃ b, kitB t n = some b ∧ Q (.bl b) H
  | [x, .ref p] => match H p with
    | some (.tup cs) => ∃ t, tyOf H x = some t ∧ ∃ b, kitBs t cs = some b ∧ Q (.bl b) H
    | _ => False
  | _ => False
theorem call_fIsi : CallR X (.builtin "isinstance") fIsi := by
  intro pins s σ H xs us Q I r h
  match xs, r, h with
  | [x, .ty n], r, h =>
    obtain ⟨t, h1, b, h2, h3⟩ := h
    exact call_isi pins s σ H _ us Q I r ⟨x, .ty n, _, _, b, rfl, .ty n, tyX_of h1, kit_ty h2, h3⟩
  | [x, .ref p], r, h =>
    dsimp only [fIsi] at h
    split at h
    · obtain ⟨t, h1, b, h2, h3⟩ := h
      obtain ⟨ws, h4, h5⟩ := kitBs_any h2
      exact call_isiT pins s σ H _ us Q I r ⟨x, p, _, _, ws, b, rfl, by assumption, h4, tyX_of h1, h5, h3⟩
    · exact h.elim
/-! ### methods of built-in types -/
def isLst : V → Hp → Prop := fun x H => match x with
  | .ref p => match H p with
    | some (.lst _) => True
    | _ => False
  | _ => False
theorem isLst_ty {K : PySem.W.Frag} {x : V} {H : Hp} (h : isLst x H) : tyV K "list" x H := by
  unfold isLst at h
  split at h
  · split at h
    · exact .inl ⟨rfl, _, SqL.of (by assumption)⟩
    · exact h.elim
  · exact h.elim
def isDct : V → Hp → Prop := fun x H => match x with
  | .ref p => match H p with
    | some (.dK _) => True
    | _ => False
  | _ => False
theorem isDct_ty {K : PySem.W.Frag} {x : V} {H : Hp} (h : isDct x H) : tyV K "dict" x H := by
  unfold isDct at h
  split at h
  · split at h
    · exact .inr (.inr (.inl ⟨rfl, .inl ⟨_, by assumption⟩⟩))
    · exact h.elim
  · exact h.elim
def isStr : V → Hp → Prop := fun x _ => match x with
  | .str _ => True
  | _ => False
theorem isStr_ty {K : PySem.W.Frag} {x : V} {H : Hp} (h : isStr x H) : tyV K "str" x H := by
  cases x <;> first | exact rfl | exact False.elim h
section
variable {o e : Expr} {es : List Expr} {to te : TE} {t : TA} {apos cpos : Pos} {T id : String} {name : Str} {r : V → List V → Hp → VK → Prop} {ty : V → Hp → Prop}
def fBM0 (ty : V → Hp → Prop) (r : V → List V → Hp → VK → Prop) (to : TE) : TE := fun σ H Q => to σ H fun x H1 => ty x H1 ∧ r x [] H1 Q
def fBM (ty : V → Hp → Prop) (r : V → List V → Hp → VK → Prop) (to : TE) (t : TA) : TE := fun σ H Q => to σ H fun x H1 => ty x H1 ∧ t σ H1 fun xs H2 => r x xs H2 Q
theorem fe_bm0 (pa : PlainAttrs T) (slot : Slot T name id) (hty : typeOf (.builtin id) = pure (.type "method_descriptor")) (hT : ∀ {K : PySem.W.Frag} {x : V} {H : Hp}, ty x H → tyV K T x H) (hm : MtR X id r) (ho : PE X o to)
    (hbase : attributeBase o name X.env (eval o X.env) = eval o X.env := by rfl) (hline : (apos.endLine == cpos.line) = true := by rfl) : PE X (.Call (.Attribute o name apos) [] [] cpos) (fBM0 ty r to) := by
  refine ⟨fun pins s σ H Q I h => ?_⟩
  refine wpAny_Call_method0_late hbase hline (thn (ho.run pins s σ H _ I h) fun v s1 ⟨x, H1, I1, r1, tyx, q1⟩ => ?_)
  obtain ⟨h1, h2⟩ := tyV_is I1 r1 (hT tyx)
  exact ⟨T, id, pa, slot, hty, h1, h2, Calls.callWith_builtin rfl (PySem.evalArgs_none (hm pins s1 σ H1 x [] v [] Q I1 r1 .nil q1))⟩
theorem fe_bm (pa : PlainAttrs T) (slot : Slot T name id) (hty : typeOf (.builtin id) = pure (.type "method_descriptor")) (hT : ∀ {K : PySem.W.Frag} {x : V} {H : Hp}, ty x H → tyV K T x H) (hm : MtR X id r) (ho : PE X o to) (ha : PA X (e :: es) t)
    (hbase : attributeBase o name X.env (eval o X.env) = eval o X.env := by rfl)
    (hfew : ((backTo cpos (starEach (e :: es) X.env)).all (fun x => !x.1) && (backToKw cpos (keywordEach [] X.env)).all (fun x => x.1.isSome)
      && decide ((e :: es).length + ([] : List Keyword).length + (if ([] : List Keyword).isEmpty then 0 else 1) < 30)) = true := by rfl)
    (hline : (apos.endLine == cpos.line) = true := by rfl) (hs : starEach (e :: es) X.env = (false, eval e X.env) :: starEach es X.env := by rfl) (hplain : (backTo cpos (starEach es X.env)).any (·.1) = false := by rfl) :
    PE X (.Call (.Attribute o name apos) (e :: es) [] cpos) (fBM ty r to t) := by
  refine ⟨fun pins s σ H Q I h => ?_⟩
  refine wpAny_Call_method_late hbase hfew hline rfl (thn (ho.run pins s σ H _ I h) fun v s1 ⟨x, H1, I1, r1, tyx, q1⟩ => ?_)
  obtain ⟨h1, h2⟩ := tyV_is I1 r1 (hT tyx)
  refine ⟨T, id, pa, slot, hty, h1, h2, ?_⟩
  have hA := ha.run cpos pins s1 σ H1 _ I1 q1
  rw [hs] at hA ⊢
  refine Calls.callWith_builtin (by show (false || (backTo cpos (starEach es X.env)).any (·.1)) = false; rw [hplain] <;> rfl) (Calls.evalArgs_plain ?_)
  exact thn hA fun us s2 ⟨vs, H2, I2, r2, q2⟩ => hm pins s2 σ H2 x vs v us Q I2 r1 r2 q2
end
def fAppend : V → List V → Hp → VK → Prop := fun x vs H Q => match x, vs with
  | .ref l, [y] => match H l with
    | some (.lst xs) => xs.length < sizeLine ∧ Q .non (upd H l (.lst (xs ++ [y])))
    | _ => False
  | _, _ => False
theorem mt_fAppend : MtR X "list.append" fAppend := by
  intro pins s σ H x xs v us Q I rx rs h
  unfold fAppend at h
  split at h
  · split at h
    · exact mt_append pins s σ H _ _ v us Q I rx rs ⟨_, _, _, rfl, rfl, by assumption, h⟩
    · exact h.elim
  · exact h.elim
/-- a text's method with one text, by its function -/
def fS1 (g : Str → Str → V) : V → List V → Hp → VK → Prop := fun x vs H Q => match x, vs with
  | .str a, [.str b] => Q (g a b) H
  | _, _ => False
theorem mt_fS1 {id : String} {g : Str → Str → V} (h : MtR X id (fun x xs H Q => ∃ a b, x = .str a ∧ xs = [.str b] ∧ Q (g a b) H)) : MtR X id (fS1 g) := by
  intro pins s σ H x xs v us Q I rx rs q
  unfold fS1 at q
  split at q
  · exact h pins s σ H _ _ v us Q I rx rs ⟨_, _, rfl, rfl, q⟩
  · exact q.elim
theorem mt_fCount : MtR X "str.count" (fS1 fun a b => .int (Txt.count a b)) := mt_fS1 mt_count
theorem mt_fFind : MtR X "str.find" (fS1 fun a b => .int (Txt.find a b)) := mt_fS1 mt_find
theorem mt_fRfind : MtR X "str.rfind" (fS1 fun a b => .int (Txt.rfind a b)) := mt_fS1 mt_rfind
theorem mt_fStarts : MtR X "str.startswith" (fS1 fun a b => .bl (Txt.startswith a b)) := mt_fS1 mt_startswith
theorem mt_fEnds : MtR X "str.endswith" (fS1 fun a b => .bl (Txt.endswith a b)) := mt_fS1 mt_endswith

/-! ### statements, loops -/
theorem seq_ {t1 t2 : TS} {D : Ends} {σ : L2.St} {H : Hp} (h : ∀ N : L2.St → Hp → Prop, (∀ σ H, t2 D σ H → N σ H) → t1 { D with nx := N } σ H) : tSeq t1 t2 D σ H := h _ fun _ _ x => x
/-- what follows is a word of its own -/
theorem cut_ {t : TS} {D : Ends} {σ : L2.St} {H : Hp} (h : ∀ N : L2.St → Hp → Prop, (∀ σ H, D.nx σ H → N σ H) → t { D with nx := N } σ H) : t D σ H := h _ fun _ _ x => x
theorem ifs_ {c : TT} {t u : TS} {D : Ends} {σ : L2.St} {H : Hp} (h : c σ H fun b H1 => if b = true then t D σ H1 else u D σ H1) : tIfS c t u D σ H := h
/-- a loop that is at hand -/
def Loop (J : It) (g : TG) (tb : TS) (D : Ends) (σ : L2.St) (H : Hp) : Prop := ∃ W : Nat → Nat → L2.St → Hp → Prop, (∃ m, W 0 m σ H) ∧ ∀ i m σ H, W i m σ H →
  (J.stop i H ∧ D.nx σ H) ∨ (J.go i H ∧ ∃ N : L2.St → Hp → Prop, (∀ σ' H', N σ' H' → ∃ m', m' < m ∧ W (i + 1) m' σ' H') ∧ ∀ x H', J.yld i H x H' → g x σ H' fun σ2 H2 => tb { D with nx := N, ct := N, bk := D.nx } σ2 H2)
theorem for_eq (wi : TI) (g : TG) (tb : TS) (D : Ends) (σ : L2.St) (H : Hp) : tFor wi g tb D σ H = wi σ H fun J H1 => Loop J g tb D σ H1 := rfl
theorem for_ {wi : TI} {g : TG} {tb : TS} {D : Ends} {σ : L2.St} {H : Hp} (h : wi σ H fun J H1 => Loop J g tb D σ H1) : tFor wi g tb D σ H := h
theorem loop_range {lo : Int} {n : Nat} {g : TG} {tb : TS} {D : Ends} {σ : L2.St} {H : Hp} (Pv : Nat → L2.St → Hp → Prop) (h0 : Pv 0 σ H)
    (hs : ∀ i σ H, i < n → Pv i σ H → g (.int (lo + i)) σ H fun σ2 H2 => tb { D with nx := Pv (i + 1), ct := Pv (i + 1), bk := D.nx } σ2 H2) (hd : ∀ σ H, Pv n σ H → D.nx σ H) : Loop (Itr lo n) g tb D σ H := for_range Pv h0 hs hd
theorem loop_list {K : PySem.W.Frag} {a : Addr} {g : TG} {tb : TS} {D : Ends} {σ : L2.St} {H : Hp} (xs : List V) (Pv : Nat → L2.St → Hp → Prop) (h0 : Pv 0 σ H) (hl : ∀ i σ H, i ≤ xs.length → Pv i σ H → SqL K H a xs)
    (hs : ∀ i x σ H, xs[i]? = some x → Pv i σ H → g x σ H fun σ2 H2 => tb { D with nx := Pv (i + 1), ct := Pv (i + 1), bk := D.nx } σ2 H2) (hd : ∀ σ H, Pv xs.length σ H → D.nx σ H) : Loop (Itl K a) g tb D σ H := for_list Pv h0 hl hs hd
theorem loop_tup {K : PySem.W.Frag} {a : Addr} {g : TG} {tb : TS} {D : Ends} {σ : L2.St} {H : Hp} (xs : List V) (Pv : Nat → L2.St → Hp → Prop) (h0 : Pv 0 σ H) (hl : ∀ i σ H, i ≤ xs.length → Pv i σ H → SqT K H a xs)
    (hs : ∀ i x σ H, xs[i]? = some x → Pv i σ H → g x σ H fun σ2 H2 => tb { D with nx := Pv (i + 1), ct := Pv (i + 1), bk := D.nx } σ2 H2) (hd : ∀ σ H, Pv xs.length σ H → D.nx σ H) : Loop (Itt K a) g tb D σ H := for_tup Pv h0 hl hs hd
theorem loop_str {z : Str} {g : TG} {tb : TS} {D : Ends} {σ : L2.St} {H : Hp} (Pv : Nat → L2.St → Hp → Prop) (h0 : Pv 0 σ H)
    (hs : ∀ i c σ H, z.cps.toList[i]? = some c → Pv i σ H → g (.str ⟨#[c]⟩) σ H fun σ2 H2 => tb { D with nx := Pv (i + 1), ct := Pv (i + 1), bk := D.nx } σ2 H2) (hd : ∀ σ H, Pv z.length σ H → D.nx σ H) : Loop (Its z) g tb D σ H :=
  for_it walk_str Pv h0 (fun _ _ _ _ _ => trivial) (fun i x σ H H' hi p y => by
    obtain ⟨rfl, c, hc, rfl⟩ := y
    exact hs i c σ _ (by rw [Array.getElem?_toList]; exact hc) p) hd
end
end Fx

/-! ### defs by name -/
namespace Fx
open PySem PySem.Spec PyProof.Rows L2
/-- the def that stands at the module's name x keeps the promise sp -/
structure Has (P : Program) (w : World) (K : PySem.W.Frag) (mg : Str → Option Value) (base : Heap) (CX : CXT) (x : Str) (k : Nat) (ps : List Str) (sp : Sp) : Prop where
  ex : ∃ (f : Addr) (fd : FuncData), FnOk P w K mg base CX k f fd ps sp ∧ Binds K fd ps [] ∧ mg x = some (.ref f) ∧ PySem.W.keepIn K (.ref f) = true
/-- what the top has written of a def -/
structure FnFact (K : PySem.W.Frag) (x qual : Str) (st : Stmt) : Prop where
  ex : ∃ (f : Addr) (oc : Value) (od an : Option Addr) (sl : Array (Option Value)) (kV dc pm cd ct : Value),
    PySem.W.nsIn K mainGlobals x = some (some (.ref f)) ∧ K.lookup f = some ⟨oc, od, .func (PySem.W.fnOf x qual (defArgs st) (defBody st) (defScope st) .none kV dc pm an cd ct), sl⟩ ∧
    PySem.W.codeIn K cd qual = true ∧ PySem.W.keepIn K (.ref f) = true
theorem FnFact.of {K : PySem.W.Frag} {x qual : Str} {st : Stmt} {f : Addr} {oc : Value} {od an : Option Addr} {sl : Array (Option Value)} {kV dc pm cd ct : Value}
    (a : PySem.W.nsIn K mainGlobals x = some (some (.ref f))) (l : K.lookup f = some ⟨oc, od, .func (PySem.W.fnOf x qual (defArgs st) (defBody st) (defScope st) .none kV dc pm an cd ct), sl⟩)
    (c : PySem.W.codeIn K cd qual = true) (k : PySem.W.keepIn K (.ref f) = true) : FnFact K x qual st := ⟨f, oc, od, an, sl, kV, dc, pm, cd, ct, a, l, c, k⟩
/-- a def as it stands -/
structure At (K : PySem.W.Frag) (mg : Str → Option Value) (x qual : Str) (st : Stmt) (ps : List Str) : Prop where
  ex : ∃ (f : Addr) (fd : FuncData), Fun K x qual st f fd ∧ Binds K fd ps [] ∧ mg x = some (.ref f)
theorem At.of {K : PySem.W.Frag} {mg : Str → Option Value} {x qual : Str} {st : Stmt} {ps : List Str} {h : Heap} (X : K.In h) (G : h.Ns mainGlobals mg) (F : FnFact K x qual st)
    (hb : ∀ (kV doc pm : Value) (an : Option Addr) (cdv ct : Value) (us : List Value), us.length = ps.length → bindArgs (PySem.W.fnOf x qual (defArgs st) (defBody st) (defScope st) .none kV doc pm an cdv ct) ⟨us, []⟩ = pure (ps.zip us)) : At K mg x qual st ps := by
  obtain ⟨f, oc, od, an, sl, kV, dc, pm, cd, ct, a, l, c, k⟩ := F.ex
  have F1 := fun_mk (st := st) l c k
  exact ⟨_, _, F1, F1.binds hb, PySem.W.mg_of X G a⟩
section
variable {P : Program} {w : World} {K : PySem.W.Frag} {mg : Str → Option Value} {base : Heap}
theorem has_of {x qual : Str} {st : Stmt} {N ps : List Str} {k : Nat} {sp : Sp} (A : At K mg x qual st ps) (S : FnScope N ps (defScope st)) (len : ∀ vs H Q E, sp vs H Q E → vs.length = ps.length)
    (hbody : ∀ (cdv : Value) (f : Addr) (A : Around) (outer : List Env) (s : Shared) (H : Hp) (vs : List V) (Q : VK) (E : XK), Room k (A.deeper (envOfC qual (defScope st) s.heap.objs.size f cdv)) → sp vs H Q E →
      ∃ t, PSs (cxOf CX0 P w K mg base N qual (defScope st) f cdv A outer s H E).nox (defBody st) t ∧ t { nx := fun _ H' => Q .non H', rt := Q } (start N vs) H) : Has P w K mg base CX0 x (k + 1) ps sp := by
  obtain ⟨f, fd, F, B, G⟩ := A.ex
  exact ⟨f, fd, F.ok S len fun cdv A outer s H vs Q E hr h => hbody cdv f A outer s H vs Q E hr h, B, G, F.kp⟩
def spNone : Sp := fun _ _ _ _ => False
/-- a def of which nothing is promised -/
theorem At.never {x qual : Str} {st : Stmt} {ps : List Str} (A : At K mg x qual st ps) : Has P w K mg base CX0 x 0 ps spNone := by
  obtain ⟨f, fd, F, B, G⟩ := A.ex
  exact ⟨f, fd, ⟨fun _ _ _ _ h => h.elim, fun _ _ _ _ _ _ _ _ _ _ _ _ _ h => h.elim⟩, B, G, F.kp⟩
theorem Has.mono {CX : CXT} {x : Str} {j k : Nat} {ps : List Str} {sp : Sp} (h : Has P w K mg base CX x j ps sp) (hk : j ≤ k) : Has P w K mg base CX x k ps sp := by
  obtain ⟨f, fd, F, B, G, kp⟩ := h.ex
  exact ⟨f, fd, F.mono hk, B, G, kp⟩
end
section
variable {X : Cx} {CX : CXT} {k : Nat} {x : Str} {p pos : Pos} {e : Expr} {es : List Expr} {t : TA} {ps : List Str} {sp : Sp} {E : XK}
theorem fe_call (h : Has X.prog X.w X.K X.mg X.base CX x k ps sp) (hr : Room k X.A) (hg : Gl X x) (hx : Passes CX X E) (ha : PA X (e :: es) t) (hd : (x == ("__debug__" : Str)) = false := by decide)
    (hs : starEach (e :: es) X.env = (false, eval e X.env) :: starEach es X.env := by rfl) (hplain : (backTo pos (starEach es X.env)).any (·.1) = false := by rfl) : PE X (.Call (.Name x p) (e :: es) [] pos) (tCall sp [] E t) := by
  obtain ⟨f, fd, F, B, G, kp⟩ := h.ex
  exact pe_call F hr hg G kp B .nil hx ha hd hs hplain
theorem fe_call0 (h : Has X.prog X.w X.K X.mg X.base CX x k ps sp) (hr : Room k X.A) (hg : Gl X x) (hx : Passes CX X E) (hd : (x == ("__debug__" : Str)) = false := by decide) : PE X (.Call (.Name x p) [] [] pos) (tCall sp [] E tNil) := by
  obtain ⟨f, fd, F, B, G, kp⟩ := h.ex
  exact pe_call0 F hr hg G kp B .nil hx hd
end
end Fx

namespace Fx
open PySem PySem.Spec PyProof.Rows L2
section
variable {X : Cx}
/-- a built-in class as a value -/
theorem fe_ty {x : Str} {n : String} {pos : Pos} (hg : Gl X x) (hm : X.mg x = none) (hv : bootBuiltins x = some (.type n)) (hn : x ≠ "__name__" := by decide) (hd : (x == ("__debug__" : Str)) = false := by decide) : PE X (.Name x pos) (tC (.ty n)) := pe_bltn hg hm hv rfl hn hd
end
/-! ### texts as lists -/
def S (l : List Nat) : Str := ⟨l.toArray⟩
def L (z : Str) : List Nat := z.cps.toList
theorem S_L (z : Str) : S (L z) = z := by
  obtain ⟨⟨l⟩⟩ := z
  rfl
theorem L_S (l : List Nat) : L (S l) = l := rfl
theorem S_len (l : List Nat) : (S l).length = l.length := by simp [S, Str.length]
theorem L_len (z : Str) : (L z).length = z.length := by simp [L, Str.length]
theorem S_app (a b : List Nat) : S a ++ S b = S (a ++ b) := by
  show (⟨a.toArray ++ b.toArray⟩ : Str) = ⟨(a ++ b).toArray⟩
  simp
theorem S_cps (l : List Nat) : (S l).cps.toList = l := by simp [S]
theorem S_one (c : Nat) : (⟨#[c]⟩ : Str) = S [c] := rfl
theorem S_inj {a b : List Nat} (h : S a = S b) : a = b := by
  have := congrArg L h
  exact this
theorem cut_take (l : List Nat) {o : Int} (h0 : 0 ≤ o) (h1 : o ≤ l.length) : cutS (S l) none (some o) = S (l.take o.toNat) := by
  unfold cutS
  obtain ⟨k, rfl⟩ := Int.eq_ofNat_of_zero_le h0
  have e : HT.sIx (S l).length (S l).length (some (k : Int)) = min k (S l).length := HT.sIx_nat _ _ _
  rw [HT.sIx_none, e, S_len, S_cps]
  have : min k l.length = k := by omega
  rw [this]
  simp [S]
theorem cut_drop (l : List Nat) {o : Int} (h0 : 0 ≤ o) (h1 : o ≤ l.length) : cutS (S l) (some o) none = S (l.drop o.toNat) := by
  unfold cutS
  obtain ⟨k, rfl⟩ := Int.eq_ofNat_of_zero_le h0
  have e : HT.sIx (S l).length 0 (some (k : Int)) = min k (S l).length := HT.sIx_nat _ _ _
  rw [HT.sIx_none, e, S_len, S_cps]
  have : min k l.length = k := by omega
  rw [this]
  have : (l.drop k).take (l.length - k) = l.drop k := List.take_of_length_le (by rw [List.length_drop]; omega)
  simp [S, this]
theorem cut_mid (l : List Nat) {a b : Int} (h0 : 0 ≤ a) (h1 : a ≤ b) (h2 : b ≤ l.length) : cutS (S l) (some a) (some b) = S ((l.drop a.toNat).take (b.toNat - a.toNat)) := by
  unfold cutS
  obtain ⟨k, rfl⟩ := Int.eq_ofNat_of_zero_le h0
  obtain ⟨m, rfl⟩ := Int.eq_ofNat_of_zero_le (Int.le_trans h0 h1)
  have e1 : HT.sIx (S l).length 0 (some (k : Int)) = min k (S l).length := HT.sIx_nat _ _ _
  have e2 : HT.sIx (S l).length (S l).length (some (m : Int)) = min m (S l).length := HT.sIx_nat _ _ _
  rw [e1, e2, S_len, S_cps]
  have q1 : min k l.length = k := by omega
  have q2 : min m l.length = m := by omega
  rw [q1, q2]
  rfl
theorem len_line {n : Nat} (h : n ≤ 100000) : n ≤ sizeLine := Nat.le_trans h (by decide)
theorem len_line' {n : Nat} (h : n < 100000) : n < sizeLine := Nat.lt_of_lt_of_le h (by decide)
theorem small_div {i j : Int} (h : 0 < j) (h2 : j < 1073741824) : CDivW i j := wide_div (b := 30) h (by omega) (by decide) (by decide)
theorem mul_left {i j : Int} (h : -(2 ^ 64) < i) (h2 : i < 2 ^ 64) : IntMulOk i j := CMul.ok (.inl ⟨h, h2⟩)
theorem mul_right {i j : Int} (h : -(2 ^ 64) < j) (h2 : j < 2 ^ 64) : IntMulOk i j := CMul.ok (.inr ⟨h, h2⟩)
theorem same_mut {H H' : Hp} {p : Addr} {o : HO} (s : Same H H') (h : H p = none) : Same H (upd H' p o) := fun b x e => by
  rw [upd_ne (ne_of_none e h)]
  exact s b x e
theorem ex2 {α β : Type} {a : α} {b : β} {P : α → β → Prop} : (∃ i j, (a = i ∧ b = j) ∧ P i j) ↔ P a b := ⟨fun ⟨_, _, ⟨e1, e2⟩, h⟩ => e1 ▸ e2 ▸ h, fun h => ⟨a, b, ⟨rfl, rfl⟩, h⟩⟩
theorem at_ints {ns : List Int} {i : Int} (h0 : 0 ≤ i) (h1 : i < ns.length) : ∃ z, atI (ns.map V.int) i = some (.int z) := by
  obtain ⟨k, rfl⟩ := Int.eq_ofNat_of_zero_le h0
  have hk : k < ns.length := by omega
  exact ⟨ns[k], atI_nat (by rw [List.getElem?_map, List.getElem?_eq_getElem hk]; rfl)⟩
theorem at_strs {ns : List Str} {i : Int} (h0 : 0 ≤ i) (h1 : i < ns.length) : ∃ z, z ∈ ns ∧ atI (ns.map V.str) i = some (.str z) := by
  obtain ⟨k, rfl⟩ := Int.eq_ofNat_of_zero_le h0
  have hk : k < ns.length := by omega
  exact ⟨ns[k], List.getElem_mem hk, atI_nat (by rw [List.getElem?_map, List.getElem?_eq_getElem hk]; rfl)⟩
theorem getD_eq {α : Type} {ns : List α} {i : Nat} (d : α) (h : i < ns.length) : ns.getD i d = ns[i] := by
  simp [List.getD, List.getElem?_eq_getElem h]
theorem at_getD {ns : List Str} {i : Int} (d : Str) (h0 : 0 ≤ i) (h1 : i < ns.length) : atI (ns.map V.str) i = some (.str (ns.getD i.toNat d)) := by
  obtain ⟨k, rfl⟩ := Int.eq_ofNat_of_zero_le h0
  have hk : k < ns.length := by omega
  refine atI_nat ?_
  rw [List.getElem?_map, List.getElem?_eq_getElem hk, Int.toNat_natCast, getD_eq _ hk]
  rfl
theorem at_getN {ns : List Nat} {i : Int} (d : Nat) (h0 : 0 ≤ i) (h1 : i < ns.length) : atI ns i = some (ns.getD i.toNat d) := by
  obtain ⟨k, rfl⟩ := Int.eq_ofNat_of_zero_le h0
  have hk : k < ns.length := by omega
  refine atI_nat ?_
  rw [List.getElem?_eq_getElem hk, Int.toNat_natCast, getD_eq _ hk]
theorem getD_mem {α : Type} {ns : List α} {i : Nat} (d : α) (h : i < ns.length) : ns.getD i d ∈ ns := by
  rw [getD_eq _ h]
  exact List.getElem_mem h
theorem at_ints_mem {ns : List Int} {i : Int} (h0 : 0 ≤ i) (h1 : i < ns.length) : ∃ z, z ∈ ns ∧ atI (ns.map V.int) i = some (.int z) := by
  obtain ⟨k, rfl⟩ := Int.eq_ofNat_of_zero_le h0
  have hk : k < ns.length := by omega
  exact ⟨ns[k], List.getElem_mem hk, atI_nat (by rw [List.getElem?_map, List.getElem?_eq_getElem hk]; rfl)⟩
theorem emod_lo (r : Int) {m : Int} (h : 0 < m) : 0 ≤ r % m := Int.emod_nonneg _ (by omega)
theorem emod_hi (r : Int) {m : Int} (h : 0 < m) : r % m < m := Int.emod_lt_of_pos _ h
theorem at_vs {xs : List V} {i : Int} (h0 : 0 ≤ i) (h1 : i < xs.length) : ∃ z, z ∈ xs ∧ atI xs i = some z := by
  obtain ⟨k, rfl⟩ := Int.eq_ofNat_of_zero_le h0
  have hk : k < xs.length := by omega
  exact ⟨xs[k], List.getElem_mem hk, atI_nat (List.getElem?_eq_getElem hk)⟩
end Fx

/-! ### constants of the module, more of texts -/
namespace Fx
open PySem PySem.Spec PyProof.Rows L2
theorem one_list (c : Nat) : (⟨#[c]⟩ : Str).cps.toList = [c] := rfl
theorem absV_rel {u : Value} {x : V} (h : absV u = some x) : RelV x u := by
  cases u <;> first
    | (cases h; rfl)
    | (cases h; exact ⟨_, rfl⟩)
    | cases h
def absVs : List Value → Option (List V)
  | [] => some []
  | u :: us => match absV u, absVs us with
    | some x, some xs => some (x :: xs)
    | _, _ => none
theorem absVs_rel : ∀ {us : List Value} {xs : List V}, absVs us = some xs → Vals xs us
  | [], xs, h => by cases h; exact .nil
  | u :: us, xs, h => by
    unfold absVs at h
    split at h
    · rename_i x ys h1 h2
      cases h
      exact .cons (absV_rel h1) (absVs_rel h2)
    · cases h
/-- a tuple of the module -/
structure TupFact (K : PySem.W.Frag) (x : Str) (xs : List V) : Prop where
  ex : ∃ (a : Addr) (od : Option Addr) (its : Array Value) (n : Nat) (sl : Array (Option Value)), PySem.W.nsIn K mainGlobals x = some (some (.ref a)) ∧ K.lookup a = some ⟨.type "tuple", od, .seq its n, sl⟩ ∧ absVs its.toList = some xs ∧ its.size ≤ 1000
theorem TupFact.of {K : PySem.W.Frag} {x : Str} {xs : List V} {a : Addr} {od : Option Addr} {its : Array Value} {n : Nat} {sl : Array (Option Value)} (h1 : PySem.W.nsIn K mainGlobals x = some (some (.ref a))) (h2 : K.lookup a = some ⟨.type "tuple", od, .seq its n, sl⟩)
    (h3 : absVs its.toList = some xs) (h4 : its.size ≤ 1000) : TupFact K x xs := ⟨a, od, its, n, sl, h1, h2, h3, h4⟩
theorem gstr_of {K : PySem.W.Frag} {x z : Str} {t : Tok} (h : PySem.W.nsIn K mainGlobals x = some (some (.str z t))) : ∃ t, PySem.W.nsIn K mainGlobals x = some (some (.str z t)) := ⟨t, h⟩
theorem gint_of {K : PySem.W.Frag} {x : Str} {z : Int} {t : Tok} (h : PySem.W.nsIn K mainGlobals x = some (some (.int z t))) : ∃ t, PySem.W.nsIn K mainGlobals x = some (some (.int z t)) := ⟨t, h⟩
def GTup (K : PySem.W.Frag) (mg : Str → Option Value) (x : Str) (xs : List V) : Prop := ∃ a, mg x = some (.ref a) ∧ ∀ H, SqT K H a xs
theorem TupFact.get {K : PySem.W.Frag} {mg : Str → Option Value} {x : Str} {xs : List V} {h : Heap} (X : K.In h) (G : h.Ns mainGlobals mg) (F : TupFact K x xs) : GTup K mg x xs := by
  obtain ⟨a, od, its, n, sl, h1, h2, h3, h4⟩ := F.ex
  exact ⟨a, PySem.W.mg_of X G h1, fun H => .inr ⟨_, its, n, h2, rfl, rfl, Nat.le_trans h4 (by decide), absVs_rel h3⟩⟩
def fGt_ (K : PySem.W.Frag) (xs : List V) : TE := fun _ H Q => ∀ a, (∀ H', SqT K H' a xs) → Q (.ref a) H
section
variable {X : Cx} {x : Str} {pos : Pos}
theorem fe_gstr {z : Str} (hg : Gl X x) (h : ∃ t, X.mg x = some (.str z t)) (hd : (x == ("__debug__" : Str)) = false := by decide) : PE X (.Name x pos) (tC (.str z)) := by
  obtain ⟨t, h⟩ := h
  exact pe_glob hg h ⟨t, rfl⟩ hd
theorem fe_gint {z : Int} (hg : Gl X x) (h : ∃ t, X.mg x = some (.int z t)) (hd : (x == ("__debug__" : Str)) = false := by decide) : PE X (.Name x pos) (tC (.int z)) := by
  obtain ⟨t, h⟩ := h
  exact pe_glob hg h ⟨t, rfl⟩ hd
theorem fe_gtup {xs : List V} (hg : Gl X x) (h : GTup X.K X.mg x xs) (hd : (x == ("__debug__" : Str)) = false := by decide) : PE X (.Name x pos) (fGt_ X.K xs) := by
  obtain ⟨a, h, hs⟩ := h
  exact pe_wk (pe_glob hg h (v := .ref a) rfl hd) fun σ H Q q => q a hs
/-- ''.join(list or tuple of texts) -/
def fJoin (K : PySem.W.Frag) : V → List V → Hp → VK → Prop := fun x vs H Q => match x, vs with
  | .str a, [.ref p] => ∃ ys : List Str, Rl K H p (ys.map V.str) ∧ (ys.map (·.length)).sum + ys.length * a.length ≤ 16777216 ∧ Q (.str (Txt.join a ys)) H
  | _, _ => False
theorem mt_fJoin : MtR X "str.join" (fJoin X.K) := by
  intro pins s σ H x xs v us Q I rx rs q
  unfold fJoin at q
  split at q
  · obtain ⟨ys, h1, h2, h3⟩ := q
    exact mt_join pins s σ H _ _ v us Q I rx rs ⟨_, _, ys, rfl, rfl, h1, h2, h3⟩
  · exact q.elim
def fLstripC : V → List V → Hp → VK → Prop := fun x vs H Q => match x, vs with
  | .str a, [.str b] => a.length ≤ sizeLine ∧ Q (.str (Txt.lstripChars a b)) H
  | _, _ => False
theorem mt_fLstripC : MtR X "str.lstrip" fLstripC := by
  intro pins s σ H x xs v us Q I rx rs q
  unfold fLstripC at q
  split at q
  · exact mt_lstripChars pins s σ H _ _ v us Q I rx rs ⟨_, _, rfl, rfl, q⟩
  · exact q.elim
end
theorem join_ones : ∀ cs : List Nat, Txt.join (S []) (cs.map fun c => S [c]) = S cs := by
  intro cs
  show (⟨_⟩ : Str) = ⟨_⟩
  congr 1
  cases cs with
  | nil => rfl
  | cons c r =>
    have go : ∀ (r : List Nat) (acc : List Nat), ((r.map fun c => S [c]).foldl (fun (acc : Array Nat) (p : Str) => acc ++ (S []).cps ++ p.cps) acc.toArray) = (acc ++ r).toArray := by
      intro r
      induction r with
      | nil => intro acc; simp
      | cons d r ih =>
        intro acc
        rw [List.map_cons, List.foldl_cons]
        have e : acc.toArray ++ (S []).cps ++ (S [d]).cps = (acc ++ [d]).toArray := by simp [S]
        rw [e, ih, List.append_assoc]
        rfl
    have := go r [c]
    simpa [S] using this
theorem drop_tw (p : Nat → Bool) : ∀ l : List Nat, l.drop (l.takeWhile p).length = l.dropWhile p
  | [] => rfl
  | c :: r => by
    rw [List.takeWhile_cons, List.dropWhile_cons]
    by_cases h : p c = true
    · rw [if_pos h, if_pos h, List.length_cons, List.drop_succ_cons, drop_tw p r]
    · rw [if_neg h, if_neg h, List.length_nil, List.drop_zero]
theorem lstrip_zero (l : List Nat) (b : Nat) : Txt.lstripChars (S l) (S [b]) = S (l.dropWhile (· == b)) := by
  have hp : ((S [b]).cps.contains : Nat → Bool) = (· == b) := by
    funext c
    simp only [S, List.contains_toArray, List.contains_cons, List.contains_nil, Bool.or_false]
  unfold Txt.lstripChars
  rw [hp]
  have ht : (stripLo (· == b) true (S l)) = (l.takeWhile (· == b)).length := rfl
  unfold Txt.stripBy
  split
  · rename_i h
    unfold stripSame at h
    have h0 : stripLo (· == b) true (S l) = 0 := by
      have := (Bool.and_eq_true_iff.mp h).1
      exact eq_of_beq this
    rw [ht] at h0
    rw [← drop_tw, h0, List.drop_zero]
  · unfold stripped
    rw [ht]
    have e : stripHi (· == b) false (S l) (l.takeWhile (· == b)).length = (S l).length := rfl
    rw [e, ← drop_tw]
    have := StrLaws.strSub_toList (S l) (l.takeWhile (· == b)).length (S l).length
    rw [← S_L (Builtin.Str.strSub _ _ _)]
    congr 1
    show (Builtin.Str.strSub _ _ _).cps.toList = _
    rw [this, S_cps, S_len]
    exact List.take_of_length_le (by rw [List.length_drop]; exact Nat.le_refl _)
end Fx

set_option Elab.async false
set_option linter.all false
set_option maxRecDepth 100000
/-! Ox: objects of the program's own classes, over Fx. -/
namespace Fx
open PySem PySem.Spec PyProof.Rows L2
/-! ### weakening within -/
section
variable {X : Cx}
/-- whatever follows may be weaker -/
def clos (t : TE) : TE := fun σ H Q => ∃ Q0 : VK, t σ H Q0 ∧ ∀ v H1, Q0 v H1 → Q v H1
def closA (t : TA) : TA := fun σ H Q => ∃ Q0, t σ H Q0 ∧ ∀ v H1, Q0 v H1 → Q v H1
theorem pe_clos {e : Expr} {t : TE} (h : PE X e t) : PE X e (clos t) := ⟨fun pins s σ H Q I ⟨Q0, h0, w⟩ => wpAny_mono (h.run pins s σ H Q0 I h0) (fun u s' ⟨v, H', I', r, q⟩ => ⟨v, H', I', r, w v H' q⟩) fun _ _ x => x⟩
theorem pa_clos {es : List Expr} {t : TA} (h : PA X es t) : PA X es (closA t) := ⟨fun pos pins s σ H Q I ⟨Q0, h0, w⟩ => wpAny_mono (h.run pos pins s σ H Q0 I h0) (fun u s' ⟨v, H', I', r, q⟩ => ⟨v, H', I', r, w v H' q⟩) fun _ _ x => x⟩
end
/-! ### heaps but for some places -/
def Keep (ps : List Addr) (H H' : Hp) : Prop := ∀ a o, a ∉ ps → H a = some o → H' a = some o
theorem Keep.refl {ps : List Addr} {H : Hp} : Keep ps H H := fun _ _ _ h => h
theorem Keep.trans {ps : List Addr} {H H1 H2 : Hp} (h : Keep ps H H1) (k : Keep ps H1 H2) : Keep ps H H2 := fun a o n e => k a o n (h a o n e)
theorem Keep.of {ps : List Addr} {H H' : Hp} (s : Same H H') : Keep ps H H' := fun a o _ e => s a o e
theorem Keep.mono {ps qs : List Addr} {H H' : Hp} (h : Keep ps H H') (m : ∀ a ∈ ps, a ∈ qs) : Keep qs H H' := fun a o n e => h a o (fun z => n (m a z)) e
theorem Keep.same {H H' : Hp} (h : Keep [] H H') : Same H H' := fun a o e => h a o (by simp) e
theorem Keep.upd {ps : List Addr} {H H' : Hp} {p : Addr} {o : HO} (h : Keep ps H H') (m : p ∈ ps) : Keep ps H (L2.upd H' p o) := fun a x n e => by
  rw [upd_ne (fun q => n (by rw [q]; exact m))]
  exact h a x n e
theorem Keep.updN {ps : List Addr} {H H' : Hp} {p : Addr} {o : HO} (h : Keep ps H H') (m : H p = none) : Keep ps H (L2.upd H' p o) := fun a x n e => by
  rw [upd_ne (ne_of_none e m)]
  exact h a x n e
/-- what the caller does not know -/
theorem Keep.drop {p : Addr} {ps : List Addr} {H H' : Hp} (h : Keep (p :: ps) H H') (m : H p = none) : Keep ps H H' := fun a x n e => h a x (by
  intro q
  rcases List.mem_cons.mp q with rfl | q
  · rw [m] at e; cases e
  · exact n q) e
/-- the new object's heap, when only it has been changed since -/
theorem mk_same {H H0 : Hp} {y : Addr} {o : HO} (s : Same H H0) (n : H y = none) : Same H (L2.upd H0 y o) := same_mut s n
theorem mk_same2 {H H0 : Hp} {y : Addr} {o o' : HO} (s : Same H H0) (n : H y = none) : Same H (L2.upd (L2.upd H0 y o) y o') := same_mut (same_mut s n) n
theorem upd2 {H : Hp} {y : Addr} {o o' : HO} : L2.upd (L2.upd H y o) y o' = L2.upd H y o' := by
  funext a
  by_cases h : a = y
  · subst h; rw [upd_same, upd_same]
  · rw [upd_ne h, upd_ne h, upd_ne h]
theorem SqL.keep {K : PySem.W.Frag} {ps : List Addr} {H H' : Hp} {a : Addr} {xs : List V} (k : Keep ps H H') (n : a ∉ ps) (h : SqL K H a xs) : SqL K H' a xs :=
  h.elim (fun h => .inl (h.elim (fun h => .inl (k _ _ n h)) fun ⟨o, h⟩ => .inr ⟨o, k _ _ n h⟩)) fun h => .inr h
/-! ### fields -/
def fFld (cs : List Addr) (f : Str) (ta : TE) : TE := fun σ H Q => ta σ H fun x H1 => match x with
  | .ref a => match H1 a with
    | some (.ins C _ fs) => C ∈ cs ∧ match fs.lookup f with
      | some v => Q v H1
      | none => False
    | _ => False
  | _ => False
def fSetF (cs : List Addr) (f : Str) (ta tv : TE) : TS := fun D σ H => tv σ H fun y H1 => ta σ H1 fun x H2 => match x with
  | .ref a => match H2 a with
    | some (.ins C dx fs) => C ∈ cs ∧ fs.length < 1000 ∧ D.nx σ (upd H2 a (.ins C dx (putF f y fs)))
    | _ => False
  | _ => False
/-- the classes that know an attribute only by their instances -/
def Plain (K : PySem.W.Frag) (cs : List Addr) (f : Str) : Prop := ∀ C ∈ cs, Cls K C ∧ NoAttr K C f
section
variable {X : Cx} {o e value : Expr} {f : Str} {pos pos' : Pos} {ta tv : TE} {cs : List Addr}
theorem fe_fld (he : PE X e ta) (hc : Plain X.K cs f) (hb : attributeBase e f X.env (eval e X.env) = eval e X.env) : PE X (.Attribute e f pos) (fFld cs f ta) := by
  refine pe_wk (pe_fld (pe_clos he) hb) fun σ H Q q => ⟨_, q, fun x H1 q => ?_⟩
  split at q
  · split at q
    · obtain ⟨m, q⟩ := q
      split at q
      · exact ⟨_, _, _, _, _, rfl, by assumption, (hc _ m).1, (hc _ m).2, by assumption, q⟩
      · exact q.elim
    · exact q.elim
  · exact q.elim
theorem fs_fld (ha : PE X o ta) (hv : PE X value tv) (hc : Plain X.K cs f) (hs : swapsWith value (some (.Attribute o f pos')) pos.line X.env = pure false) : PS X (.Assign [.Attribute o f pos'] value pos) (fSetF cs f ta tv) := by
  refine ps_wk (ps_fld (pe_clos ha) (pe_clos hv) hs) fun D σ H q => ⟨_, q, fun y H1 q => ⟨_, q, fun x H2 q => ?_⟩⟩
  split at q
  · split at q
    · exact ⟨_, _, _, _, rfl, by assumption, (hc _ q.1).1, (hc _ q.1).2, q.2.1, q.2.2⟩
    · exact q.elim
  · exact q.elim
end
/-- {} -/
def fDnew : TE := fun _ H Q => ∀ p H2, H p = none → Same H H2 → H2 p = some (.dK []) → Q (.ref p) H2
theorem fe_dnew {X : Cx} {pos : Pos} : PE X (.Dict [] [] pos) fDnew := pe_wk pe_dnewK fun σ H Q q => fun p np => q p _ np (same_new np) upd_same
theorem rl_keep {K : PySem.W.Frag} {H H' : Hp} {a : Addr} {xs : List V} (s : Same H H') (h : Rl K H a xs) : Rl K H' a xs := h.elim (fun h => .inl (s.seq h)) fun h => .inr (SqT.ext h s)
/-! ### methods, making -/
/-- a method as it stands in its class -/
structure AtM (K : PySem.W.Frag) (C : Addr) (x qual : Str) (st : Stmt) (ps : List Str) : Prop where
  ex : ∃ (f : Addr) (fd : FuncData), Fun K x qual st f fd ∧ Binds K fd ps [] ∧ Meth K C x f
structure MFact (K : PySem.W.Frag) (C : Addr) (x qual : Str) (st : Stmt) : Prop where
  ex : ∃ (f : Addr) (oc : Value) (od an : Option Addr) (sl : Array (Option Value)) (kV dc pm cd ct : Value),
    PySem.W.findIn K (.ref C) x = some (some (.ref f)) ∧ K.lookup f = some ⟨oc, od, .func (PySem.W.fnOf x qual (defArgs st) (defBody st) (defScope st) .none kV dc pm an cd ct), sl⟩ ∧
    PySem.W.codeIn K cd qual = true ∧ PySem.W.keepIn K (.ref f) = true ∧ PySem.W.isFn K (.ref f) = true
theorem MFact.of {K : PySem.W.Frag} {C : Addr} {x qual : Str} {st : Stmt} {f : Addr} {oc : Value} {od an : Option Addr} {sl : Array (Option Value)} {kV dc pm cd ct : Value}
    (a : PySem.W.findIn K (.ref C) x = some (some (.ref f))) (l : K.lookup f = some ⟨oc, od, .func (PySem.W.fnOf x qual (defArgs st) (defBody st) (defScope st) .none kV dc pm an cd ct), sl⟩)
    (c : PySem.W.codeIn K cd qual = true) (k : PySem.W.keepIn K (.ref f) = true) (i : PySem.W.isFn K (.ref f) = true) : MFact K C x qual st := ⟨f, oc, od, an, sl, kV, dc, pm, cd, ct, a, l, c, k, i⟩
theorem AtM.of {K : PySem.W.Frag} {C : Addr} {x qual : Str} {st : Stmt} {ps : List Str} (F : MFact K C x qual st)
    (hb : ∀ (kV doc pm : Value) (an : Option Addr) (cdv ct : Value) (us : List Value), us.length = ps.length → bindArgs (PySem.W.fnOf x qual (defArgs st) (defBody st) (defScope st) .none kV doc pm an cdv ct) ⟨us, []⟩ = pure (ps.zip us)) : AtM K C x qual st ps := by
  obtain ⟨f, oc, od, an, sl, kV, dc, pm, cd, ct, a, l, c, k, i⟩ := F.ex
  have F1 := fun_mk (st := st) l c k
  exact ⟨_, _, F1, F1.binds hb, ⟨a, i, k⟩⟩
/-- a method that keeps a promise (of the object and the arguments) -/
structure HasM (P : Program) (w : World) (K : PySem.W.Frag) (mg : Str → Option Value) (base : Heap) (CX : CXT) (C : Addr) (x : Str) (k : Nat) (ps : List Str) (sp : Sp) : Prop where
  ex : ∃ (f : Addr) (fd : FuncData), FnOk P w K mg base CX k f fd ps sp ∧ Binds K fd ps [] ∧ Meth K C x f
/-- a class whose making keeps a promise (of the arguments) -/
structure HasC (P : Program) (w : World) (K : PySem.W.Frag) (mg : Str → Option Value) (base : Heap) (CX : CXT) (C : Addr) (x : Str) (k : Nat) (ps : List Str) (sp : Sp) : Prop where
  ex : ∃ (f : Addr) (fd : FuncData) (sp' : Sp), FnOk P w K mg base CX k f fd ps sp' ∧ Binds K fd ps [] ∧ Mk K C f ∧ mg x = some (.ref C) ∧
    ∀ vs H Q E, sp vs H Q E → ∀ y dx H0, H y = none → Same H H0 → H0 y = some (.ins C dx []) → sp' (.ref y :: vs) H0 (fun v H2 => v = .non ∧ Q (.ref y) H2) E
section
variable {P : Program} {w : World} {K : PySem.W.Frag} {mg : Str → Option Value} {base : Heap}
theorem hasM_of {C : Addr} {x qual : Str} {st : Stmt} {N ps : List Str} {k : Nat} {sp : Sp} (A : AtM K C x qual st ps) (S : FnScope N ps (defScope st)) (len : ∀ vs H Q E, sp vs H Q E → vs.length = ps.length)
    (hbody : ∀ (cdv : Value) (f : Addr) (A : Around) (outer : List Env) (s : Shared) (H : Hp) (vs : List V) (Q : VK) (E : XK), Room k (A.deeper (envOfC qual (defScope st) s.heap.objs.size f cdv)) → sp vs H Q E →
      ∃ t, PSs (cxOf CX0 P w K mg base N qual (defScope st) f cdv A outer s H E).nox (defBody st) t ∧ t { nx := fun _ H' => Q .non H', rt := Q } (start N vs) H) : HasM P w K mg base CX0 C x (k + 1) ps sp := by
  obtain ⟨f, fd, F, B, G⟩ := A.ex
  exact ⟨f, fd, F.ok S len fun cdv A outer s H vs Q E hr h => hbody cdv f A outer s H vs Q E hr h, B, G⟩
/-- what a class is for making -/
structure MkAt (K : PySem.W.Frag) (mg : Str → Option Value) (x : Str) (C : Addr) : Prop where
  makes : PySem.W.makesIn K C = true
  kp : PySem.W.keepIn K (.ref C) = true
  at_ : mg x = some (.ref C)
theorem hasC_of {C : Addr} {x qual : Str} {st : Stmt} {N ps : List Str} {k : Nat} {sp : Sp} (M : MkAt K mg x C) (A : AtM K C "__init__" qual st ps) (S : FnScope N ps (defScope st)) (len : ∀ vs H Q E, sp vs H Q E → vs.length + 1 = ps.length)
    (hbody : ∀ (cdv : Value) (f : Addr) (A : Around) (outer : List Env) (s : Shared) (H : Hp) (vs : List V) (Q : VK) (E : XK) (y dx : Addr) (H0 : Hp), Room k (A.deeper (envOfC qual (defScope st) s.heap.objs.size f cdv)) → sp vs H Q E → H y = none → Same H H0 → H0 y = some (.ins C dx []) →
      ∃ t, PSs (cxOf CX0 P w K mg base N qual (defScope st) f cdv A outer s H0 E).nox (defBody st) t ∧ t { nx := fun _ H' => Q (.ref y) H', rt := fun v H' => v = .non ∧ Q (.ref y) H' } (start N (.ref y :: vs)) H0) : HasC P w K mg base CX0 C x (k + 1) ps sp := by
  obtain ⟨f, fd, F, B, G⟩ := A.ex
  refine ⟨f, fd, fun ws H0 Q' E => ∃ y vs H Q dx, ws = .ref y :: vs ∧ sp vs H Q E ∧ H y = none ∧ Same H H0 ∧ H0 y = some (.ins C dx []) ∧ Q' = fun v H2 => v = .non ∧ Q (.ref y) H2, ?_, B, ⟨M.makes, G.at_, G.fn, M.kp⟩, M.at_, ?_⟩
  · refine F.ok S (fun ws H0 Q' E h => ?_) fun cdv A outer s H0 ws Q' E hr h => ?_
    · obtain ⟨y, vs, H, Q, dx, rfl, h, _⟩ := h
      exact len vs H Q E h
    · obtain ⟨y, vs, H, Q, dx, rfl, h, hy, hs, h0, rfl⟩ := h
      obtain ⟨t, h1, h2⟩ := hbody cdv f A outer s H vs Q E y dx H0 hr h hy hs h0
      refine ⟨t, h1, ?_⟩
      have e : (fun (_ : L2.St) (H' : Hp) => (fun v H2 => v = V.non ∧ Q (.ref y) H2) V.non H') = fun _ H' => Q (.ref y) H' := by
        funext _ H'
        exact propext ⟨fun h => h.2, fun h => ⟨rfl, h⟩⟩
      rw [e]
      exact h2
  · intro vs H Q E h y dx H0 hy hs h0
    exact ⟨y, vs, H, Q, dx, rfl, h, hy, hs, h0, rfl⟩
end
section
variable {X : Cx} {CX : CXT} {k : Nat} {C : Addr} {x m : Str} {p pos apos : Pos} {o e : Expr} {es : List Expr} {t : TA} {ta : TE} {ps : List Str} {sp : Sp} {E : XK}
theorem fe_make (h : HasC X.prog X.w X.K X.mg X.base CX C x k ps sp) (hr : Room (k + 1) X.A) (hg : Gl X x) (hx : Passes CX X E) (ha : PA X (e :: es) t) (hd : (x == ("__debug__" : Str)) = false := by decide)
    (hs : starEach (e :: es) X.env = (false, eval e X.env) :: starEach es X.env := by rfl) (hplain : (backTo pos (starEach es X.env)).any (·.1) = false := by rfl) : PE X (.Call (.Name x p) (e :: es) [] pos) (tCall sp [] E t) := by
  obtain ⟨f, fd, sp', F, B, M, G, h⟩ := h.ex
  refine pe_wk (pe_make M F hr hg G B .nil hx (pa_clos ha) hd hs hplain) fun σ H Q q => ⟨_, q, fun vs H1 q y dx n1 n2 n3 => ?_⟩
  rw [List.append_nil] at q ⊢
  refine h vs H1 Q E q y dx _ n1 (fun b z ez => ?_) upd_same
  rw [upd_ne (ne_of_none ez n1), upd_ne (ne_of_none ez n2)]
  exact ez
theorem fe_make0 (h : HasC X.prog X.w X.K X.mg X.base CX C x k ps sp) (hr : Room (k + 1) X.A) (hg : Gl X x) (hx : Passes CX X E) (hd : (x == ("__debug__" : Str)) = false := by decide) : PE X (.Call (.Name x p) [] [] pos) (tCall sp [] E tNil) := by
  obtain ⟨f, fd, sp', F, B, M, G, h⟩ := h.ex
  refine pe_wk (pe_make0 M F hr hg G B .nil hx hd) fun σ H Q q => ?_
  show tNil σ H _
  intro y dx n1 n2 n3
  refine h [] H Q E q y dx _ n1 (fun b z ez => ?_) upd_same
  rw [upd_ne (ne_of_none ez n1), upd_ne (ne_of_none ez n2)]
  exact ez
/-- an instance of the class, without an attribute of the name -/
def isOb (C : Addr) (m : Str) : V → Hp → Prop := fun x H => match x with
  | .ref a => match H a with
    | some (.ins D _ fs) => D = C ∧ fs.lookup m = none
    | _ => False
  | _ => False
def fMeth (C : Addr) (m : Str) (sp : Sp) (E : XK) (ta : TE) (t : TA) : TE := fun σ H Q => ta σ H fun x H1 => isOb C m x H1 ∧ t σ H1 fun vs H2 => sp (x :: vs) H2 Q E
theorem fMeth_to {σ : L2.St} {H : Hp} {Q : VK} (q : fMeth C m sp E ta t σ H Q) : tMeth C m sp [] E (clos ta) t σ H Q := by
  refine ⟨_, q, fun x H1 ⟨q1, q2⟩ => ?_⟩
  unfold isOb at q1
  split at q1
  · split at q1
    · obtain ⟨rfl, q1⟩ := q1
      refine ⟨_, _, _, rfl, by assumption, q1, ?_⟩
      simp only [List.append_nil]
      exact q2
    · exact q1.elim
  · exact q1.elim
theorem fe_meth {pl : Sem Bool} (h : HasM X.prog X.w X.K X.mg X.base CX C m k ps sp) (c : Cls X.K C) (hr : Room k X.A) (hx : Passes CX X E) (he : PE X o ta) (ha : PA X (e :: es) t)
    (hst : starEach (e :: es) X.env = (false, eval e X.env) :: starEach es X.env := by rfl) (hpl : (backTo pos (starEach es X.env)).any (·.1) = false := by rfl)
    (ht : eval (.Call (.Attribute o m apos) (e :: es) [] pos) X.env = (do
      let ov ← eval o X.env
      standAt apos.atName
      let (f, first) ← holding [ov] (getMethod ov m pl)
      callWith pos f first (backTo pos (starEach (e :: es) X.env)) (backToKw pos (keywordEach [] X.env))) := by rfl) :
    PE X (.Call (.Attribute o m apos) (e :: es) [] pos) (fMeth C m sp E ta t) := by
  obtain ⟨f, fd, F, B, M⟩ := h.ex
  exact pe_wk (pe_meth (pe_clos he) c M F hr B .nil hx ha hst hpl ht) fun σ H Q q => fMeth_to q
theorem fe_meth0 {pl : Sem Bool} (h : HasM X.prog X.w X.K X.mg X.base CX C m k ps sp) (c : Cls X.K C) (hr : Room k X.A) (hx : Passes CX X E) (he : PE X o ta)
    (ht : eval (.Call (.Attribute o m apos) [] [] pos) X.env = (do
      let ov ← eval o X.env
      standAt apos.atName
      let (f, first) ← holding [ov] (getMethod ov m pl)
      callWith pos f first (backTo pos (starEach [] X.env)) (backToKw pos (keywordEach [] X.env))) := by rfl) :
    PE X (.Call (.Attribute o m apos) [] [] pos) (fMeth C m sp E ta tNil) := by
  obtain ⟨f, fd, F, B, M⟩ := h.ex
  exact pe_wk (pe_meth0 (pe_clos he) c M F hr B .nil hx ht) fun σ H Q q => fMeth_to q
end
/-! ### isinstance of own classes -/
/-- what isinstance asks of a class of the program -/
structure OCls (K : PySem.W.Frag) (C : Addr) : Prop where
  cl : Cls K C
  ci : PySem.W.findIn K (.ref C) "__class__" = some (some (.builtin "object.__class__"))
  gd : PySem.W.specialIn K (.builtin "object.__class__") "__get__" = some (some (.builtin "getset_descriptor.__get__"))
  tk : PySem.W.takesIn K (.builtin "object.__class__") = some true
  mr : PySem.W.mroIn K C (.type "object") = some true
/-- the answers of isinstance for instances of cs and plain values, at the classes ds -/
structure Kit (K : PySem.W.Frag) (cs ds : List Addr) : Prop where
  ow : ∀ C ∈ cs, OCls K C
  oo : ∀ C ∈ cs, ∀ D ∈ ds, PySem.W.kitOne K (.ref C) (.ref D) = some (decide (C = D))
  bo : ∀ n ∈ ["NoneType", "bool", "int", "str", "list", "tuple", "dict"], ∀ D ∈ ds, PySem.W.kitOne K (.type n) (.ref D) = some false
  ob : ∀ C ∈ cs, ∀ n ∈ ["bool", "int", "str", "list", "tuple", "dict"], PySem.W.kitOne K (.ref C) (.type n) = some false
/-- a value's class -/
def tyV2 (H : Hp) : V → Option Value
  | .ref a => match H a with
    | some (.ins C _ _) => some (.ref C)
    | some (.lst _) => some (.type "list")
    | some (.tup _) => some (.type "tuple")
    | some (.dK _) => some (.type "dict")
    | some (.dT _) => some (.type "dict")
    | _ => none
  | .non => some (.type "NoneType")
  | .bl _ => some (.type "bool")
  | .int _ => some (.type "int")
  | .str _ => some (.type "str")
  | _ => none
def okT (cs : List Addr) : Value → Prop
  | .ref C => C ∈ cs
  | _ => True
def kit2 (D : Addr) : Value → Bool
  | .ref C => decide (C = D)
  | _ => false
theorem ty2_kit {K : PySem.W.Frag} {cs ds : List Addr} (k : Kit K cs ds) {H : Hp} {x : V} {t : Value} (h : tyV2 H x = some t) (ok : okT cs t) : TyX K H x t ∧ ∀ D ∈ ds, PySem.W.kitOne K t (.ref D) = some (kit2 D t) := by
  unfold tyV2 at h
  split at h <;> first
    | (cases h; exact ⟨.base .non, fun D hD => k.bo "NoneType" (by decide) D hD⟩)
    | (cases h; exact ⟨.base (.bl _), fun D hD => k.bo "bool" (by decide) D hD⟩)
    | (cases h; exact ⟨.base (.int _), fun D hD => k.bo "int" (by decide) D hD⟩)
    | (cases h; exact ⟨.base (.str _), fun D hD => k.bo "str" (by decide) D hD⟩)
    | (split at h <;> first
        | (cases h; exact ⟨.base (.lst (by assumption)), fun D hD => k.bo "list" (by decide) D hD⟩)
        | (cases h; exact ⟨.base (.tup (by assumption)), fun D hD => k.bo "tuple" (by decide) D hD⟩)
        | (cases h; exact ⟨.base (.dK (by assumption)), fun D hD => k.bo "dict" (by decide) D hD⟩)
        | (cases h; exact ⟨.base (.dT (by assumption)), fun D hD => k.bo "dict" (by decide) D hD⟩)
        | (cases h
           have O := k.ow _ ok
           exact ⟨.base (.ins (by assumption) O.cl O.ci O.gd O.tk O.mr), fun D hD => k.oo _ ok D hD⟩)
        | cases h)
    | cases h
/-- isinstance(x, C), C an own class -/
def fIsiO (cs ds : List Addr) : List V → Hp → VK → Prop := fun xs H Q => match xs with
  | [x, .ref D] => ∃ t, tyV2 H x = some t ∧ okT cs t ∧ D ∈ ds ∧ Q (.bl (kit2 D t)) H
  | _ => False
theorem call_fIsiO {X : Cx} {cs ds : List Addr} (k : Kit X.K cs ds) : CallR X (.builtin "isinstance") (fIsiO cs ds) := by
  intro pins s σ H xs us Q I r h
  match xs, r, h with
  | [x, .ref D], r, h =>
    obtain ⟨t, h1, h2, h3, h4⟩ := h
    obtain ⟨g1, g2⟩ := ty2_kit k h1 h2
    exact call_isi pins s σ H _ us Q I r ⟨x, .ref D, _, _, _, rfl, .own D, g1, g2 D h3, h4⟩
/-- isinstance(x, (C, D, ..)), own classes, the tuple just made -/
def kits2 (t : Value) : List V → Bool
  | .ref D :: r => kit2 D t || kits2 t r
  | _ => false
def allIn (ds : List Addr) : List V → Prop
  | [] => True
  | .ref D :: r => D ∈ ds ∧ allIn ds r
  | _ :: _ => False
theorem kits2_any {K : PySem.W.Frag} {ds : List Addr} {t : Value} (k : ∀ D ∈ ds, PySem.W.kitOne K t (.ref D) = some (kit2 D t)) : ∀ {vs : List V}, allIn ds vs → ∃ us, Paired ClsV vs us ∧ PySem.W.kitAny K t us = some (kits2 t vs)
  | [], _ => ⟨[], .nil, kitAny_nil⟩
  | v :: r, ha => by
    cases v <;> first
      | exact ha.elim
      | (rename_i D
         obtain ⟨us, p, q⟩ := kits2_any k ha.2
         refine ⟨_, .cons (.own D) p, kitAny_cons (k D ha.1) (fun hb => ?_) (fun hb => ?_)⟩
         · rw [q, kits2, hb]; rfl
         · rw [kits2, hb]; rfl)
def fIsiP (cs ds : List Addr) : List V → Hp → VK → Prop := fun xs H Q => match xs with
  | [x, .ref p] => match H p with
    | some (.tup vs) => ∃ t, tyV2 H x = some t ∧ okT cs t ∧ allIn ds vs ∧ Q (.bl (kits2 t vs)) H
    | _ => False
  | _ => False
theorem call_fIsiP {X : Cx} {cs ds : List Addr} (k : Kit X.K cs ds) : CallR X (.builtin "isinstance") (fIsiP cs ds) := by
  intro pins s σ H xs us Q I r h
  match xs, r, h with
  | [x, .ref p], r, h =>
    dsimp only [fIsiP] at h
    split at h
    · obtain ⟨t, h1, h2, h3, h4⟩ := h
      obtain ⟨g1, g2⟩ := ty2_kit k h1 h2
      obtain ⟨ws, g3, g4⟩ := kits2_any g2 h3
      exact call_isiT pins s σ H _ us Q I r ⟨x, p, _, _, ws, _, rfl, by assumption, g3, g1, g4, h4⟩
    · exact h.elim
/-- isinstance(x, T), T a built-in class, x an instance too -/
def fIsiA (cs : List Addr) : List V → Hp → VK → Prop := fun xs H Q => match xs with
  | [x, .ty n] => ∃ t, tyV2 H x = some t ∧ match t with
    | .ref C => C ∈ cs ∧ n ∈ ["bool", "int", "str", "list", "tuple", "dict"] ∧ Q (.bl false) H
    | .type s => ∃ b, kitB s n = some b ∧ Q (.bl b) H
    | _ => False
  | _ => False
theorem call_fIsiA {X : Cx} {cs ds : List Addr} (k : Kit X.K cs ds) : CallR X (.builtin "isinstance") (fIsiA cs) := by
  intro pins s σ H xs us Q I r h
  match xs, r, h with
  | [x, .ty n], r, h =>
    obtain ⟨t, h1, h2⟩ := h
    match t, h1, h2 with
    | .ref C, h1, h2 =>
      obtain ⟨g1, _⟩ := ty2_kit k h1 (show okT cs (.ref C) from h2.1)
      exact call_isi pins s σ H _ us Q I r ⟨x, .ty n, _, _, _, rfl, .ty n, g1, k.ob C h2.1 n h2.2.1, h2.2.2⟩
    | .type s', h1, h2 =>
      obtain ⟨b, h3, h4⟩ := h2
      obtain ⟨g1, _⟩ := ty2_kit k h1 (show okT cs (.type s') from trivial)
      exact call_isi pins s σ H _ us Q I r ⟨x, .ty n, _, _, _, rfl, .ty n, g1, kit_ty h3, h4⟩
/-- x is True, x is False; x is not .. -/
def fIsB (neg : Bool) : R2 := fun x y H Q => match y with
  | .bl b => (match x with | .non => Q (.bl neg) H | .bl c => Q (.bl (if neg = true then !decide (c = b) else decide (c = b))) H | .int _ => Q (.bl neg) H | .str _ => Q (.bl neg) H | .ref _ => Q (.bl neg) H | _ => False)
  | _ => False
theorem same_bool {M : Model} {A : Around} {E : Value → Shared → Prop} {s : Shared} {x : V} {u : Value} {b : Bool} {R : Bool → Shared → Prop} (r : RelV x u)
    (h : match x with | .non => R false s | .bl c => R (decide (c = b)) s | .int _ => R false s | .str _ => R false s | .ref _ => R false s | _ => False) : wpAny M A (isSame u (.bool b)) R E s := by
  cases x <;> first
    | exact h.elim
    | (cases r
       refine wpAny_isSame_plain rfl ?_
       exact h)
    | (obtain ⟨t, rfl⟩ := r
       refine wpAny_isSame_plain rfl ?_
       exact h)
    | (cases r
       rename_i c
       refine wpAny_isSame_plain rfl ?_
       have e : (Value.bool c == Value.bool b) = decide (c = b) := by cases c <;> cases b <;> rfl
       rw [e]
       exact h)
theorem op_fIsB {X : Cx} : OpR X (compareOp .Is) (fIsB false) := by
  intro pins s σ H x y v u Q I rx ry h
  cases y <;> first
    | exact False.elim h
    | (cases ry
       show wpAny _ _ ((isSame v (Value.bool _)) >>= fun z => pure (Value.bool z)) _ _ s
       refine wpAny_bind (same_bool rx ?_)
       cases x <;> first
         | exact False.elim h
         | exact wpAny_pure (fin_bl I h rfl))
theorem op_fNotB {X : Cx} : OpR X (compareOp .IsNot) (fIsB true) := by
  intro pins s σ H x y v u Q I rx ry h
  cases y <;> first
    | exact False.elim h
    | (cases ry
       show wpAny _ _ ((isSame v (Value.bool _)) >>= fun z => pure (Value.bool (!z))) _ _ s
       refine wpAny_bind (same_bool rx ?_)
       cases x <;> first
         | exact False.elim h
         | exact wpAny_pure (fin_bl I h rfl))
/-- one of two ways -/
def fOr (r1 r2 : R2) : R2 := fun x y H Q => r1 x y H Q ∨ r2 x y H Q
theorem op_fOr {X : Cx} {f : Value → Value → Sem Value} {r1 r2 : R2} (h1 : OpR X f r1) (h2 : OpR X f r2) : OpR X f (fOr r1 r2) := fun pins s σ H x y v u Q I rx ry q => q.elim (h1 pins s σ H x y v u Q I rx ry) (h2 pins s σ H x y v u Q I rx ry)
theorem all_nil {α : Type} {P : α → Prop} : ∀ x ∈ ([] : List α), P x := fun _ h => by cases h
theorem all_cons {α : Type} {P : α → Prop} {a : α} {l : List α} (h : P a) (t : ∀ x ∈ l, P x) : ∀ x ∈ a :: l, P x := fun x m => by
  rcases List.mem_cons.mp m with rfl | m
  · exact h
  · exact t x m
/-! ### == by an own __eq__ -/
def fEqO (C : Addr) (sp : Sp) (E : XK) : R2 := fun x y H Q => match x, y with
  | .ref a, .ref b => (match H a with | some (.ins D _ _) => D = C | _ => False) ∧ (match H b with | some (.ins D _ _) => D = C | _ => False) ∧ sp [x, y] H (fun v H' => match v with | .bl _ => Q v H' | _ => False) E
  | _, _ => False
theorem op_fEqO {X : Cx} {CX : CXT} {C : Addr} {n : Nat} {ps : List Str} {sp : Sp} {E : XK} (h : HasM X.prog X.w X.K X.mg X.base CX C "__eq__" n ps sp) (hr : Room n X.A) (hx : Passes CX X E) : OpR X (compareOp .Eq) (fEqO C sp E) := by
  intro pins s σ H x y v u Q I rx ry q
  obtain ⟨f, fd, F, B, M⟩ := h.ex
  cases x <;> cases y <;> first
    | exact False.elim q
    | skip
  rename_i a b
  dsimp only [fEqO] at q
  obtain ⟨qa, qb, q⟩ := q
  split at qa
  · rename_i D1 dx1 fs1 ea
    split at qb
    · rename_i D2 dx2 fs2 eb
      subst qa
      subst qb
      cases rx
      cases ry
      obtain ⟨mA, J, _⟩ := ins_get I.hok ea
      obtain ⟨mB, J', _⟩ := ins_get I.hok eb
      obtain ⟨od, J, _⟩ := J.look
      obtain ⟨od', J', _⟩ := J'.look
      obtain ⟨m, hF⟩ := I.fr
      show wpAny (model X.prog X.w) X.A (richCompare .Eq (.ref a) (.ref b)) (EP X pins σ Q) X.xe s
      refine PySem.W.cmp_K (op := .Eq) (tb := .ref D2) hr.units0 hF I.ok.mod.kin J J'.type (by simp [PySem.W.notFirst]) M.at_ M.fn ?_
      refine wpAny_mono (run_fn (vs := [.ref a, .ref b]) F hr B .nil hx I (.cons rfl (.cons rfl .nil)) q) (fun w s' z => ?_) fun _ _ x => x
      obtain ⟨y, H', I', r, z⟩ := z
      cases y <;> first
        | exact z.elim
        | (cases r; exact ⟨.bl _, H', I', rfl, z⟩)
    · exact qb.elim
  · exact qa.elim
/-! ### what the top has written of a class -/
structure ClsFact (K : PySem.W.Frag) (C : Addr) : Prop where
  pg : PySem.W.plainGet K C Str.empty = true
  hd : PySem.W.hasDictIn K C = true
  po : PySem.W.plainOver K C = true
  sa : PySem.W.findIn K (.ref C) "__setattr__" = some (some (.builtin "object.__setattr__"))
  ci : PySem.W.findIn K (.ref C) "__class__" = some (some (.builtin "object.__class__"))
  mr : PySem.W.mroIn K C (.type "object") = some true
  mks : PySem.W.makesIn K C = true
  kp : PySem.W.keepIn K (.ref C) = true
theorem ClsFact.cls {K : PySem.W.Frag} {C : Addr} (x : ClsFact K C) : Cls K C := ⟨x.pg, x.hd, x.po, x.sa⟩
/-- what every class has of object -/
structure ObjFact (K : PySem.W.Frag) : Prop where
  gd : PySem.W.specialIn K (.builtin "object.__class__") "__get__" = some (some (.builtin "getset_descriptor.__get__"))
  tk : PySem.W.takesIn K (.builtin "object.__class__") = some true
theorem ClsFact.ocls {K : PySem.W.Frag} {C : Addr} (x : ClsFact K C) (o : ObjFact K) : OCls K C := ⟨x.cls, x.ci, o.gd, o.tk, x.mr⟩
/-! ### comprehensions -/
def Lc (J : It) (g : TG) (tt : TT) (te : TE) (vs : List Nat) (σ : L2.St) (H1 : Hp) (D : Addr) (Q : VK) : Prop := ∃ W : Nat → Nat → Hp → Prop, (∃ m, W 0 m (upd H1 D (.lst []))) ∧ ∀ i m H, W i m H →
  (J.stop i H ∧ Q (.ref D) H) ∨ (J.go i H ∧ ∃ Nx : Hp → Prop, (∀ H', Nx H' → ∃ m', m' < m ∧ W (i + 1) m' H') ∧ ∀ x H', J.yld i H x H' → g x (wipe σ vs) H' fun σ2 H2 => wipe σ2 vs = wipe σ vs ∧ tt σ2 H2 fun b H3 =>
    if b = true then te σ2 H3 fun y H4 => ∃ acc, H4 D = some (.lst acc) ∧ acc.length < sizeLine ∧ Nx (upd H4 D (.lst (acc ++ [y]))) else Nx H3)
theorem lc_ {wi : TI} {g : TG} {tt : TT} {te : TE} {vs : List Nat} {σ : L2.St} {H : Hp} {Q : VK} (h : wi σ H fun J H1 => ∀ D, H1 D = none → Lc J g tt te vs σ H1 D Q) : tLc wi g tt te vs σ H Q := h
theorem lcx_range {lo : Int} {n : Nat} {g : TG} {tt : TT} {te : TE} {vs : List Nat} {σ : L2.St} {H1 : Hp} {D : Addr} {Q : VK} (Pv : Nat → Hp → Prop) (h0 : Pv 0 (upd H1 D (.lst [])))
    (hs : ∀ i H, i < n → Pv i H → g (.int (lo + i)) (wipe σ vs) H fun σ2 H2 => wipe σ2 vs = wipe σ vs ∧ tt σ2 H2 fun b H3 =>
      if b = true then te σ2 H3 fun y H4 => ∃ acc, H4 D = some (.lst acc) ∧ acc.length < sizeLine ∧ Pv (i + 1) (upd H4 D (.lst (acc ++ [y]))) else Pv (i + 1) H3) (hd : ∀ H, Pv n H → Q (.ref D) H) : Lc (Itr lo n) g tt te vs σ H1 D Q :=
  lc_it walk_range Pv h0 (fun _ _ _ _ => trivial) (fun i x H H' hi p y => by
    obtain ⟨rfl, rfl⟩ := y
    exact hs i _ hi p) hd
theorem lcx_list {K : PySem.W.Frag} {a : Addr} {xs : List V} {g : TG} {tt : TT} {te : TE} {vs : List Nat} {σ : L2.St} {H1 : Hp} {D : Addr} {Q : VK} (Pv : Nat → Hp → Prop) (h0 : Pv 0 (upd H1 D (.lst []))) (hl : ∀ i H, i ≤ xs.length → Pv i H → SqL K H a xs)
    (hs : ∀ i x H, xs[i]? = some x → Pv i H → g x (wipe σ vs) H fun σ2 H2 => wipe σ2 vs = wipe σ vs ∧ tt σ2 H2 fun b H3 =>
      if b = true then te σ2 H3 fun y H4 => ∃ acc, H4 D = some (.lst acc) ∧ acc.length < sizeLine ∧ Pv (i + 1) (upd H4 D (.lst (acc ++ [y]))) else Pv (i + 1) H3) (hd : ∀ H, Pv xs.length H → Q (.ref D) H) : Lc (Itl K a) g tt te vs σ H1 D Q :=
  lc_it walk_list Pv h0 hl (fun i x H H' hi p y => by
    obtain ⟨rfl, e⟩ := y
    exact hs i x _ e p) hd
end Fx

set_option Elab.async false
set_option linter.all false
set_option maxRecDepth 100000
/-! Ex: exceptions of the program's own classes, over Ox. -/
namespace Fx
open PySem PySem.Spec PyProof.Rows L2
/-! ### defs that may raise -/
/-- what leaves a def, as its promise says -/
abbrev wOf (E : XK) : WX := fun cls d _ H => E cls d H
section
variable {P : Program} {w : World} {K : PySem.W.Frag} {mg : Str → Option Value} {base : Heap}
theorem tk_of {N : List Str} {qual : Str} {sc : Scope} {f : Addr} {cd : Value} {A : Around} {outer : List Env} {s : Shared} {H : Hp} {E : XK} : Takes (cxOf (L2.CX P w) P w K mg base N qual sc f cd A outer s H E) (wOf E) := takes_of rfl rfl rfl rfl
theorem hasX_of {x qual : Str} {st : Stmt} {N ps : List Str} {k : Nat} {sp : Sp} (A : At K mg x qual st ps) (S : FnScope N ps (defScope st)) (len : ∀ vs H Q E, sp vs H Q E → vs.length = ps.length)
    (hbody : ∀ (cdv : Value) (f : Addr) (A : Around) (outer : List Env) (s : Shared) (H : Hp) (vs : List V) (Q : VK) (E : XK), Room k (A.deeper (envOfC qual (defScope st) s.heap.objs.size f cdv)) → sp vs H Q E →
      ∃ t, PSs (cxOf (L2.CX P w) P w K mg base N qual (defScope st) f cdv A outer s H E) (defBody st) t ∧ t { nx := fun _ H' => Q .non H', rt := Q } (start N vs) H) : Has P w K mg base (L2.CX P w) x (k + 1) ps sp := by
  obtain ⟨f, fd, F, B, G⟩ := A.ex
  exact ⟨f, fd, F.okX S len fun cdv A outer s H vs Q E hr h => hbody cdv f A outer s H vs Q E hr h, B, G, F.kp⟩
theorem hasMX_of {C : Addr} {x qual : Str} {st : Stmt} {N ps : List Str} {k : Nat} {sp : Sp} (A : AtM K C x qual st ps) (S : FnScope N ps (defScope st)) (len : ∀ vs H Q E, sp vs H Q E → vs.length = ps.length)
    (hbody : ∀ (cdv : Value) (f : Addr) (A : Around) (outer : List Env) (s : Shared) (H : Hp) (vs : List V) (Q : VK) (E : XK), Room k (A.deeper (envOfC qual (defScope st) s.heap.objs.size f cdv)) → sp vs H Q E →
      ∃ t, PSs (cxOf (L2.CX P w) P w K mg base N qual (defScope st) f cdv A outer s H E) (defBody st) t ∧ t { nx := fun _ H' => Q .non H', rt := Q } (start N vs) H) : HasM P w K mg base (L2.CX P w) C x (k + 1) ps sp := by
  obtain ⟨f, fd, F, B, G⟩ := A.ex
  exact ⟨f, fd, F.okX S len fun cdv A outer s H vs Q E hr h => hbody cdv f A outer s H vs Q E hr h, B, G⟩
end
section
variable {X : Cx} {CX : CXT} {k : Nat} {C : Addr} {x m : Str} {p pos apos : Pos} {o e : Expr} {es : List Expr} {t : TA} {ta : TE} {ps : List Str} {sp : Sp} {W : WX}
theorem fe_callX (h : Has X.prog X.w X.K X.mg X.base (L2.CX X.prog X.w) x k ps sp) (hr : Room k X.A) (hg : Gl X x) (tk : Takes X W) (ha : PA X (e :: es) t) (hd : (x == ("__debug__" : Str)) = false := by decide)
    (hs : starEach (e :: es) X.env = (false, eval e X.env) :: starEach es X.env := by rfl) (hplain : (backTo pos (starEach es X.env)).any (·.1) = false := by rfl) : PE X (.Call (.Name x p) (e :: es) [] pos) (tCallS sp (WE W) t) := by
  obtain ⟨f, fd, F, B, G, kp⟩ := h.ex
  exact pe_callS F hr hg G kp B (fun σ => passAt tk σ) ha hd hs hplain
theorem fe_callX0 (h : Has X.prog X.w X.K X.mg X.base (L2.CX X.prog X.w) x k ps sp) (hr : Room k X.A) (hg : Gl X x) (tk : Takes X W) (hd : (x == ("__debug__" : Str)) = false := by decide) : PE X (.Call (.Name x p) [] [] pos) (tCallS sp (WE W) tNil) := by
  obtain ⟨f, fd, F, B, G, kp⟩ := h.ex
  refine ⟨fun pins s σ H Q I h => ?_⟩
  refine wpAny_Call_Name_kw (ld_glob I hg G ?_ hd)
  exact PySem.W.callWith_K0 I.kIn kp (run_fnS (us := []) F hr B (passAt tk σ) I .nil h)
theorem isOb_some {a : Addr} {H : Hp} (h : isOb C m (.ref a) H) : ∃ dx fs, H a = some (.ins C dx fs) ∧ fs.lookup m = none := by
  unfold isOb at h
  dsimp only at h
  split at h
  · obtain ⟨rfl, l⟩ := h
    exact ⟨_, _, by assumption, l⟩
  · exact h.elim
def fMethS (C : Addr) (m : Str) (sp : Sp) (E : L2.St → XK) (ta : TE) (t : TA) : TE := fun σ H Q => ta σ H fun x H1 => isOb C m x H1 ∧ t σ H1 fun vs H2 => sp (x :: vs) H2 Q (E σ)
theorem fe_methX {pl : Sem Bool} (h : HasM X.prog X.w X.K X.mg X.base (L2.CX X.prog X.w) C m k ps sp) (c : Cls X.K C) (hr : Room k X.A) (tk : Takes X W) (he : PE X o ta) (ha : PA X (e :: es) t)
    (hst : starEach (e :: es) X.env = (false, eval e X.env) :: starEach es X.env := by rfl) (hpl : (backTo pos (starEach es X.env)).any (·.1) = false := by rfl)
    (ht : eval (.Call (.Attribute o m apos) (e :: es) [] pos) X.env = (do
      let ov ← eval o X.env
      standAt apos.atName
      let (f, first) ← holding [ov] (getMethod ov m pl)
      callWith pos f first (backTo pos (starEach (e :: es) X.env)) (backToKw pos (keywordEach [] X.env))) := by rfl) :
    PE X (.Call (.Attribute o m apos) (e :: es) [] pos) (fMethS C m sp (WE W) ta t) := by
  obtain ⟨f, fd, F, B, M⟩ := h.ex
  refine ⟨fun pins s σ H Q I h => ?_⟩
  refine PySem.W.methodCall_KW (pl := pl) (thn (he.run pins s σ H _ I h) fun u s1 ⟨x, H1, I1, rx, q1, q2⟩ => ?_) ht
  match x, q1, rx, q2 with
  | .ref a, q1, rx, q2 =>
    obtain ⟨dx, fs, ea, l⟩ := isOb_some q1
    · obtain rfl : u = Value.ref a := rx
      refine getmeth_ok I1 ea c M l ?_
      refine PySem.W.callWith_K (first := [.ref a]) (h₀ := X.base) I.ok.mod.kin M.kp (thn (ha.run pos pins s1 σ H1 _ I1 q2) fun us s2 ⟨vs, H2, I2, r, q3⟩ => ⟨I2.kIn, ?_⟩) hst hpl
      exact run_fnS (us := .ref a :: us) (vs := .ref a :: vs) F hr B (passAt tk σ) I2 (.cons rfl r) q3
theorem fe_methX0 {pl : Sem Bool} (h : HasM X.prog X.w X.K X.mg X.base (L2.CX X.prog X.w) C m k ps sp) (c : Cls X.K C) (hr : Room k X.A) (tk : Takes X W) (he : PE X o ta)
    (ht : eval (.Call (.Attribute o m apos) [] [] pos) X.env = (do
      let ov ← eval o X.env
      standAt apos.atName
      let (f, first) ← holding [ov] (getMethod ov m pl)
      callWith pos f first (backTo pos (starEach [] X.env)) (backToKw pos (keywordEach [] X.env))) := by rfl) :
    PE X (.Call (.Attribute o m apos) [] [] pos) (fMethS C m sp (WE W) ta tNil) := by
  obtain ⟨f, fd, F, B, M⟩ := h.ex
  refine ⟨fun pins s σ H Q I h => ?_⟩
  refine PySem.W.methodCall_KW (pl := pl) (thn (he.run pins s σ H _ I h) fun u s1 ⟨x, H1, I1, rx, q1, q2⟩ => ?_) ht
  match x, q1, rx, q2 with
  | .ref a, q1, rx, q2 =>
    obtain ⟨dx, fs, ea, l⟩ := isOb_some q1
    · obtain rfl : u = Value.ref a := rx
      refine getmeth_ok I1 ea c M l ?_
      exact PySem.W.callWith_K0 (first := [.ref a]) I1.kIn M.kp (run_fnS (us := [.ref a]) (vs := [.ref a]) F hr B (passAt tk σ) I1 (.cons rfl .nil) q2)
end
/-! ### exception classes -/
structure ExcFact (K : PySem.W.Frag) (C : Addr) : Prop where
  cls : ∃ nm q N bs bm sn sub ab col dd k0 k1 k2 k3 k5, K.lookup C = some (excClassObj nm q C N bs bm true sn sub ab col dd k0 k1 k2 k3 k5 "ValueError.__new__") ∧ PySem.HandSPX.refsVE bm = true
  sa : PySem.W.findIn K (.ref C) "__setattr__" = some (some (.builtin "object.__setattr__"))
  ga : PySem.W.findIn K (.ref C) "__getattribute__" = some (some (.builtin "BaseException.__getattribute__"))
  gg : PySem.W.findIn K (.ref C) "__getattr__" = some none
  exC : PySem.W.subIn K (.ref C) (.type "BaseException") = some true
  tyC : PySem.W.typeIn K (.ref C) = some (.type "type")
  kC : PySem.W.keepIn K (.ref C) = true
  hdC : PySem.W.hasDictIn K C = true
  ci : PySem.W.findIn K (.ref C) "__class__" = some (some (.builtin "object.__class__"))
  mr : PySem.W.mroIn K C (.type "object") = some true
theorem ExcFact.of {K : PySem.W.Frag} {C : Addr} {nm q N bs bm sn sub ab col dd k0 k1 k2 k3 k5} (l : K.lookup C = some (excClassObj nm q C N bs bm true sn sub ab col dd k0 k1 k2 k3 k5 "ValueError.__new__")) (r : PySem.HandSPX.refsVE bm = true)
    (sa : PySem.W.findIn K (.ref C) "__setattr__" = some (some (.builtin "object.__setattr__"))) (ga : PySem.W.findIn K (.ref C) "__getattribute__" = some (some (.builtin "BaseException.__getattribute__"))) (gg : PySem.W.findIn K (.ref C) "__getattr__" = some none)
    (exC : PySem.W.subIn K (.ref C) (.type "BaseException") = some true) (tyC : PySem.W.typeIn K (.ref C) = some (.type "type")) (kC : PySem.W.keepIn K (.ref C) = true) (hdC : PySem.W.hasDictIn K C = true)
    (ci : PySem.W.findIn K (.ref C) "__class__" = some (some (.builtin "object.__class__"))) (mr : PySem.W.mroIn K C (.type "object") = some true) : ExcFact K C :=
  ⟨⟨nm, q, N, bs, bm, sn, sub, ab, col, dd, k0, k1, k2, k3, k5, l, r⟩, sa, ga, gg, exC, tyC, kC, hdC, ci, mr⟩
theorem ExcFact.oex {K : PySem.W.Frag} {C : Addr} (F : ExcFact K C) : OexC K C := ⟨F.cls, F.sa, F.exC, F.tyC, F.kC⟩
theorem ExcFact.xf {K : PySem.W.Frag} {C : Addr} (F : ExcFact K C) : XfC K C := ⟨F.ga, F.gg, F.exC, F.hdC⟩
/-- __init__ of an exception class as it stands -/
structure AtE (K : PySem.W.Frag) (C : Addr) (qual : Str) (st : Stmt) (ps : List Str) : Prop where
  ex : ∃ (f : Addr) (fd : FuncData), Fun K "__init__" qual st f fd ∧ Binds K fd ps [] ∧ PySem.W.findIn K (.ref C) "__init__" = some (some (.ref f)) ∧ PySem.W.typeIn K (.ref f) = some (.type "function")
structure EFact (K : PySem.W.Frag) (C : Addr) (qual : Str) (st : Stmt) : Prop where
  ex : ∃ (f : Addr) (oc : Value) (od an : Option Addr) (sl : Array (Option Value)) (kV dc pm cd ct : Value),
    PySem.W.findIn K (.ref C) "__init__" = some (some (.ref f)) ∧ K.lookup f = some ⟨oc, od, .func (PySem.W.fnOf "__init__" qual (defArgs st) (defBody st) (defScope st) .none kV dc pm an cd ct), sl⟩ ∧
    PySem.W.codeIn K cd qual = true ∧ PySem.W.keepIn K (.ref f) = true ∧ PySem.W.typeIn K (.ref f) = some (.type "function")
theorem EFact.of {K : PySem.W.Frag} {C : Addr} {qual : Str} {st : Stmt} {f : Addr} {oc : Value} {od an : Option Addr} {sl : Array (Option Value)} {kV dc pm cd ct : Value}
    (a : PySem.W.findIn K (.ref C) "__init__" = some (some (.ref f))) (l : K.lookup f = some ⟨oc, od, .func (PySem.W.fnOf "__init__" qual (defArgs st) (defBody st) (defScope st) .none kV dc pm an cd ct), sl⟩)
    (c : PySem.W.codeIn K cd qual = true) (k : PySem.W.keepIn K (.ref f) = true) (i : PySem.W.typeIn K (.ref f) = some (.type "function")) : EFact K C qual st := ⟨f, oc, od, an, sl, kV, dc, pm, cd, ct, a, l, c, k, i⟩
theorem AtE.of {K : PySem.W.Frag} {C : Addr} {qual : Str} {st : Stmt} {ps : List Str} (F : EFact K C qual st)
    (hb : ∀ (kV doc pm : Value) (an : Option Addr) (cdv ct : Value) (us : List Value), us.length = ps.length → bindArgs (PySem.W.fnOf "__init__" qual (defArgs st) (defBody st) (defScope st) .none kV doc pm an cdv ct) ⟨us, []⟩ = pure (ps.zip us)) : AtE K C qual st ps := by
  obtain ⟨f, oc, od, an, sl, kV, dc, pm, cd, ct, a, l, c, k, i⟩ := F.ex
  have F1 := fun_mk (st := st) l c k
  exact ⟨_, _, F1, F1.binds hb, a, i⟩
/-- what __init__ keeps: two fields -/
def spInitE (C : Addr) (n : Nat) (flds : List V → List (Str × V)) : Sp := fun ws H0 Q _ => ∃ a vs H1, ws = .ref a :: vs ∧ vs.length = n ∧ H1 a = none ∧ H0 = upd H1 a (exo a C none) ∧
  ∀ d H2, H1 d = none → d ≠ a → (∀ b o, H1 b = some o → H2 b = some o) → H2 a = some (exo a C (some d)) → H2 d = some (exd d (flds vs)) → Q .non H2
/-- an exception class whose __init__ keeps its fields -/
structure HasE (P : Program) (w : World) (K : PySem.W.Frag) (mg : Str → Option Value) (base : Heap) (C : Addr) (x : Str) (n : Nat) (flds : List V → List (Str × V)) : Prop where
  ex : ∃ (f : Addr) (fd : FuncData) (ps : List Str), FnOk P w K mg base CX0 1 f fd ps (spInitE C n flds) ∧ Binds K fd ps [] ∧ PySem.W.findIn K (.ref C) "__init__" = some (some (.ref f)) ∧ PySem.W.typeIn K (.ref f) = some (.type "function") ∧ mg x = some (.ref C) ∧ OexC K C
def two (f1 f2 : Str) : List V → List (Str × V)
  | [a, b] => [(f2, b), (f1, a)]
  | _ => []
theorem hasE2 {P : Program} {w : World} {K : PySem.W.Frag} {mg : Str → Option Value} {base : Heap} {C : Addr} {x qual f1 f2 : Str} {st : Stmt} {q1 q2 q3 q4 r1 r2 r3 r4 : Pos} (A : AtE K C qual st ["self", f1, f2]) (S : FnScope ["self", f1, f2] ["self", f1, f2] (defScope st))
    (hb : defBody st = [.Assign [.Attribute (.Name "self" q1) f1 q2] (.Name f1 q3) q4, .Assign [.Attribute (.Name "self" r1) f2 r2] (.Name f2 r3) r4])
    (F : ExcFact K C) (n1 : PySem.W.findIn K (.ref C) f1 = some none) (n2 : PySem.W.findIn K (.ref C) f2 = some none) (g : mg x = some (.ref C)) (d1 : (f1 == ("__debug__" : Str)) = false) (d2 : (f2 == ("__debug__" : Str)) = false)
    (c1 : (f1 == ("__classdict__" : Str)) = false) (c2 : (f2 == ("__classdict__" : Str)) = false) : HasE P w K mg base C x 2 (two f1 f2) := by
  obtain ⟨f, fd, Fn, B, I, Ty⟩ := A.ex
  refine ⟨f, fd, _, ?_, B, I, Ty, g, F.oex⟩
  refine Fn.ok S (fun ws H Q E h => ?_) (fun cdv A outer s H ws Q E hr h => ?_)
  · obtain ⟨a, vs, H1, rfl, hl, _⟩ := h
    show vs.length + 1 = 3
    rw [hl]
  · obtain ⟨a, vs, H1, rfl, hl, na, rfl, k⟩ := h
    match vs, hl, k with
    | [v1, v2], hl, k =>
      have v0 : Vis (defScope st) "self" := (S.par "self" (List.Mem.head _)).elim (fun z => .inl z) (fun z => .inr (.inl z))
      have vis1 : Vis (defScope st) f1 := (S.par f1 (List.Mem.tail _ (List.Mem.head _))).elim (fun z => .inl z) (fun z => .inr (.inl z))
      have vis2 : Vis (defScope st) f2 := (S.par f2 (List.Mem.tail _ (List.Mem.tail _ (List.Mem.head _)))).elim (fun z => .inl z) (fun z => .inr (.inl z))
      rw [hb]
      refine ⟨_, pss_cons (ps_ost (fe_var 0 rfl v0) (fe_var 1 rfl vis1 d1 c1)) (pss_one (ps_ost (fe_var 0 rfl v0) (fe_var 2 rfl vis2 d2 c2))), ?_⟩
      refine ⟨a, C, rfl, F.oex, n1, .inl ⟨upd_same, fun dx ndx nea => ?_⟩⟩
      have hdx : H1 dx = none := by rw [upd_ne nea] at ndx; exact ndx
      refine ⟨a, C, rfl, F.oex, n2, .inr ⟨dx, [(f1, v1)], upd_same, (upd_ne nea).trans upd_same, (show 1 ≤ 900 by decide), ?_⟩⟩
      refine k dx _ hdx nea (fun b o e => ?_) ?_ upd_same
      · rw [upd_ne (ne_of_none e hdx), upd_ne (ne_of_none e na), upd_ne (ne_of_none e hdx), upd_ne (ne_of_none e na)]
        exact e
      · rw [upd_ne (Ne.symm nea)]
        exact upd_same
/-- C(e, ..) -/
def fMkE (C : Addr) (n : Nat) (flds : List V → List (Str × V)) (ta : TA) : L2.St → Hp → XK → Prop := fun σ H Q => ta σ H fun vs H1 => vs.length = n ∧ ∀ d H2, H1 d = none → Same H1 H2 → H2 d = some (.xd (flds vs)) → Q (.ref C) (some d) H2
section
variable {X : Cx} {C : Addr} {x : Str} {n : Nat} {flds : List V → List (Str × V)} {p pos : Pos} {e : Expr} {es : List Expr} {ta : TA}
def closAX (t : TA) : TA := closA t
theorem fmk_e (h : HasE X.prog X.w X.K X.mg X.base C x n flds) (hn : n ≤ 1000) (hr : Room 2 X.A) (hg : Gl X x) (ha : PA X (e :: es) ta) (hdb : (x == ("__debug__" : Str)) = false := by decide)
    (he : starEach (e :: es) X.env = (false, eval e X.env) :: starEach es X.env := by rfl) (hpl : (backTo pos (starEach es X.env)).any (·.1) = false := by rfl) : PMk X (.Call (.Name x p) (e :: es) [] pos) (fMkE C n flds ta) := by
  obtain ⟨f, fd, ps, F, B, I, Ty, g, O⟩ := h.ex
  intro pins s σ H Q Iv q
  refine pmk_oex O I Ty F hr B .nil (fun _ _ _ _ _ _ _ h => h.elim) hg g (pa_clos ha) hdb he hpl pins s σ H Q Iv ⟨_, q, fun vs H1 q => ?_⟩
  obtain ⟨hl, q⟩ := q
  refine ⟨by omega, fun a na => ⟨a, vs, H1, by rw [List.append_nil], hl, na, rfl, fun d H2 nd ne keep ea ed => ⟨rfl, d, flds vs, ea, ed, nd, q d _ nd (fun b o eb => ?_) upd_same⟩⟩⟩
  rw [upd_ne (ne_of_none eb nd), del_ne (ne_of_none eb na)]
  exact keep b o eb
/-- raise C(e, ..) -/
def fRaise (C : Addr) (n : Nat) (flds : List V → List (Str × V)) (W : WX) (ta : TA) : TS := fun _ σ H => ta σ H fun vs H1 => vs.length = n ∧ ∀ d H2, H1 d = none → Same H1 H2 → H2 d = some (.xd (flds vs)) → W (.ref C) (some d) σ H2
theorem fs_raise {W : WX} {pos2 : Pos} (hc : X.calm = true) (tk : Takes X W) (h : HasE X.prog X.w X.K X.mg X.base C x n flds) (hn : n ≤ 1000) (hr : Room 2 X.A) (hg : Gl X x) (ha : PA X (e :: es) ta) (hdb : (x == ("__debug__" : Str)) = false := by decide)
    (he : starEach (e :: es) X.env = (false, eval e X.env) :: starEach es X.env := by rfl) (hpl : (backTo pos (starEach es X.env)).any (·.1) = false := by rfl) : PS X (.Raise (some (.Call (.Name x p) (e :: es) [] pos)) none pos2) (fRaise C n flds W ta) :=
  ps_raise hc tk (fmk_e h hn hr hg ha hdb he hpl)
end
/-- the way out of a def: an exception of class C with two fields -/
def Out (C : Addr) (H : Hp) (fs : List (Str × V)) (E : XK) : Prop := ∀ d H2, H d = none → Same H H2 → H2 d = some (.xd fs) → E (.ref C) (some d) H2
theorem Out.same {C : Addr} {H H1 : Hp} {fs : List (Str × V)} {E : XK} (h : Out C H fs E) (s : Same H H1) : Out C H1 fs E := fun d H2 nd s2 e => h d H2 (by
  cases q : H d with
  | none => rfl
  | some o => rw [s _ _ q] at nd; cases nd) (s.trans s2) e
/-! ### the suite -/
/-- e.f, e the caught one -/
def fXf (a : Addr) (cls : Value) (d : Option Addr) (cs : List Addr) (f : Str) (te : TE) : TE := fun σ H Q => te σ H fun x H1 => x = .ref a ∧ match cls, d with
  | .ref C, some dd => C ∈ cs ∧ match H1 dd with
    | some (.xd fs) => match fs.lookup f with
      | some v => Q v H1
      | none => False
    | _ => False
  | _, _ => False
def XPlain (K : PySem.W.Frag) (cs : List Addr) (f : Str) : Prop := ∀ C ∈ cs, XfC K C ∧ PySem.W.findIn K (.ref C) f = some none
theorem fe_xf {X : Cx} {a : Addr} {cs : List Addr} {oe : Obj} {cls : Value} {d : Option Addr} {pn : List (Addr × Obj)} {e : Expr} {te : TE} {pos : Pos} {n : Str} (T : XPlain X.K cs n)
    (hz : Zc cls d oe) (hf : ∃ vs, oe.data = .fields vs) (he : PE (X.suite a ((a, oe) :: pn)) e te) (hb : attributeBase e n X.env (eval e X.env) = eval e X.env) :
    PE (X.suite a ((a, oe) :: pn)) (.Attribute e n pos) (fXf a cls d cs n te) := by
  refine ⟨fun pins s σ H Q I h => ?_⟩
  refine attr_of hb (thn (he.run pins s σ H _ I h) fun u s1 hh => ?_)
  obtain ⟨x, H1, I1, rx, ex, q⟩ := hh
  subst ex
  obtain rfl : u = Value.ref a := rx
  split at q
  · rename_i C dd
    obtain ⟨m, q⟩ := q
    split at q
    · rename_i fs ea
      split at q
      · rename_i v l
        obtain ⟨ha, _⟩ := I1.pin (a, oe) (List.mem_append_left _ List.mem_cons_self)
        obtain ⟨vs, hd⟩ := hf
        have hx : ObjOk X.prog X.w H1 s1.heap dd (.xd fs) := I1.hok dd _ ea
        obtain ⟨mA, hns, hr⟩ := hx
        obtain ⟨od, ho, hl⟩ := lookIn_ns hns
        obtain ⟨u, hu, ru⟩ := RelO.some_of (v := v) (o := mA n) (by rw [← l]; exact hr n)
        have J : PySem.W.InstAt s1.heap a oe C (some od) := ⟨ha, hz.1, by unfold PySem.W.notCls; rw [hd] <;> rfl, by rw [hz.2]; exact ho⟩
        exact HandSPX.exc_get I1.kIn J (T C m).1.ga (T C m).1.gg (T C m).1.exC (PySem.W.findObj_own (T C m).1.hdC (T C m).2 rfl (by rw [hl, hu])) (handed_of ru) ⟨v, H1, I1.tok _, ru, q⟩
      · exact q.elim
    · exact q.elim
  · exact q.elim
/-- isinstance(e, C), e the caught one -/
structure XKit (K : PySem.W.Frag) (cs ds : List Addr) : Prop where
  f : ∀ C ∈ cs, ExcFact K C
  ob : ObjFact K
  k : ∀ C ∈ cs, ∀ D ∈ ds, ∃ b, PySem.W.kitOne K (.ref C) (.ref D) = some b
def fIsE (K : PySem.W.Frag) (a : Addr) (cls : Value) (d : Option Addr) (cs : List Addr) : List V → Hp → VK → Prop := fun xs H Q => match xs with
  | [x, .ref D] => x = .ref a ∧ (match cls with | .ref C => C ∈ cs | _ => False) ∧ (match d with | none => True | some dd => match H dd with | some (.xd _) => True | _ => False) ∧ ∃ b, PySem.W.kitOne K cls (.ref D) = some b ∧ Q (.bl b) H
  | _ => False
theorem call_fIsE {X : Cx} {a : Addr} {cls : Value} {d : Option Addr} {cs : List Addr} {oe : Obj} {pn : List (Addr × Obj)} (F : ∀ C ∈ cs, ExcFact X.K C) (ob : ObjFact X.K) (hz : Zc cls d oe) (hf : ∃ vs, oe.data = .fields vs) :
    CallR (X.suite a ((a, oe) :: pn)) (.builtin "isinstance") (fIsE X.K a cls d cs) := by
  intro pins s σ H xs us Q I r h
  match xs, r, h with
  | [x, .ref D], r, h =>
    obtain ⟨rfl, hc, hd, b, e, q⟩ := h
    match cls, hc, hz, e with
    | .ref C, hc, hz, e =>
      cases r with
      | cons rx rr =>
        cases rr with
        | cons rt rr =>
          cases rr
          cases rx
          cases rt
          obtain ⟨hget, _⟩ := I.pin (a, oe) (List.mem_append.mpr (.inl List.mem_cons_self))
          obtain ⟨vs, hv⟩ := hf
          have FC := F C hc
          have hcl : (PySem.W.clsIn X.K C).isSome = true := by
            obtain ⟨cd, hcd, _⟩ := PySem.W.any_some FC.hdC
            rw [hcd]; rfl
          have hJ : ∃ od, PySem.W.InstAt s.heap a oe C od := by
            cases d with
            | none =>
              refine ⟨none, hget, hz.1, ?_, ?_⟩
              · unfold PySem.W.notCls; rw [hv] <;> rfl
              · rw [hz.2]; trivial
            | some dd =>
              dsimp only at hd
              split at hd
              · rename_i fs ea
                have hx : ObjOk X.prog X.w H s.heap dd (.xd fs) := I.hok dd _ ea
                obtain ⟨mA, hns, hr⟩ := hx
                obtain ⟨od, ho, hl⟩ := lookIn_ns hns
                exact ⟨some od, hget, hz.1, by unfold PySem.W.notCls; rw [hv] <;> rfl, by rw [hz.2]; exact ho⟩
              · exact hd.elim
          obtain ⟨od, J⟩ := hJ
          exact PySem.W.kia_one (PySem.W.kitx_exc hcl FC.ga FC.gg FC.exC FC.ci ob.gd ob.tk FC.mr) I.kIn J e (fun z => nomatch z) fun tk => ⟨.bl b, H, I.kept (t' := tk) fun _ _ z => z, rfl, q⟩
/-! ### parts that are never reached -/
section
variable {X : Cx}
def fDead : TE := fun _ _ _ => False
def sDead : TS := fun _ _ _ => False
theorem pe_dead {e : Expr} : PE X e fDead := ⟨fun _ _ _ _ _ _ h => h.elim⟩
theorem ps_dead {st : Stmt} : PS X st sDead := ⟨fun _ _ _ _ _ _ h => h.elim⟩
/-! ### truth by value -/
def fTru (K : PySem.W.Frag) (ta : TE) : TT := fun σ H Q => ta σ H fun x H1 => match x with
  | .non => Q false H1
  | .bl b => Q b H1
  | .int i => Q (!decide (i = 0)) H1
  | .str z => z.length ≤ sizeLine ∧ Q (!decide (z.length = 0)) H1
  | .ref p => ∃ xs, Rl K H1 p xs ∧ Q (!xs.isEmpty) H1
  | _ => False
theorem pt_fTru {a : Expr} {ta : TE} (ha : PE X a ta) (he : ∀ whole, isTrue a X.env whole = (do let v ← whole; standAt a.pos; holding [v] (truthy v))) : PT X a (fTru X.K ta) := by
  refine pt_wk (pt_truth (pe_clos ha) he) fun σ H Q q => ⟨_, q, fun x H1 q => ?_⟩
  split at q
  · exact ⟨_, rfl, q⟩
  · exact ⟨_, rfl, q⟩
  · refine ⟨_, rfl, ?_⟩
    rename_i i
    have e : (i != 0) = !decide (i = 0) := by by_cases h : i = 0 <;> simp [h]
    rw [e]; exact q
  · refine ⟨_, ⟨q.1, rfl⟩, ?_⟩
    rename_i z
    have e : ((z.length : Int) != 0) = !decide (z.length = 0) := by by_cases h : z.length = 0 <;> simp [h]
    rw [e]; exact q.2
  · obtain ⟨xs, r, q⟩ := q
    rcases r with r | r
    · exact ⟨_, .inl ⟨xs, r, rfl⟩, q⟩
    · exact ⟨_, .inr (.inl ⟨xs, r, rfl⟩), q⟩
  · exact q.elim
/-! ### f-strings -/
def fFmt (te : TE) : TE := fun σ H Q => te σ H fun x H1 => match x with
  | .str y => y.length ≤ sizeLine ∧ Q (.str y) H1
  | .int i => i.natAbs.log2 < 1920 ∧ Q (.str (toString i)) H1
  | _ => False
theorem fe_fmt {e : Expr} {te : TE} {pos : Pos} (he : PE X e te) : PE X (.FormattedValue e (-1) none pos) (fFmt te) := pe_wk (pe_fmt (pe_clos he)) fun σ H Q q => ⟨_, q, fun x H1 q => by
  split at q
  · exact .inl ⟨_, rfl, q⟩
  · exact .inr ⟨_, rfl, q⟩
  · exact q.elim⟩
inductive PF (X : Cx) : List Expr → List TE → Prop where
  | nil : PF X [] []
  | cons {e : Expr} {t : TE} {es : List Expr} {ts : List TE} (h : PE X e t) (r : PF X es ts) : PF X (e :: es) (t :: ts)
theorem PF_nil : PF X [] [] := .nil
theorem pf_cons {e : Expr} {t : TE} {es : List Expr} {ts : List TE} (h : PE X e t) (r : PF X es ts) : PF X (e :: es) (t :: ts) := .cons h r
def fJs : List TE → Str → L2.St → Hp → (Str → Hp → Prop) → Prop
  | [], acc, _, H, Q => Q acc H
  | t :: ts, acc, σ, H, Q => t σ H fun x H1 => match x with
    | .str y => (acc ++ y).length ≤ sizeLine ∧ fJs ts (acc ++ y) σ H1 Q
    | _ => False
theorem pf_pj {es : List Expr} {ts : List TE} (h : PF X es ts) : PJ X es (ts.map clos) := by
  induction h with
  | nil => exact .nil
  | cons h r ih => exact .cons (pe_clos h) ih
theorem fJs_to : ∀ {ts : List TE} {acc : Str} {σ : L2.St} {H : Hp} {Q : Str → Hp → Prop}, fJs ts acc σ H Q → tJs (ts.map clos) acc σ H Q
  | [], _, _, _, _, h => h
  | t :: ts, acc, σ, H, Q, h => ⟨_, h, fun x H1 q => by
    split at q
    · exact ⟨_, rfl, q.1, fJs_to q.2⟩
    · exact q.elim⟩
def fJoined (ts : List TE) : TE := fun σ H Q => fJs ts Str.empty σ H fun out H1 => Q (.str out) H1
theorem fe_joined {v1 v2 : Expr} {rest : List Expr} {ts : List TE} {pos : Pos} (h : PF X (v1 :: v2 :: rest) ts) : PE X (.JoinedStr (v1 :: v2 :: rest) pos) (fJoined ts) := by
  have h2 := pf_pj h
  exact pe_wk (pe_joined h2) fun σ H Q q => fJs_to q
/-- // by any divisor but 0 -/
def fDivZ : R2 := fun x y H Q => match x, y with
  | .int i, .int j => (j ≠ 0 ∧ j.natAbs.log2 < 9000) ∧ Q (.int (Int.fdiv i j)) H
  | _, _ => False
theorem op_fDivZ : OpR X (binaryOp .FloorDiv) fDivZ := by
  intro pins s σ H x y v u Q I rx ry h
  match x, y, rx, ry, h with
  | .int i, .int j, ⟨t, e⟩, ⟨t', e'⟩, ⟨hc, q⟩ =>
    subst e e'
    exact floordiv_int hc.1 ⟨.int _, H, I.tok _, ⟨_, rfl⟩, q⟩ (.inl (PyProof.noPylong_of_log2 hc.2))
end
theorem WE_wOf {E : XK} {σ : L2.St} : WE (wOf E) σ = E := rfl
/-! ### dicts of the module, text keys -/
def EntOk (K : PySem.W.Frag) (d : Addr) : Str × Option V → Prop
  | (z, none) => PySem.W.nsIn K d z = some none
  | (z, some v) => ∃ u, PySem.W.nsIn K d z = some (some u) ∧ RelV v u
theorem ent_none {K : PySem.W.Frag} {d : Addr} {z : Str} (h : PySem.W.nsIn K d z = some none) : EntOk K d (z, none) := h
theorem ent_str {K : PySem.W.Frag} {d : Addr} {z x : Str} {t : Tok} (h : PySem.W.nsIn K d z = some (some (.str x t))) : EntOk K d (z, some (.str x)) := ⟨_, h, _, rfl⟩
theorem ent_int {K : PySem.W.Frag} {d : Addr} {z : Str} {x : Int} {t : Tok} (h : PySem.W.nsIn K d z = some (some (.int x t))) : EntOk K d (z, some (.int x)) := ⟨_, h, _, rfl⟩
structure DAt (K : PySem.W.Frag) (w : World) (d : Addr) (ks : List (Str × Option V)) : Prop where
  ex : ∃ es n, KDict K w d es n
  en : ∀ p ∈ ks, EntOk K d p
def GDict (K : PySem.W.Frag) (w : World) (mg : Str → Option Value) (x : Str) (ks : List (Str × Option V)) : Prop := ∃ d, mg x = some (.ref d) ∧ DAt K w d ks
structure GDictF (K : PySem.W.Frag) (w : World) (x : Str) (ks : List (Str × Option V)) : Prop where
  ex : ∃ d, PySem.W.nsIn K mainGlobals x = some (some (.ref d)) ∧ DAt K w d ks
theorem GDictF.of {K : PySem.W.Frag} {w : World} {x : Str} {ks : List (Str × Option V)} {d : Addr} {es : Array DictEntry} {n : Nat} (h1 : PySem.W.nsIn K mainGlobals x = some (some (.ref d))) (h2 : K.lookup d = some ⟨.type "dict", none, .dict es n, #[]⟩)
    (h3 : PySem.W.KeysLit w.params es.toList) (h4 : (d == sysModules) = false) (h5 : ∀ p ∈ ks, EntOk K d p) : GDictF K w x ks := ⟨d, h1, ⟨es, n, h2, h3, h4⟩, h5⟩
theorem GDictF.get {K : PySem.W.Frag} {w : World} {mg : Str → Option Value} {x : Str} {ks : List (Str × Option V)} {h : Heap} (X : K.In h) (G : h.Ns mainGlobals mg) (F : GDictF K w x ks) : GDict K w mg x ks := by
  obtain ⟨d, h1, h2⟩ := F.ex
  exact ⟨d, PySem.W.mg_of X G h1, h2⟩
theorem ent_at {K : PySem.W.Frag} {w : World} {d : Addr} {z : Str} {o : Option V} : ∀ {ks : List (Str × Option V)}, (∀ p ∈ ks, EntOk K d p) → ks.lookup z = some o → EntOk K d (z, o)
  | [], _, h => by cases h
  | (y, p) :: ks, hk, h => by
    rw [List.lookup_cons] at h
    split at h
    · rename_i e
      cases h
      have e' := eq_of_beq e
      subst e'
      exact hk _ (List.mem_cons_self ..)
    · exact ent_at (w := w) (fun q hq => hk q (List.mem_cons_of_mem _ hq)) h
def fGd_ (K : PySem.W.Frag) (w : World) (ks : List (Str × Option V)) : TE := fun _ H Q => ∀ d, DAt K w d ks → Q (.ref d) H
section
variable {X : Cx}
theorem fe_gdict {x : Str} {pos : Pos} {ks : List (Str × Option V)} (hg : Gl X x) (h : GDict X.K X.w X.mg x ks) (hd : (x == ("__debug__" : Str)) = false := by decide) : PE X (.Name x pos) (fGd_ X.K X.w ks) := by
  obtain ⟨d, h, hs⟩ := h
  exact pe_wk (pe_glob hg h (v := .ref d) rfl hd) fun σ H Q q => q d hs
/-- z in D, D a dict of the module -/
def fInD (K : PySem.W.Frag) (w : World) (neg : Bool) : R2 := fun x y H Q => match x, y with
  | .str z, .ref d => ∃ ks o, DAt K w d ks ∧ ks.lookup z = some o ∧ Q (.bl (if neg = true then !o.isSome else o.isSome)) H
  | _, _ => False
theorem op_fInD : OpR X (compareOp .In) (fInD X.K X.w false) := by
  intro pins s σ H x y v u Q I rx ry h
  match x, y, rx, ry, h with
  | .str z, .ref d, rx, ry, ⟨ks, o, D, e, q⟩ =>
    obtain ⟨es, n, kd⟩ := D.ex
    have en := ent_at (w := X.w) D.en e
    cases o with
    | none => exact op_in_kd kd pins s σ H _ _ v u Q I rx ry ⟨z, none, rfl, rfl, en, q⟩
    | some v =>
      obtain ⟨u0, e0, _⟩ := en
      exact op_in_kd kd pins s σ H _ _ _ u Q I rx ry ⟨z, some u0, rfl, rfl, e0, q⟩
theorem op_fNotInD : OpR X (compareOp .NotIn) (fInD X.K X.w true) := by
  intro pins s σ H x y v u Q I rx ry h
  match x, y, rx, ry, h with
  | .str z, .ref d, rx, ry, ⟨ks, o, D, e, q⟩ =>
    obtain ⟨es, n, kd⟩ := D.ex
    have en := ent_at (w := X.w) D.en e
    cases o with
    | none => exact op_notIn_kd kd pins s σ H _ _ v u Q I rx ry ⟨z, none, rfl, rfl, en, q⟩
    | some v =>
      obtain ⟨u0, e0, _⟩ := en
      exact op_notIn_kd kd pins s σ H _ _ _ u Q I rx ry ⟨z, some u0, rfl, rfl, e0, q⟩
/-- D[z], D a dict of the module -/
def fIxD (K : PySem.W.Frag) (w : World) : R2 := fun x y H Q => match x, y with
  | .ref d, .str z => ∃ ks v, DAt K w d ks ∧ ks.lookup z = some (some v) ∧ Q v H
  | _, _ => False
theorem ix_fxD : IxR X (fIxD X.K X.w) := by
  intro e1 e2 pins s σ H x y v u Q I rx ry h hs
  match x, y, rx, ry, h with
  | .ref d, .str z, rx, ry, ⟨ks, r, D, e, q⟩ =>
    obtain ⟨es, n, kd⟩ := D.ex
    obtain ⟨u0, e0, r0⟩ := ent_at (w := X.w) D.en e
    exact ix_kdict e1 e2 pins s σ H (.ref d) (.str z) v u Q I rx ry ⟨d, z, r, rfl, rfl, ⟨es, n, u0, kd.at_, kd.lit, e0, r0⟩, q⟩ hs
end
/-! ### scalars as data -/
def dV : V → PyData
  | .non => .none
  | .bl b => .bool b
  | .int i => .int i
  | .str z => .str z
  | _ => .none
def scV : V → Bool
  | .non => true
  | .bl _ => true
  | .int _ => true
  | .str _ => true
  | _ => false
theorem dpAll_sc {K : PySem.W.Frag} {H : Hp} : ∀ {xs : List V}, xs.all scV = true → DpAll K H xs (xs.map dV)
  | [], _ => .nil
  | x :: xs, h => by
    rw [List.all_cons, Bool.and_eq_true] at h
    refine .cons ?_ (dpAll_sc h.2)
    obtain ⟨h1, _⟩ := h
    cases x <;> first
      | exact .non
      | exact .bl _
      | exact .int _
      | exact .str _
      | (exact absurd h1 (by decide))
      | (cases h1)
theorem all_okd {xs : List V} (h : xs.all scV = true) : PyData.plainAll (xs.map dV) = true ∧ PyData.depthAll (xs.map dV) = 0 := by
  induction xs with
  | nil => exact ⟨rfl, rfl⟩
  | cons x xs ih =>
    rw [List.all_cons, Bool.and_eq_true] at h
    obtain ⟨i1, i2⟩ := ih h.2
    obtain ⟨h1, _⟩ := h
    have : (dV x).plain = true ∧ (dV x).depth = 0 := by cases x <;> first | exact ⟨rfl, rfl⟩ | cases h1
    rw [List.map_cons, PyData.plainAll, PyData.depthAll, this.1, this.2, i1, i2]
    exact ⟨rfl, rfl⟩
theorem tup_okd {xs : List V} (h : xs.all scV = true) : okd (.tuple (xs.map dV)) = true := by
  obtain ⟨h1, h2⟩ := all_okd h
  unfold okd
  rw [Bool.and_eq_true]
  exact ⟨by rw [PyData.plain]; exact h1, decide_eq_true (by rw [PyData.depth, h2]; decide)⟩
theorem lst_okd {xs : List V} (h : xs.all scV = true) : okd (.list (xs.map dV)) = true := by
  obtain ⟨h1, h2⟩ := all_okd h
  unfold okd
  rw [Bool.and_eq_true]
  exact ⟨by rw [PyData.plain]; exact h1, decide_eq_true (by rw [PyData.depth, h2]; decide)⟩
theorem tup_eqv {xs : List V} (h : xs.all scV = true) : PyData.eqv (.tuple (xs.map dV)) (.tuple (xs.map dV)) = true := SeqAt.eqv_refl_plain _ (by rw [PyData.plain]; exact (all_okd h).1)
theorem lst_eqv {xs : List V} (h : xs.all scV = true) : PyData.eqv (.list (xs.map dV)) (.list (xs.map dV)) = true := SeqAt.eqv_refl_plain _ (by rw [PyData.plain]; exact (all_okd h).1)
/-- two tuples of the same scalars are equal -/
theorem tup_same {K : PySem.W.Frag} {H : Hp} {p q : Addr} {xs : List V} (hp : SqT K H p xs) (hq : SqT K H q xs) (h : xs.all scV = true) {R : Bool → Prop} (k : R true) :
    ∃ d, Dp K H (.ref p) d ∧ ∃ e, Dp K H (.ref q) e ∧ okd d = true ∧ okd e = true ∧ R (PyData.eqv d e) :=
  ⟨_, .tup hp (dpAll_sc h), _, .tup hq (dpAll_sc h), tup_okd h, tup_okd h, by rw [tup_eqv h]; exact k⟩
theorem lst_same {K : PySem.W.Frag} {H : Hp} {p q : Addr} {xs : List V} (hp : SqL K H p xs) (hq : SqL K H q xs) (h : xs.all scV = true) {R : Bool → Prop} (k : R true) :
    ∃ d, Dp K H (.ref p) d ∧ ∃ e, Dp K H (.ref q) e ∧ okd d = true ∧ okd e = true ∧ R (PyData.eqv d e) :=
  ⟨_, .lst hp (dpAll_sc h), _, .lst hq (dpAll_sc h), lst_okd h, lst_okd h, by rw [lst_eqv h]; exact k⟩
end Fx

set_option Elab.async false
set_option linter.all false
set_option maxRecDepth 100000
/-! Tb: dicts whose keys are tuples of scalars (None and truth values among them), over Ex. -/
namespace Fx
open PySem PySem.Spec PyProof.Rows L2
def leafK : V → NestedKey
  | .bl b => .num (if b = true then 1 else 0)
  | .int i => .num i
  | .str z => .text z
  | _ => .none
/-- a tuple of scalars as a key -/
def tupK (xs : List V) : NestedKey := .tup (xs.map leafK)
abbrev NEnt := NestedKey × Addr × V
abbrev PU : List NEnt → List (NestedKey × Addr × Value) → Prop := Paired fun e u => e.1 = u.1 ∧ e.2.1 = u.2.1 ∧ RelV e.2.2 u.2.2
def atN (es : List NEnt) (k : NestedKey) : Option V := (es.find? fun e => decide (e.1 = k)).map (·.2.2)
def putN (es : List NEnt) (k : NestedKey) (a : Addr) (v : V) : List NEnt := if (atN es k).isSome = true then es.map (fun e => if e.1 = k then (e.1, e.2.1, v) else e) else es ++ [(k, a, v)]
def dropN (es : List NEnt) (k : NestedKey) : List NEnt := es.filter fun e => decide (e.1 ≠ k)
theorem PU.at {es : List NEnt} {us : List (NestedKey × Addr × Value)} (h : PU es us) (k : NestedKey) : RelO (atN es k) ((atKey us k).map (·.2)) := by
  induction h with
  | nil => exact True.intro
  | @cons p q ps qs h t ih =>
    obtain ⟨h1, h2, h3⟩ := h
    by_cases e : p.1 = k
    · have e' : q.1 = k := h1.symm.trans e
      have a : atN (p :: ps) k = some p.2.2 := by simp [atN, List.find?_cons, e]
      have b : atKey (q :: qs) k = some q.2 := by simp [atKey, List.find?_cons, e']
      rw [a, b]; exact h3
    · have e' : ¬ q.1 = k := fun z => e (h1.trans z)
      have a : atN (p :: ps) k = atN ps k := by simp [atN, List.find?_cons, e]
      have b : atKey (q :: qs) k = atKey qs k := by simp [atKey, List.find?_cons, e']
      rw [a, b]; exact ih
theorem PU.put {es : List NEnt} {us : List (NestedKey × Addr × Value)} (h : PU es us) (k : NestedKey) (a : Addr) {v : V} {u : Value} (rv : RelV v u) : PU (putN es k a v) (storedH us k a u) := by
  have e : (atN es k).isSome = (atKey us k).isSome := by rw [(h.at k).isSome_eq, Option.isSome_map]
  unfold putN storedH
  rw [e]
  by_cases q : (atKey us k).isSome = true
  · rw [if_pos q, if_pos q]
    clear q e
    induction h with
    | nil => exact .nil
    | @cons p q ps qs h t ih =>
      rw [List.map_cons, List.map_cons]
      refine .cons ?_ ih
      obtain ⟨h1, h2, h3⟩ := h
      unfold putAt
      by_cases e : p.1 = k
      · rw [if_pos e, if_pos (h1.symm.trans e)]; exact ⟨h1, h2, rv⟩
      · rw [if_neg e, if_neg (fun z => e (h1.trans z))]; exact ⟨h1, h2, h3⟩
  · rw [if_neg q, if_neg q]
    exact Paired.snoc h ⟨rfl, rfl, rv⟩
theorem PU.drop {es : List NEnt} {us : List (NestedKey × Addr × Value)} (h : PU es us) (k : NestedKey) : PU (dropN es k) (withoutH us k) := by
  unfold dropN withoutH
  induction h with
  | nil => exact .nil
  | @cons p q ps qs h t ih =>
    obtain ⟨h1, h2, h3⟩ := h
    rw [List.filter_cons, List.filter_cons]
    by_cases e : p.1 = k
    · have a : ¬ decide (p.1 ≠ k) = true := by simp [e]
      have b : ¬ decide (q.1 ≠ k) = true := by simp [h1.symm.trans e]
      rw [if_neg a, if_neg b]; exact ih
    · have e' : ¬ q.1 = k := fun z => e (h1.trans z)
      have a : decide (p.1 ≠ k) = true := by simp [e]
      have b : decide (q.1 ≠ k) = true := by simp [e']
      rw [if_pos a, if_pos b]; exact .cons ⟨h1, h2, h3⟩ ih
theorem putN_len (es : List NEnt) (k : NestedKey) (a : Addr) (v : V) : (putN es k a v).length ≤ es.length + 1 := by
  unfold putN
  split
  · rw [List.length_map]; omega
  · rw [List.length_append, List.length_cons, List.length_nil]; omega
/-- such a dict -/
def nkO (w : World) (d : Addr) (es : List NEnt) : HO := .ext fun h => es.length ≤ sizeLine ∧ (d == sysModules) = false ∧ ∃ us, PU es us ∧ ∃ o en ep, h.get? d = some o ∧ o.ExactDict ∧ o.data = .dict en ep ∧
  en.toList = us.map (fun u => (⟨u.1.hash w, .ref u.2.1, u.2.2⟩ : DictEntry)) ∧ (us.map (·.1)).Nodup
theorem nkO_ne_tup {w : World} {d : Addr} {es : List NEnt} {xs : List V} : nkO w d es ≠ .tup xs := fun z => by
  have z' : HO.ext _ = HO.tup xs := z
  cases z'
/-- the key's own tuple -/
def KeyT (H : Hp) (k : NestedKey) (a : Addr) : Prop := ∃ xs, H a = some (.tup xs) ∧ xs.all scV = true ∧ k = tupK xs
structure DN (w : World) (H : Hp) (d : Addr) (es : List NEnt) : Prop where
  rd : Rd H d (nkO w d es)
  ks : ∀ e ∈ es, KeyT H e.1 e.2.1
theorem KeyT.mono {H H' : Hp} {k : NestedKey} {a : Addr} (h : KeyT H k a) (s : ∀ b xs, H b = some (.tup xs) → H' b = some (.tup xs)) : KeyT H' k a := h.imp fun _ ⟨e, r⟩ => ⟨s _ _ e, r⟩
section
variable {P : Program} {w : World} {H : Hp} {h : Heap} {a d : Addr} {es : List NEnt}
theorem nested_leaf {x : V} {u : Value} (r : RelV x u) (hs : scV x = true) : NestedIs h (leafK x) u := by
  cases x <;> first
    | (cases r; exact .none)
    | (cases r; exact .bool rfl)
    | (obtain ⟨t, rfl⟩ := r; exact .int _ t)
    | (obtain ⟨t, rfl⟩ := r; exact .text _ t)
    | cases hs
theorem nested_all : ∀ {xs : List V} {us : List Value}, Vals xs us → xs.all scV = true → NestedAll h (xs.map leafK) us
  | _, _, .nil, _ => .nil
  | _, _, .cons r t, hs => by
    rw [List.all_cons, Bool.and_eq_true] at hs
    exact .cons (nested_leaf r hs.1) (nested_all t hs.2)
theorem leaf_depth (x : V) : (leafK x).depth = 0 := by cases x <;> rfl
theorem leaf_depths : ∀ xs : List V, NestedKey.depthAll (xs.map leafK) = 0
  | [] => rfl
  | x :: xs => by rw [List.map_cons, NestedKey.depthAll, leaf_depth, leaf_depths xs]; rfl
theorem KeyT.is {k : NestedKey} (ok : HOk P w H h) (e : KeyT H k a) : (nestedKind P w).is h k a := by
  obtain ⟨xs, e, hs, rfl⟩ := e
  obtain ⟨_, its, r, o, h1, h2, n, h3⟩ := (show ObjOk P w H h a (.tup xs) from ok a _ e)
  refine ⟨.tup h1 h2 h3 (by simpa using nested_all r hs), ?_⟩
  show NestedKey.depthAll (xs.map leafK) + 1 ≤ 8
  rw [leaf_depths]; decide
theorem DN.of (D : DN w H d es) (ok : HOk P w H h) : es.length ≤ sizeLine ∧ (d == sysModules) = false ∧ ∃ us, PU es us ∧ h.DictOfH (nestedKind P w) d us := by
  have x : ObjOk P w H h d (nkO w d es) := D.rd.ok ok
  obtain ⟨⟨z, hd, us, r, o, en, ep, h1, h2, h3, h4, h5⟩, _⟩ := x
  refine ⟨z, hd, us, r, o, en, ep, h1, h2, h3, h4, ?_, h5⟩
  intro x hx
  have all : ∀ {l : List NEnt} {m : List (NestedKey × Addr × Value)}, PU l m → (∀ e ∈ l, KeyT H e.1 e.2.1) → ∀ x ∈ m, (nestedKind P w).is h x.1 x.2.1 := by
    intro l m q
    induction q with
    | nil => intro _ x hx; exact nomatch hx
    | @cons p q ps qs hq t ih =>
      intro hk x hx
      rcases List.mem_cons.mp hx with e | hx
      · subst e
        have := (hk p (List.mem_cons_self ..)).is ok
        rw [hq.1, hq.2.1] at this
        exact this
      · exact ih (fun e he => hk e (List.mem_cons_of_mem _ he)) x hx
  exact all r D.ks x hx
theorem nkO_ok {us : List (NestedKey × Addr × Value)} (z : es.length ≤ sizeLine) (hd : (d == sysModules) = false) (r : PU es us) (dd : h.DictOfH (nestedKind P w) d us) : ObjOk P w H h d (nkO w d es) := by
  obtain ⟨o, en, ep, h1, h2, h3, h4, _, h5⟩ := dd
  exact ⟨⟨z, hd, us, r, o, en, ep, h1, h2, h3, h4, h5⟩, ⟨o, h1⟩, fun g1 g2 ⟨_, _, us', r', o', en', ep', k1, k2, k3, k4, k5⟩ k => ⟨z, hd, us', r', o', en', ep', k _ k1, k2, k3, k4, k5⟩⟩
end
section
variable {X : Cx} {pins : List (Addr × Obj)} {σ : L2.St} {H : Hp} {s : Shared} {d q : Addr} {es : List NEnt} {xs : List V} {A : Around} {E : Value → Shared → Prop}
theorem room_n (hu : A.units + 64 < cLine) : (nestedKind X.prog X.w).room A.in1 := by
  show A.units + 1 + 8 < cLine
  omega
theorem n_getItem {v : V} {Q : Value → Shared → Prop} (hu : A.units + 64 < cLine) (I : Inv X pins σ H s) (D : DN X.w H d es) (hq : KeyT H (tupK xs) q) (e : atN es (tupK xs) = some v) (h : ∀ w' s', Inv X pins σ H s' → RelV v w' → Q w' s') :
    wpAny (model X.prog X.w) A (getItem (.ref d) (.ref q)) Q E s := by
  obtain ⟨z, hd, us, r, dd⟩ := D.of I.hok
  obtain ⟨w', hw, rw'⟩ := RelO.some_of (v := v) (o := (atKey us (tupK xs)).map (·.2)) (by rw [← e]; exact r.at _)
  obtain ⟨p, hp, hp2⟩ := Option.map_eq_some_iff.mp hw
  refine wpAny_getItem_heap (room_n hu) (hq.is I.hok) dd hp ?_
  rw [hp2]
  exact h w' _ (I.tok _) rw'
theorem n_in {Q : Value → Shared → Prop} (hu : A.units + 64 < cLine) (I : Inv X pins σ H s) (D : DN X.w H d es) (hq : KeyT H (tupK xs) q) (h : ∀ s', Inv X pins σ H s' → Q (.bool (atN es (tupK xs)).isSome) s') :
    wpAny (model X.prog X.w) A (compareOp .In (.ref q) (.ref d)) Q E s := by
  obtain ⟨z, hd, us, r, dd⟩ := D.of I.hok
  refine wpAny_in_heap (room_n hu) (hq.is I.hok) hd dd ?_
  have qq := (r.at (tupK xs)).isSome_eq
  rw [Option.isSome_map] at qq
  rw [← qq]
  exact h _ (I.tok _)
theorem n_setItem {v : V} {u : Value} {Q : Unit → Shared → Prop} (hu : A.units + 64 < cLine) (I : Inv X pins σ H s) (D : DN X.w H d es) (e0 : H d = some (nkO X.w d es)) (hq : KeyT H (tupK xs) q) (hl : es.length < sizeLine) (rv : RelV v u)
    (h : ∀ s', Inv X pins σ (upd H d (nkO X.w d (putN es (tupK xs) q v))) s' → Q () s') : wpAny (model X.prog X.w) A (setItem (.ref d) (.ref q) u) Q E s := by
  obtain ⟨z, hd, us, r, dd⟩ := D.of I.hok
  have hz : us.length ≤ sizeLine := by rw [← Paired.length r]; exact z
  refine wpAny_setItem_heap (hsz := hz) (room_n hu) (hq.is I.hok) dd fun h' dd' hs => h _ ?_
  have he : ∃ q, h'.get? d = some q := let ⟨q, _, _, hq, _⟩ := dd'; ⟨q, hq⟩
  exact d_write I (by rw [e0]; exact True.intro) hs he (nkO_ok (Nat.le_trans (putN_len ..) hl) hd (r.put _ _ rv) dd')
theorem n_delItem {Q : Unit → Shared → Prop} (hu : A.units + 64 < cLine) (I : Inv X pins σ H s) (D : DN X.w H d es) (e0 : H d = some (nkO X.w d es)) (hq : KeyT H (tupK xs) q) (e : (atN es (tupK xs)).isSome = true)
    (h : ∀ s', Inv X pins σ (upd H d (nkO X.w d (dropN es (tupK xs)))) s' → Q () s') : wpAny (model X.prog X.w) A (delItem (.ref d) (.ref q)) Q E s := by
  obtain ⟨z, hd, us, r, dd⟩ := D.of I.hok
  have hz : us.length ≤ sizeLine := by rw [← Paired.length r]; exact z
  have qq := (r.at (tupK xs)).isSome_eq
  rw [Option.isSome_map, e] at qq
  obtain ⟨p, hp⟩ := Option.isSome_iff_exists.mp qq.symm
  refine wpAny_delItem_heap (hsz := hz) (room_n hu) (hq.is I.hok) hd dd hp fun h' dd' hs => h _ ?_
  have he : ∃ q, h'.get? d = some q := let ⟨q, _, _, hq, _⟩ := dd'; ⟨q, hq⟩
  exact d_write I (by rw [e0]; exact True.intro) hs he (nkO_ok (Nat.le_trans (List.length_filter_le _ _) z) hd (r.drop _) dd')
end
/-! ### readings and rules -/
def isKey (H : Hp) (q : Addr) (xs : List V) : Prop := H q = some (.tup xs) ∧ xs.all scV = true
theorem isKey.t {H : Hp} {q : Addr} {xs : List V} (h : isKey H q xs) : KeyT H (tupK xs) q := ⟨xs, h.1, h.2, rfl⟩
def fGetN (w : World) (td ty : TE) : TE := fun σ H Q => td σ H fun x H1 => ty σ H1 fun y H2 => match x, y with
  | .ref d, .ref q => ∃ es xs v, DN w H2 d es ∧ isKey H2 q xs ∧ atN es (tupK xs) = some v ∧ Q v H2
  | _, _ => False
def fInN (w : World) (ty td : TE) : TE := fun σ H Q => ty σ H fun y H1 => td σ H1 fun x H2 => match x, y with
  | .ref d, .ref q => ∃ es xs, DN w H2 d es ∧ isKey H2 q xs ∧ Q (.bl (atN es (tupK xs)).isSome) H2
  | _, _ => False
def sPutN (w : World) (td ty tv : TE) : TS := fun D σ H => tv σ H fun v H1 => td σ H1 fun x H2 => ty σ H2 fun y H3 => match x, y with
  | .ref d, .ref q => ∃ es xs, DN w H3 d es ∧ H3 d = some (nkO w d es) ∧ isKey H3 q xs ∧ es.length < sizeLine ∧ D.nx σ (upd H3 d (nkO w d (putN es (tupK xs) q v)))
  | _, _ => False
def sDelN (w : World) (td ty : TE) : TS := fun D σ H => td σ H fun x H1 => ty σ H1 fun y H2 => match x, y with
  | .ref d, .ref q => ∃ es xs, DN w H2 d es ∧ H2 d = some (nkO w d es) ∧ isKey H2 q xs ∧ (atN es (tupK xs)).isSome = true ∧ D.nx σ (upd H2 d (nkO w d (dropN es (tupK xs))))
  | _, _ => False
def fNewN (w : World) : TE := fun _ H Q => ∀ p H2, H p = none → Same H H2 → H2 p = some (nkO w p []) → Q (.ref p) H2
def fLenN (w : World) : List V → Hp → VK → Prop := fun xs H Q => match xs with
  | [.ref d] => ∃ es, DN w H d es ∧ Q (.int es.length) H
  | _ => False
section
variable {X : Cx} {o i e value : Expr} {pos pos' tpos : Pos} {td ty tv : TE}
theorem pe_getN {w : World} (hw : X.w = w) (hu : X.A.units + 64 < cLine) (ho : PE X o td) (hi : PE X i ty) (hs : NoSl i) : PE X (.Subscript o i pos) (fGetN w td ty) := by
  subst hw
  refine ⟨fun pins s σ H Q I h => ?_⟩
  refine subD_of PySem.F.slot_dict_getitem.lookup hs (thn (ho.run pins s σ H _ I h) fun u s1 ⟨x, H1, I1, rx, q1⟩ => thn (hi.run pins s1 σ H1 _ I1 q1) fun iv s2 ⟨y, H2, I2, ry, q2⟩ => ?_)
  match x, y, rx, ry, q2 with
  | .ref d, .ref q, rx, ry, ⟨es, xs, v, D, kq, ev, q2⟩ =>
    obtain rfl : u = Value.ref d := rx
    obtain rfl : iv = Value.ref q := ry
    obtain ⟨_, _, us, _, dd⟩ := D.of I2.hok
    exact ⟨dd.typeIs, n_getItem hu I2 D kq.t ev fun w' s3 I3 rw' => ⟨v, H2, I3, rw', q2⟩⟩
theorem pc_inN {w : World} (hw : X.w = w) (hu : X.A.units + 64 < cLine) (hi : PE X i ty) (ho : PE X o td) : PC X .In i o (fInN w ty td) := by
  subst hw
  refine ⟨fun pins s σ H Q I h => ?_⟩
  refine thn (hi.run pins s σ H _ I h) fun iv s1 ⟨y, H1, I1, ry, q1⟩ => thn (ho.run pins s1 σ H1 _ I1 q1) fun u s2 ⟨x, H2, I2, rx, q2⟩ => ?_
  match x, y, rx, ry, q2 with
  | .ref d, .ref q, rx, ry, ⟨es, xs, D, kq, q2⟩ =>
    obtain rfl : u = Value.ref d := rx
    obtain rfl : iv = Value.ref q := ry
    exact n_in hu I2 D kq.t fun s3 I3 => ⟨.bl _, H2, I3, rfl, q2⟩
theorem ps_putN {w : World} (hw : X.w = w) (hu : X.A.units + 64 < cLine) (ho : PE X o td) (hi : PE X i ty) (hv : PE X value tv) (hs : swapsWith value (some (.Subscript o i pos')) pos.line X.env = pure false) :
    PS X (.Assign [.Subscript o i pos'] value pos) (sPutN w td ty tv) := by
  subst hw
  refine ⟨fun pins s σ H D I h => ?_⟩
  refine wpAny_Assign_Subscript (thn (hv.run pins s σ H _ I h) fun r s1 ⟨v, H1, I1, rv, q1⟩ => thn (ho.run pins s1 σ H1 _ I1 q1) fun u s2 ⟨x, H2, I2, rx, q2⟩ => thn (hi.run pins s2 σ H2 _ I2 q2) fun iv s3 ⟨y, H3, I3, ry, q3⟩ => ?_) hs
  match x, y, rx, ry, q3 with
  | .ref d, .ref q, rx, ry, ⟨es, xs, Dn, e0, kq, hl, q3⟩ =>
    obtain rfl : u = Value.ref d := rx
    obtain rfl : iv = Value.ref q := ry
    exact n_setItem hu I3 Dn e0 kq.t hl rv fun s4 I4 => ⟨σ, _, I4, q3⟩
theorem ps_delN {w : World} (hw : X.w = w) (hu : X.A.units + 64 < cLine) (ho : PE X o td) (hi : PE X i ty) : PS X (.Delete [.Subscript o i tpos] pos) (sDelN w td ty) := by
  subst hw
  refine ⟨fun pins s σ H D I h => ?_⟩
  refine wpAny_Delete (wpAny_deleteEach_cons (wpAny_delete_Subscript (thn (ho.run pins s σ H _ I h) fun u s1 ⟨x, H1, I1, rx, q1⟩ => thn (hi.run pins s1 σ H1 _ I1 q1) fun iv s2 ⟨y, H2, I2, ry, q2⟩ => ?_)))
  match x, y, rx, ry, q2 with
  | .ref d, .ref q, rx, ry, ⟨es, xs, Dn, e0, kq, l, q2⟩ =>
    obtain rfl : u = Value.ref d := rx
    obtain rfl : iv = Value.ref q := ry
    exact n_delItem hu I2 Dn e0 kq.t l fun s3 I3 => wpAny_deleteEach_nil ⟨σ, _, I3, q2⟩
theorem pe_newN {w : World} (hw : X.w = w) : PE X (.Dict [] [] pos) (fNewN w) := by
  subst hw
  refine ⟨fun pins s σ H Q I h => ?_⟩
  refine wpAny_Dict_empty ?_
  have hf : H s.heap.objs.size = none := I.hok.fresh (Nat.le_refl _)
  refine ⟨.ref s.heap.objs.size, upd H s.heap.objs.size (nkO X.w s.heap.objs.size []), I.laid (t' := s.toks) (fun b u e => Heap.get?_push_of_some _ e) (Nat.le_refl _) ?_, rfl, h _ _ hf (same_new hf) upd_same⟩
  exact nkO_ok (us := []) (Nat.zero_le _) (beq_eq_false_iff_ne.mpr (Ne.symm (Nat.ne_of_lt I.big))) .nil (Heap.DictOfH.new _)
theorem call_fLenN {w : World} (hw : X.w = w) : CallR X (.builtin "len") (fLenN w) := by
  subst hw
  intro pins s σ H xs us Q I r h
  match xs, r, h with
  | [.ref d], r, ⟨es, D, q⟩ =>
    obtain ⟨u, rfl, rx⟩ := vals1 r
    obtain rfl : u = .ref d := rx
    obtain ⟨z, hd, ys, rel, dd⟩ := D.of I.hok
    have hl : es.length = ys.length := Paired.length rel
    refine call_len_dictH hd dd (by rw [← hl]; rw [sizeLine_eq] at z; omega) ?_
    rw [← hl]
    exact ⟨.int ((es.length : Nat) : Int), H, I.tok _, ⟨_, rfl⟩, q⟩
end
/-! ### its keys, walked (the dict locked) -/
def Itn (w : World) (d : Addr) (o : Obj) (es : List NEnt) : It :=
  ⟨fun i H => H d = some (.frz o (nkO w d es)) ∧ i < es.length, fun i H x H' => H' = H ∧ ∃ e, es[i]? = some e ∧ x = .ref e.2.1, fun i H => H d = some (.frz o (nkO w d es)) ∧ es.length ≤ i⟩
theorem Inv.frzN {X : Cx} {pins : List (Addr × Obj)} {σ : L2.St} {H : Hp} {s : Shared} {d : Addr} {o : Obj} {es : List NEnt} (I : Inv X pins σ H s) (h : H d = some (.frz o (nkO X.w d es))) :
    (d == sysModules) = false ∧ s.heap.get? d = some o ∧ o.ExactDict ∧ ∃ (en : Array DictEntry) (ep : Nat), o.data = .dict en ep ∧ en.size = es.length ∧
      ∀ (i : Nat) (e : NEnt), es[i]? = some e → ∃ (x : DictEntry), en[i]? = some x ∧ x.key = .ref e.2.1 := by
  obtain ⟨hd, ⟨z, hs, us, r, o', en, ep, ho, hx, hdt, he, _⟩, _⟩ := I.hok d _ h
  rw [hd] at ho
  cases ho
  refine ⟨hs, hd, hx, en, ep, hdt, ?_, fun i e hi => ?_⟩
  · have l1 : en.toList.length = us.length := by rw [he, List.length_map]
    have l2 : es.length = us.length := Paired.length r
    rw [Array.length_toList] at l1
    omega
  · obtain ⟨b, hb, e1, e2, _⟩ := paired_get r hi
    refine ⟨⟨b.1.hash X.w, .ref b.2.1, b.2.2⟩, ?_, by rw [e2]⟩
    rw [← Array.getElem?_toList, he, List.getElem?_map, hb]
    rfl
theorem turn_keysN {P : Program} {w : World} {K : PySem.W.Frag} {tg : Expr} {d : Addr} {o : Obj} {en : Array DictEntry} {ep : Nat} {es : List NEnt} (it : Addr) (hod : o.data = .dict en ep) : Turn P w K tg (Itn w d o es) [it] it (fun i h => h.IsKeyIter it d i es.length ep) where
  mem := by simp
  obj := fun i h st b hb => by
    have e : b = it := by simpa using hb
    subst e
    obtain ⟨oi, e, c, dd⟩ := st
    exact ⟨oi, e, fun v z => by rw [dd] at z; cases z⟩
  keep := fun i h h' st k => st.at fun oi e => k it (by simp) oi e
  item := by
    intro X hP hw hK hc i pins s σ H E I hf st hg
    subst hP hw hK
    obtain ⟨hd, hi⟩ := hg
    obtain ⟨f0, f1, f2, f3, f4, f5⟩ := hf it (by simp)
    obtain ⟨hs, hgd, hx, es', ep', hdt, hsz, ent⟩ := Inv.frzN I hd
    obtain ⟨rfl, rfl⟩ := dict_ep hod hdt
    obtain ⟨e, he⟩ : ∃ p, es[i]? = some p := ⟨es[i], List.getElem?_eq_getElem hi⟩
    obtain ⟨x, hen, hkey⟩ := ent i e he
    refine next_key_item st hgd hdt hsz hen fun h' st' sb => ?_
    have I1 : Inv X pins σ H { s with heap := h' } := I.turned (t' := s.toks) (fun b ob hb e => (sb.2 b hb).trans e) f0 f1 f3 f4 f5
    obtain ⟨oi, e', c, dd⟩ := id st'
    exact ⟨x.key, rfl, go_of (s := { s with heap := h' }) e' c dd (by decide) ⟨.ref e.2.1, H, I1, hkey, ⟨rfl, e, he, rfl⟩, st', fun b hb => (hf b hb).1⟩⟩
  done := by
    intro X hP hw hK hc i pins s σ H E I hf st hg
    subst hP hw hK
    obtain ⟨hd, hi⟩ := hg
    obtain ⟨f0, f1, f2, f3, f4, f5⟩ := hf it (by simp)
    obtain ⟨hs, hgd, hx, es', ep', hdt, hsz, ent⟩ := Inv.frzN I hd
    obtain ⟨rfl, rfl⟩ := dict_ep hod hdt
    exact next_key_end (I.ok.hd hc) st hgd hdt hsz hi fun h' eb => ⟨rfl, I.turned (t' := s.toks) (fun b ob hb e => eb b ob hb e) f0 f1 f3 f4 f5⟩
  self := fun A i s Q E st h => by
    refine wpAny_pyIter_slot st.typeIs F.slot_dict_keyiterator_iter (wpAny_call_entry F.slot_dict_keyiterator_iter st.typeIs F.entry_dict_keyiterator_iter ?_ (F.args_dict_keyiterator_iter_1 _))
    show wpAny _ _ (ret (.ref it)) _ _ s
    exact wpAny_pure ⟨_, rfl, "dict_keyiterator", _, st.typeIs, F.slot_dict_keyiterator_next.lookup, h⟩
def iKeysN (w : World) (td : TE) : TI := fun σ H R => td σ H fun x H1 => match x with
  | .ref d => ∃ o es, H1 d = some (.frz o (nkO w d es)) ∧ R (Itn w d o es) H1
  | _ => False
theorem walk_keysN {w : World} {d : Addr} {o : Obj} {es : List NEnt} : Walk (Itn w d o es) es.length (fun H => H d = some (.frz o (nkO w d es))) (fun i H x H' => H' = H ∧ ∃ e, es[i]? = some e ∧ x = .ref e.2.1) :=
  ⟨fun _ _ hi q => ⟨q, hi⟩, fun _ q => ⟨q, Nat.le_refl _⟩, fun _ _ _ _ _ _ y => y⟩
section
variable {X : Cx} {tg e : Expr} {td : TE}
theorem pi_keysN {w : World} (hw : X.w = w) (he : PE X e td) : PI X tg e (iKeysN w td) := by
  subst hw
  refine ⟨fun pins s σ H R I h => ?_⟩
  refine thn (he.run pins s σ H _ I h) fun u s1 ⟨x, H1, I1, rx, q⟩ => ?_
  match x, rx, q with
  | .ref d, rx, ⟨o, es, hd, q⟩ =>
    obtain rfl : u = Value.ref d := rx
    obtain ⟨hs, hgd, hx, en, ep, hdt, hsz, ent⟩ := Inv.frzN I1 hd
    refine iter_keys hs hgd hx hdt (pi_one (tk := s1.toks) I1 _ (turn_keysN _ hdt) ⟨_, Heap.get?_push_size _ rfl, rfl, ?_⟩ q)
    rw [hsz] <;> rfl
end
theorem lcx_keysN {w : World} {d0 : Addr} {o : Obj} {es : List NEnt} {g : TG} {tt : TT} {te : TE} {vs : List Nat} {σ : L2.St} {H1 : Hp} {D : Addr} {Q : VK} (Pv : Nat → Hp → Prop) (h0 : Pv 0 (upd H1 D (.lst []))) (hl : ∀ i H, i ≤ es.length → Pv i H → H d0 = some (.frz o (nkO w d0 es)))
    (hs : ∀ i x H, es[i]? = some x → Pv i H → g (.ref x.2.1) (wipe σ vs) H fun σ2 H2 => wipe σ2 vs = wipe σ vs ∧ tt σ2 H2 fun b H3 =>
      if b = true then te σ2 H3 fun y H4 => ∃ acc, H4 D = some (.lst acc) ∧ acc.length < sizeLine ∧ Pv (i + 1) (upd H4 D (.lst (acc ++ [y]))) else Pv (i + 1) H3) (hd : ∀ H, Pv es.length H → Q (.ref D) H) : Lc (Itn w d0 o es) g tt te vs σ H1 D Q :=
  lc_it walk_keysN Pv h0 hl (fun i x H H' hi p y => by
    obtain ⟨rfl, e, he, rfl⟩ := y
    exact hs i e _ he p) hd
/-! ### properties -/
structure HasP (P : Program) (w : World) (K : PySem.W.Frag) (mg : Str → Option Value) (base : Heap) (CX : CXT) (C : Addr) (x : Str) (k : Nat) (ps : List Str) (sp : Sp) : Prop where
  ex : ∃ (p g : Addr) (fd : FuncData), PropOf K C x p g ∧ FnOk P w K mg base CX k g fd ps sp ∧ Binds K fd ps []
/-- a property's getter as it stands -/
structure AtP (K : PySem.W.Frag) (C : Addr) (x qual : Str) (st : Stmt) (ps : List Str) : Prop where
  ex : ∃ (p g : Addr) (fd : FuncData), Fun K x qual st g fd ∧ Binds K fd ps [] ∧ PropOf K C x p g
structure PFact (K : PySem.W.Frag) (C : Addr) (x qual : Str) (st : Stmt) : Prop where
  ex : ∃ (p f : Addr) (oc : Value) (od an : Option Addr) (sl : Array (Option Value)) (kV dc pm cd ct : Value),
    PropOf K C x p f ∧ K.lookup f = some ⟨oc, od, .func (PySem.W.fnOf x qual (defArgs st) (defBody st) (defScope st) .none kV dc pm an cd ct), sl⟩ ∧ PySem.W.codeIn K cd qual = true ∧ PySem.W.keepIn K (.ref f) = true
theorem PFact.of {K : PySem.W.Frag} {C : Addr} {x qual : Str} {st : Stmt} {p f : Addr} {oc : Value} {od an : Option Addr} {sl : Array (Option Value)} {kV dc pm cd ct : Value} {rest : List Value}
    (a : PySem.W.findIn K (.ref C) x = some (some (.ref p))) (g : PySem.W.specialIn K (.ref p) "__get__" = some (some (.builtin "property.__get__"))) (t : PySem.W.takesIn K (.ref p) = some true) (r : PySem.W.recIn K p "property" = some (.ref f :: rest))
    (l : K.lookup f = some ⟨oc, od, .func (PySem.W.fnOf x qual (defArgs st) (defBody st) (defScope st) .none kV dc pm an cd ct), sl⟩)
    (c : PySem.W.codeIn K cd qual = true) (k : PySem.W.keepIn K (.ref f) = true) : PFact K C x qual st := ⟨p, f, oc, od, an, sl, kV, dc, pm, cd, ct, ⟨a, g, t, rest, r⟩, l, c, k⟩
theorem AtP.of {K : PySem.W.Frag} {C : Addr} {x qual : Str} {st : Stmt} {ps : List Str} (F : PFact K C x qual st)
    (hb : ∀ (kV doc pm : Value) (an : Option Addr) (cdv ct : Value) (us : List Value), us.length = ps.length → bindArgs (PySem.W.fnOf x qual (defArgs st) (defBody st) (defScope st) .none kV doc pm an cdv ct) ⟨us, []⟩ = pure (ps.zip us)) : AtP K C x qual st ps := by
  obtain ⟨p, f, oc, od, an, sl, kV, dc, pm, cd, ct, pr, l, c, k⟩ := F.ex
  have F1 := fun_mk (st := st) l c k
  exact ⟨_, _, _, F1, F1.binds hb, pr⟩
theorem hasP_of {P : Program} {w : World} {K : PySem.W.Frag} {mg : Str → Option Value} {base : Heap} {C : Addr} {x qual : Str} {st : Stmt} {N ps : List Str} {k : Nat} {sp : Sp} (A : AtP K C x qual st ps) (S : FnScope N ps (defScope st)) (len : ∀ vs H Q E, sp vs H Q E → vs.length = ps.length)
    (hbody : ∀ (cdv : Value) (f : Addr) (A : Around) (outer : List Env) (s : Shared) (H : Hp) (vs : List V) (Q : VK) (E : XK), Room k (A.deeper (envOfC qual (defScope st) s.heap.objs.size f cdv)) → sp vs H Q E →
      ∃ t, PSs (cxOf CX0 P w K mg base N qual (defScope st) f cdv A outer s H E).nox (defBody st) t ∧ t { nx := fun _ H' => Q .non H', rt := Q } (start N vs) H) : HasP P w K mg base CX0 C x (k + 1) ps sp := by
  obtain ⟨p, f, fd, F, B, G⟩ := A.ex
  exact ⟨p, f, fd, G, F.ok S len fun cdv A outer s H vs Q E hr h => hbody cdv f A outer s H vs Q E hr h, B⟩
def fProp (C : Addr) (sp : Sp) (E : XK) (ta : TE) : TE := fun σ H Q => ta σ H fun x H1 => match x with
  | .ref a => match H1 a with
    | some (.ins D _ _) => D = C ∧ sp [.ref a] H1 Q E
    | _ => False
  | _ => False
theorem fe_prop {X : Cx} {CX : CXT} {k : Nat} {C : Addr} {x : Str} {ps : List Str} {sp : Sp} {E : XK} {e : Expr} {pos : Pos} {ta : TE} (h : HasP X.prog X.w X.K X.mg X.base CX C x k ps sp) (c : Cls X.K C) (hr : Room (k + 1) X.A) (hx : Passes CX X.nox E) (he : PE X e ta)
    (hab : attributeBase e x X.env (eval e X.env) = eval e X.env) : PE X (.Attribute e x pos) (fProp C sp E ta) := by
  obtain ⟨p, g, fd, hp, F, B⟩ := h.ex
  refine pe_wk (pe_prop (pe_clos he) c hp F hr B .nil hx hab) fun σ H Q q => ⟨_, q, fun y H1 q1 => ?_⟩
  match y, q1 with
  | .ref a, q1 =>
    dsimp only at q1
    split at q1
    · obtain ⟨h1, q2⟩ := q1
      rename_i D dx fs ea
      subst h1
      exact ⟨_, _, _, rfl, ea, q2⟩
    · exact q1.elim
end Fx

set_option Elab.async false
set_option linter.all false
set_option maxRecDepth 100000
/-! Mr: list methods, dicts with text keys, exceptions as values, by value, over Tb. -/
namespace Fx
open PySem PySem.Spec PyProof.Rows L2
section
variable {X : Cx}
/-! ### list methods -/
def fPop : V → List V → Hp → VK → Prop := fun x vs H Q => match x, vs with
  | .ref l, [] => match H l with
    | some (.lst xs) => ∃ y, xs[xs.length - 1]? = some y ∧ Q y (upd H l (.lst xs.dropLast))
    | _ => False
  | _, _ => False
theorem mt_fPop : MtR X "list.pop" fPop := by
  intro pins s σ H x xs v us Q I rx rs h
  unfold fPop at h
  split at h
  · split at h
    · obtain ⟨y, h1, h2⟩ := h
      exact mt_pop pins s σ H _ _ v us Q I rx rs ⟨_, _, y, rfl, rfl, by assumption, h1, h2⟩
    · exact h.elim
  · exact h.elim
def fPopAt : V → List V → Hp → VK → Prop := fun x vs H Q => match x, vs with
  | .ref l, [.int i] => match H l with
    | some (.lst xs) => ∃ k y, ixN xs.length i = some k ∧ xs[k]? = some y ∧ xs.length ≤ 100000 ∧ Q y (upd H l (.lst (xs.eraseIdx k)))
    | _ => False
  | _, _ => False
theorem mt_fPopAt : MtR X "list.pop" fPopAt := by
  intro pins s σ H x xs v us Q I rx rs h
  unfold fPopAt at h
  split at h
  · split at h
    · obtain ⟨k, y, h1, h2, h4, h3⟩ := h
      obtain ⟨e, _, lo, hi⟩ := ixN_seq h1
      exact mt_popAt pins s σ H _ _ v us Q I rx rs ⟨_, _, _, k, y, rfl, rfl, by assumption, by omega, by omega, e, h2, h3⟩
    · exact h.elim
  · exact h.elim
def fReverse : V → List V → Hp → VK → Prop := fun x vs H Q => match x, vs with
  | .ref l, [] => match H l with
    | some (.lst xs) => Q .non (upd H l (.lst xs.reverse))
    | _ => False
  | _, _ => False
theorem mt_fReverse : MtR X "list.reverse" fReverse := by
  intro pins s σ H x xs v us Q I rx rs h
  unfold fReverse at h
  split at h
  · split at h
    · exact mt_reverse pins s σ H _ _ v us Q I rx rs ⟨_, _, rfl, rfl, by assumption, h⟩
    · exact h.elim
  · exact h.elim
def fExtend : V → List V → Hp → VK → Prop := fun x vs H Q => match x, vs with
  | .ref l, [.ref b] => match H l, H b with
    | some (.lst xs), some (.lst zs) => xs.length + zs.length ≤ sizeLine ∧ Q .non (upd H l (.lst (xs ++ zs)))
    | _, _ => False
  | _, _ => False
theorem mt_fExtend : MtR X "list.extend" fExtend := by
  intro pins s σ H x xs v us Q I rx rs h
  unfold fExtend at h
  split at h
  · split at h
    · exact mt_extend pins s σ H _ _ v us Q I rx rs ⟨_, _, _, _, rfl, rfl, by assumption, by assumption, h⟩
    · exact h.elim
  · exact h.elim
def fInsert : V → List V → Hp → VK → Prop := fun x vs H Q => match x, vs with
  | .ref l, [.int i, y] => match H l with
    | some (.lst xs) => xs.length < sizeLine ∧ 0 ≤ i ∧ i < 2 ^ 63 ∧ Q .non (upd H l (.lst (xs.take i.toNat ++ [y] ++ xs.drop i.toNat)))
    | _ => False
  | _, _ => False
theorem mt_fInsert : MtR X "list.insert" fInsert := by
  intro pins s σ H x xs v us Q I rx rs h
  unfold fInsert at h
  split at h
  · split at h
    · exact mt_insert pins s σ H _ _ v us Q I rx rs ⟨_, _, _, _, rfl, rfl, by assumption, h⟩
    · exact h.elim
  · exact h.elim
/-! ### dicts with text (and number) keys -/
def keyV : V → Option Key
  | .int i => some (.inl i)
  | .str z => some (.inr z)
  | _ => none
theorem keyV_kV {x : V} {k : Key} (h : keyV x = some k) : x = kV k := by
  cases x <;> first
    | (cases h; rfl)
    | cases h
def fGetK (td ty : TE) : TE := fun σ H Q => td σ H fun x H1 => ty σ H1 fun y H2 => match x, keyV y with
  | .ref a, some k => ∃ kvs v, Rd H2 a (.dK kvs) ∧ valV kvs k = some v ∧ Q v H2
  | _, _ => False
def fInK (neg : Bool) (ty td : TE) : TE := fun σ H Q => ty σ H fun y H1 => td σ H1 fun x H2 => match x, keyV y with
  | .ref a, some k => ∃ kvs, Rd H2 a (.dK kvs) ∧ Q (.bl (if neg = true then !(valV kvs k).isSome else (valV kvs k).isSome)) H2
  | _, _ => False
def sPutK (td ty tv : TE) : TS := fun D σ H => tv σ H fun v H1 => td σ H1 fun x H2 => ty σ H2 fun y H3 => match x, keyV y with
  | .ref a, some k => ∃ kvs, H3 a = some (.dK kvs) ∧ kvs.length < sizeLine ∧ D.nx σ (upd H3 a (.dK (putK kvs k v)))
  | _, _ => False
def sDelK (td ty : TE) : TS := fun D σ H => td σ H fun x H1 => ty σ H1 fun y H2 => match x, keyV y with
  | .ref a, some k => ∃ kvs, H2 a = some (.dK kvs) ∧ (valV kvs k).isSome = true ∧ D.nx σ (upd H2 a (.dK (dropK kvs k)))
  | _, _ => False
section
variable {o i value : Expr} {pos pos' tpos : Pos} {td ty tv : TE}
theorem pe_getK (hu : X.A.units + 1 < cLine) (ho : PE X o td) (hi : PE X i ty) (hs : NoSl i) : PE X (.Subscript o i pos) (fGetK td ty) :=
  pe_wk (pe_dget hu (pe_clos ho) (pe_clos hi) hs) fun σ H Q q => ⟨_, q, fun x H1 q => ⟨_, q, fun y H2 q => by
    split at q
    · obtain ⟨kvs, v, r, hv, q⟩ := q
      exact ⟨_, v, rfl, .inl ⟨kvs, _, r, keyV_kV (by assumption), hv.symm⟩, q⟩
    · exact q.elim⟩⟩
theorem pc_wk {op : CmpOp} {a b : Expr} {t t' : TE} (h : PC X op a b t) (w : ∀ σ H Q, t' σ H Q → t σ H Q) : PC X op a b t' := ⟨fun pins s σ H Q I q => h.run pins s σ H Q I (w σ H Q q)⟩
theorem pc_inK (hu : X.A.units + 1 < cLine) (hi : PE X i ty) (ho : PE X o td) : PC X .In i o (fInK false ty td) :=
  pc_wk (pc_din hu (pe_clos hi) (pe_clos ho)) fun σ H Q q => ⟨_, q, fun y H1 q => ⟨_, q, fun x H2 q => by
    split at q
    · obtain ⟨kvs, r, q⟩ := q
      exact ⟨_, _, rfl, .inl ⟨kvs, _, r, keyV_kV (by assumption), rfl⟩, q⟩
    · exact q.elim⟩⟩
theorem pc_notinK (hu : X.A.units + 1 < cLine) (hi : PE X i ty) (ho : PE X o td) : PC X .NotIn i o (fInK true ty td) :=
  pc_wk (pc_dnotin hu (pe_clos hi) (pe_clos ho)) fun σ H Q q => ⟨_, q, fun y H1 q => ⟨_, q, fun x H2 q => by
    split at q
    · obtain ⟨kvs, r, q⟩ := q
      exact ⟨_, _, rfl, .inl ⟨kvs, _, r, keyV_kV (by assumption), rfl⟩, q⟩
    · exact q.elim⟩⟩
theorem ps_putK (hu : X.A.units + 1 < cLine) (ho : PE X o td) (hi : PE X i ty) (hv : PE X value tv) (hs : swapsWith value (some (.Subscript o i pos')) pos.line X.env = pure false) :
    PS X (.Assign [.Subscript o i pos'] value pos) (sPutK td ty tv) :=
  ps_wk (ps_dput hu (pe_clos ho) (pe_clos hi) (pe_clos hv) hs) fun D σ H q => ⟨_, q, fun v H1 q => ⟨_, q, fun x H2 q => ⟨_, q, fun y H3 q => by
    split at q
    · obtain ⟨kvs, h1, h2, q⟩ := q
      exact ⟨_, _, rfl, .inl ⟨kvs, _, h1, keyV_kV (by assumption), h2, rfl⟩, q⟩
    · exact q.elim⟩⟩⟩
theorem ps_delK (ho : PE X o td) (hi : PE X i ty) : PS X (.Delete [.Subscript o i tpos] pos) (sDelK td ty) :=
  ps_wk (ps_ddel (pe_clos ho) (pe_clos hi)) fun D σ H q => ⟨_, q, fun x H1 q => ⟨_, q, fun y H2 q => by
    split at q
    · obtain ⟨kvs, h1, h2, q⟩ := q
      exact ⟨_, kvs, _, rfl, h1, keyV_kV (by assumption), h2, q⟩
    · exact q.elim⟩⟩
end
/-- list(d): the keys -/
def fListD : List V → Hp → VK → Prop := fun xs H Q => match xs with
  | [.ref a] => ∃ kvs, Rd H a (.dK kvs) ∧ ∀ p H1, H p = none → Same H H1 → H1 p = some (.lst (kvs.map fun kv => kV kv.1)) → Q (.ref p) H1
  | _ => False
theorem call_fListD (hc : X.calm = true) : CallR X (.type "list") fListD := by
  intro pins s σ H xs us Q I r h
  match xs, r, h with
  | [.ref a], r, ⟨kvs, h1, h2⟩ => exact call_listD hc pins s σ H _ us Q I r ⟨a, kvs, rfl, h1, fun p np => h2 p _ np (same_new np) upd_same⟩
/-! ### exceptions as values -/
def fMkV (C : Addr) (n : Nat) (flds : List V → List (Str × V)) (ta : TA) : TE := fun σ H Q => ta σ H fun vs H1 => vs.length = n ∧ ∀ a d H2, H1 a = none → H1 d = none → Same H1 H2 → H2 a = some (exo a C (some d)) → H2 d = some (exd d (flds vs)) → Q (.ref a) H2
theorem fe_mkV {C : Addr} {x : Str} {n : Nat} {flds : List V → List (Str × V)} {p pos : Pos} {e : Expr} {es : List Expr} {ta : TA} (h : HasE X.prog X.w X.K X.mg X.base C x n flds) (hn : n ≤ 1000) (hr : Room 2 X.A) (hg : Gl X x) (ha : PA X (e :: es) ta) (hdb : (x == ("__debug__" : Str)) = false := by decide)
    (he : starEach (e :: es) X.env = (false, eval e X.env) :: starEach es X.env := by rfl) (hpl : (backTo pos (starEach es X.env)).any (·.1) = false := by rfl) : PE X (.Call (.Name x p) (e :: es) [] pos) (fMkV C n flds ta) := by
  obtain ⟨f, fd, ps, F1, hb, iC, tI, hm, T⟩ := h.ex
  refine ⟨fun pins s σ H Q I h => ?_⟩
  obtain ⟨nm, q, N, bs, bm, sn, sub, ab, col, dd, k0, k1, k2, k3, k5, hC, hbm⟩ := T.cls
  refine wpAny_Call_Name_kw (ld_glob I hg hm ?_ hdb)
  refine PySem.W.callWith_K (h₀ := X.base) I.ok.mod.kin T.kC (thn (ha.run pos pins s σ H _ I h) fun us s1 ⟨vs, H1, I1, r1, hz, q1⟩ => ⟨I1.kIn, ?_⟩) he hpl
  show wpAny _ _ (call (.ref C) us) _ _ _
  obtain ⟨hp, g, dr, tk, os⟩ := s1
  have hsz : hp.objs.size ≤ hp.objs.size + 1 := Nat.le_succ _
  have hn1 : H1 (hp.objs.size + 1) = none := I1.hok.fresh hsz
  have hq : spInitE C n flds (V.ref (hp.objs.size + 1) :: vs) (upd H1 (hp.objs.size + 1) (exo (hp.objs.size + 1) C none)) (fun v H2 => v = .non ∧ Q (.ref (hp.objs.size + 1)) H2) (fun _ _ _ => False) :=
    ⟨_, vs, H1, rfl, hz, hn1, rfl, fun d H2 nd ne keep ea ed => ⟨rfl, q1 _ d H2 hn1 nd keep ea ed⟩⟩
  have kk : ∀ b o, hp.get? b = some o → ((hp.push (PySem.W.kdv_tup us)).push (PySem.HandSPX.excO C hp.objs.size)).get? b = some o := fun b o e => Heap.get?_push_of_some _ (Heap.get?_push_of_some _ e)
  have hget : ((hp.push (PySem.W.kdv_tup us)).push (PySem.HandSPX.excO C hp.objs.size)).get? (hp.objs.size + 1) = some (PySem.HandSPX.excO C hp.objs.size) := by heap_get
  have I2 : Inv X pins σ (upd H1 (hp.objs.size + 1) (exo (hp.objs.size + 1) C none)) ⟨(hp.push (PySem.W.kdv_tup us)).push (PySem.HandSPX.excO C hp.objs.size), g, dr, tk, os⟩ :=
    I1.laid (t' := tk) (a := hp.objs.size + 1) (o := exo (hp.objs.size + 1) C none) (h' := (hp.push (PySem.W.kdv_tup us)).push (PySem.HandSPX.excO C hp.objs.size)) kk hsz (exo_ok hget)
  have r2 : Vals (V.ref (hp.objs.size + 1) :: vs) (Value.ref (hp.objs.size + 1) :: us) := .cons rfl r1
  have hl : (Value.ref (hp.objs.size + 1) :: us).length = ps.length := by
    have e := r2.length
    rw [F1.len _ _ _ _ hq] at e
    exact e.symm
  have hus : us.length ≤ sizeLine := by
    rw [← Paired.length r1, sizeLine_eq]
    omega
  have hb' := hb ⟨(hp.push (PySem.W.kdv_tup us)).push (PySem.HandSPX.excO C hp.objs.size), g, dr, tk, os⟩ (Value.ref (hp.objs.size + 1) :: us) I2.kIn (by rw [List.append_nil]; exact hl)
  rw [List.append_nil] at hb'
  refine wpAny_call (PySem.HandSPX.call_own F.excBase_ValueError (fun Y => PySem.HandSPX.refsVE_contains Y bm hbm) (I1.kIn _ _ hC) (PySem.W.looks_findIn I1.kIn iC) (fun self => PySem.W.bind_fn I1.kIn self tI) hus
    (codeAny_mono (F1.run _ X.stack _ _ ⟨Value.ref (hp.objs.size + 1) :: us, []⟩ (Value.ref (hp.objs.size + 1) :: us) _ _ (fun _ _ _ => False) (hr.make C us []) (I2.env0.make C us []) hb' r2 hq) fun r s' hq' => ?_))
  cases r with
  | error er => exact hq'.elim
  | ok fl =>
    cases fl with
    | ret u =>
      obtain ⟨v, H', I3, rv, ev, q3⟩ := I2.after hq'
      subst ev
      exact ⟨rv, ⟨V.ref (hp.objs.size + 1), H', I3, rfl, q3⟩⟩
    | next => exact False.elim hq'
    | brk => exact False.elim hq'
    | cont => exact False.elim hq'
/-- an exception of class C with these fields, held -/
def IsExo (H : Hp) (a C : Addr) (fs : List (Str × V)) : Prop := ∃ d, H a = some (exo a C (some d)) ∧ H d = some (exd d fs)
theorem IsExo.same {H H' : Hp} {a C : Addr} {fs : List (Str × V)} (h : IsExo H a C fs) (s : Same H H') : IsExo H' a C fs := h.imp fun _ ⟨x, y⟩ => ⟨s _ _ x, s _ _ y⟩
theorem exo_inst {pins : List (Addr × Obj)} {σ : L2.St} {H : Hp} {s : Shared} {a C : Addr} {fs : List (Str × V)} (I : Inv X pins σ H s) (h : IsExo H a C fs) : ∃ (oe od : Obj) (mA : Str → Option Value), PySem.W.InstAt s.heap a oe C (some od) ∧ (∀ f, RelO (fs.lookup f) (mA f)) ∧ (∀ f, PySem.W.lookIn f od = some (mA f)) := by
  obtain ⟨d, e1, e2⟩ := h
  obtain ⟨t1, he⟩ := exo_at I.hok e1
  obtain ⟨mA, hns, rel⟩ := exd_at I.hok e2
  obtain ⟨od, ho, hl⟩ := lookIn_ns hns
  exact ⟨_, od, mA, ⟨he, rfl, rfl, ho⟩, rel, hl⟩
/-- e.f of such -/
def fXo (K : PySem.W.Frag) (cs : List Addr) (f : Str) (te : TE) : TE := fun σ H Q => te σ H fun x H1 => match x with
  | .ref a => ∃ C fs v, C ∈ cs ∧ IsExo H1 a C fs ∧ fs.lookup f = some v ∧ Q v H1
  | _ => False
theorem fe_xo {cs : List Addr} {e : Expr} {te : TE} {pos : Pos} {n : Str} (T : XPlain X.K cs n) (he : PE X e te) (hb : attributeBase e n X.env (eval e X.env) = eval e X.env) : PE X (.Attribute e n pos) (fXo X.K cs n te) := by
  refine ⟨fun pins s σ H Q I h => ?_⟩
  refine attr_of hb (thn (he.run pins s σ H _ I h) fun u s1 hh => ?_)
  obtain ⟨x, H1, I1, rx, q⟩ := hh
  match x, rx, q with
  | .ref a, rx, ⟨C, fs, v, m, hx, l, q⟩ =>
    obtain rfl : u = Value.ref a := rx
    obtain ⟨oe, od, mA, J, rel, hl⟩ := exo_inst I1 hx
    obtain ⟨u, hu, ru⟩ := RelO.some_of (v := v) (o := mA n) (by rw [← l]; exact rel n)
    exact HandSPX.exc_get I1.kIn J (T C m).1.ga (T C m).1.gg (T C m).1.exC (PySem.W.findObj_own (T C m).1.hdC (T C m).2 rfl (by rw [hl, hu])) (handed_of ru) ⟨v, H1, I1.tok _, ru, q⟩
/-- isinstance(e, C) of such -/
def fIsX (K : PySem.W.Frag) (cs : List Addr) : List V → Hp → VK → Prop := fun xs H Q => match xs with
  | [.ref a, .ref D] => ∃ C fs, C ∈ cs ∧ IsExo H a C fs ∧ ∃ b, PySem.W.kitOne K (.ref C) (.ref D) = some b ∧ Q (.bl b) H
  | _ => False
theorem call_fIsX {cs : List Addr} (F : ∀ C ∈ cs, ExcFact X.K C) (ob : ObjFact X.K) : CallR X (.builtin "isinstance") (fIsX X.K cs) := by
  intro pins s σ H xs us Q I r h
  match xs, r, h with
  | [.ref a, .ref D], r, ⟨C, fs, m, hx, b, e, q⟩ =>
    obtain ⟨u1, u2, rfl, r1, r2⟩ := vals2 r
    cases r1
    cases r2
    have FC := F C m
    have hcl : (PySem.W.clsIn X.K C).isSome = true := by
      obtain ⟨cd, hcd, _⟩ := PySem.W.any_some FC.hdC
      rw [hcd]; rfl
    obtain ⟨oe, od, mA, J, rel, hl⟩ := exo_inst I hx
    exact PySem.W.kia_one (PySem.W.kitx_exc hcl FC.ga FC.gg FC.exC FC.ci ob.gd ob.tk FC.mr) I.kIn J e (fun z => nomatch z) fun tk => ⟨.bl b, H, I.kept (t' := tk) fun _ _ z => z, rfl, q⟩
end
end Fx

set_option Elab.async false
set_option linter.all false
set_option maxRecDepth 100000
/-! Dk: displays of dicts with text keys, walks over their keys, by value, over Mr. -/
namespace Fx
open PySem PySem.Spec PyProof.Rows L2
/-! ### {"a": v, ..} -/
def fPairs : List (Key × TE) → L2.St → Hp → (List (Key × V) → Hp → Prop) → Prop
  | [], _, H, Q => Q [] H
  | (k, tv) :: r, σ, H, Q => tv σ H fun y H1 => fPairs r σ H1 fun ps H2 => Q ((k, y) :: ps) H2
abbrev FPs (X : Cx) (pos : Pos) (keys : List (Option Expr)) (values : List Expr) (trs : List (Key × TE)) : Prop := PPs X pos keys values (trs.map fun p => (tC (kV p.1), clos p.2))
theorem fps_nil {X : Cx} {pos : Pos} : FPs X pos [] [] [] := pps_nil
theorem fps_cons {X : Cx} {pos : Pos} {x : Str} {j : Nat} {p : Pos} {v : Expr} {ks : List (Option Expr)} {vs : List Expr} {tv : TE} {trs : List (Key × TE)} (hv : PE X v tv) (hr : FPs X pos ks vs trs) :
    FPs X pos (some (.Constant (.str x) j p) :: ks) (v :: vs) ((.inr x, tv) :: trs) := pps_cons pe_str (pe_clos hv) hr
theorem fPairs_t : ∀ {trs : List (Key × TE)} {σ : L2.St} {H : Hp} {R : List (Key × V) → Hp → Prop} {Q : List (V × V) → Hp → Prop}, fPairs trs σ H R → (∀ kvs H2, kvs.map (·.1) = trs.map (·.1) → R kvs H2 → Q (kvs.map fun kv => (kV kv.1, kv.2)) H2) → tPairs (trs.map fun p => (tC (kV p.1), clos p.2)) σ H Q
  | [], σ, H, R, Q, h, w => w [] H rfl h
  | (k, tv) :: r, σ, H, R, Q, h, w => ⟨_, h, fun y H1 q => fPairs_t q fun kvs H2 e z => w ((k, y) :: kvs) H2 (by rw [List.map_cons, List.map_cons, e]) z⟩
theorem mergeK_nd : ∀ (kvs acc : List (Key × V)), ((acc ++ kvs).map (·.1)).Nodup → mergeK acc kvs = acc ++ kvs
  | [], acc, _ => (List.append_nil acc).symm
  | p :: r, acc, h => by
    have hn : ¬ (acc.any fun kv => decide (kv.1 = p.1)) = true := by
      intro z
      obtain ⟨q, hq, e⟩ := List.any_eq_true.mp z
      have e := of_decide_eq_true e
      rw [List.map_append, List.nodup_append] at h
      exact h.2.2 _ (List.mem_map_of_mem hq) _ (List.mem_map_of_mem (List.mem_cons_self ..)) e
    have e1 : putK acc p.1 p.2 = acc ++ [p] := by unfold putK; rw [if_neg hn]
    show mergeK (putK acc p.1 p.2) r = _
    rw [e1, mergeK_nd r (acc ++ [p]) (by rw [List.append_assoc]; exact h), List.append_assoc]; rfl
def fDisp (trs : List (Key × TE)) : TE := fun σ H Q => ∀ p H0, H p = none → Same H H0 → H0 p = some (.dK []) → fPairs trs σ H0 fun kvs H2 => H2 p = some (.dK []) ∧ ∀ H3, H3 = upd H2 p (.dK kvs) → Q (.ref p) H3
theorem fe_disp {X : Cx} {pos : Pos} {keys : List (Option Expr)} {values : List Expr} {trs : List (Key × TE)} (h : FPs X pos keys values trs) (hn : (trs.map (·.1)).Nodup) (hall : keys.all (·.isSome) = true) (hl : keys.length = values.length) (h0 : keys ≠ [])
    (h15 : keys.length ≤ 15) (ht : trs.length ≤ 15) : PE X (.Dict keys values pos) (fDisp trs) :=
  pe_wk (pe_disp h hall hl h0 h15) fun σ H Q q p np => fPairs_t (q p _ np (same_new np) upd_same) fun kvs H2 e z => ⟨z.1, kvs, rfl, by
    have : kvs.length = trs.length := by have := congrArg List.length e; simpa using this
    omega, z.2 _ (by rw [mergeK_nd kvs [] (by rw [List.nil_append, e]; exact hn), List.nil_append])⟩
/-! ### for k in d -/
def iKeysK (td : TE) : TI := fun σ H R => td σ H fun x H1 => match x with
  | .ref d => ∃ o kvs, H1 d = some (.frz o (.dK kvs)) ∧ R (Itk d o kvs) H1
  | _ => False
theorem pi_keysK {X : Cx} {tg e : Expr} {td : TE} (he : PE X e td) : PI X tg e (iKeysK td) :=
  ⟨fun pins s σ H R I h => (pi_keys (pe_clos he)).run pins s σ H R I ⟨_, h, fun x H1 q => by
    match x, q with
    | .ref d, ⟨o, kvs, hd, q⟩ => exact ⟨d, o, rfl, .inl ⟨kvs, hd, q⟩⟩⟩⟩
theorem lcx_keysK {d0 : Addr} {o : Obj} {kvs : List (Key × V)} {g : TG} {tt : TT} {te : TE} {vs : List Nat} {σ : L2.St} {H1 : Hp} {D : Addr} {Q : VK} (Pv : Nat → Hp → Prop) (h0 : Pv 0 (upd H1 D (.lst []))) (hl : ∀ i H, i ≤ kvs.length → Pv i H → H d0 = some (.frz o (.dK kvs)))
    (hs : ∀ i k v H, kvs[i]? = some (k, v) → Pv i H → g (kV k) (wipe σ vs) H fun σ2 H2 => wipe σ2 vs = wipe σ vs ∧ tt σ2 H2 fun b H3 =>
      if b = true then te σ2 H3 fun y H4 => ∃ acc, H4 D = some (.lst acc) ∧ acc.length < sizeLine ∧ Pv (i + 1) (upd H4 D (.lst (acc ++ [y]))) else Pv (i + 1) H3) (hd : ∀ H, Pv kvs.length H → Q (.ref D) H) : Lc (Itk d0 o kvs) g tt te vs σ H1 D Q :=
  lc_it walk_keys Pv h0 hl (fun i x H H' hi p y => by
    obtain ⟨rfl, k, v, he, rfl⟩ := y
    exact hs i k v _ he p) hd
end Fx

set_option Elab.async false
set_option linter.all false
set_option maxRecDepth 100000
/-! Fk: one of two ways to read an expression (a method of several classes), copies of dicts. -/
namespace Fx
open PySem PySem.Spec PyProof.Rows L2
def tEither (t1 t2 : TE) : TE := fun σ H Q => t1 σ H Q ∨ t2 σ H Q
theorem pe_either {X : Cx} {e : Expr} {t1 t2 : TE} (h1 : PE X e t1) (h2 : PE X e t2) : PE X e (tEither t1 t2) := ⟨fun pins s σ H Q I q => q.elim (h1.run pins s σ H Q I) (h2.run pins s σ H Q I)⟩
/-- dict(d): a copy -/
def fDictD : List V → Hp → VK → Prop := fun xs H Q => match xs with
  | [.ref a] => ∃ kvs, Rd H a (.dK kvs) ∧ ∀ p H1, H p = none → Same H H1 → H1 p = some (.dK kvs) → Q (.ref p) H1
  | _ => False
theorem call_fDictD {X : Cx} : CallR X (.type "dict") fDictD := by
  intro pins s σ H xs us Q I r h
  match xs, r, h with
  | [.ref a], r, ⟨kvs, h1, h2⟩ =>
    obtain ⟨u, eu, rx⟩ := vals1 r
    subst eu
    cases rx
    exact d_copyOf I h1 fun p s' np I' => ⟨.ref p, _, I', rfl, h2 p _ np (same_new np) upd_same⟩
end Fx
namespace Fx
open PySem PySem.Spec PyProof.Rows L2
section
variable {X : Cx} {K : PySem.W.Frag}
theorem ix_fxK (h : X.K = K) : IxR X (fIx K) := h ▸ ix_fx
theorem call_fLenK (h : X.K = K) : CallR X (.builtin "len") (fLen K) := h ▸ call_fLen
theorem op_fAddK (h : X.K = K) : OpR X (binaryOp .Add) (fAdd K) := h ▸ op_fAdd
theorem sl_fxK (h : X.K = K) : SlR X (fSl K) := h ▸ sl_fx
theorem op_fEqK (hu : X.A.units + 64 < cLine) (h : X.K = K) : OpR X (compareOp .Eq) (fEq K false) := h ▸ op_fEq hu
theorem op_fNeK (hu : X.A.units + 64 < cLine) (h : X.K = K) : OpR X (compareOp .NotEq) (fEq K true) := h ▸ op_fNe hu
theorem op_fInK' (h : X.K = K) : OpR X (compareOp .In) (fIn K false) := h ▸ op_fIn
end
end Fx
namespace Fx
open PySem PySem.Spec PyProof.Rows L2
section
variable {X : Cx} {o e f : Expr} {apos cpos : Pos} {td ty tx : TE}
/-- sum of a list of whole numbers -/
def fSum : List V → Hp → VK → Prop := fun xs H Q => match xs with
  | [.ref a] => ∃ ns : List Int, H a = some (.lst (ns.map V.int)) ∧ Q (.int ns.sum) H
  | _ => False
theorem call_fSum (hc : X.calm = true) : CallR X (.builtin "sum") fSum := by
  intro pins s σ H xs us Q I r h
  match xs, r, h with
  | [.ref a], r, ⟨ns, h1, h2⟩ => exact cr_sum hc pins s σ H _ us Q I r ⟨a, ns, rfl, SqL.of h1, h2⟩
/-- d.get(k, x) -/
def fGetD (td ty tx : TE) : TE := fun σ H Q => td σ H fun x H1 => match x with
  | .ref a => (∃ kvs, Rd H1 a (.dK kvs)) ∧ ty σ H1 fun y H2 => tx σ H2 fun z H3 => match keyV y with
    | some k => ∃ kvs, Rd H3 a (.dK kvs) ∧ Q ((valV kvs k).getD z) H3
    | none => False
  | _ => False
theorem pe_getD (hu : X.A.units + 1 < cLine) (ho : PE X o td) (he : PE X e ty) (hf : PE X f tx) (m : M2 X o "get" apos e f cpos) : PE X (.Call (.Attribute o "get" apos) [e, f] [] cpos) (fGetD td ty tx) :=
  pe_wk (pe_dget2 hu (pe_clos ho) (pe_clos he) (pe_clos hf) m) fun σ H Q q => ⟨_, q, fun x H1 q => by
    split at q
    · rename_i a
      obtain ⟨⟨kvs, hd⟩, q⟩ := q
      exact ⟨a, rfl, .inl ⟨kvs, hd⟩, _, q, fun y H2 q => ⟨_, q, fun z H3 q => by
        split at q
        · obtain ⟨kvs', hd', q⟩ := q
          exact ⟨_, .inl ⟨kvs', _, hd', keyV_kV (by assumption), rfl⟩, q⟩
        · exact q.elim⟩⟩
    · exact q.elim⟩
end
/-! ### comprehensions of dicts -/
def Dc (J : It) (g : TG) (tt : TT) (tk tv : TE) (vs : List Nat) (σ : L2.St) (H1 : Hp) (D : Addr) (Q : VK) : Prop := ∃ W : Nat → Nat → Hp → Prop, (∃ m, W 0 m (upd H1 D (.dK []))) ∧ ∀ i m H, W i m H →
  (J.stop i H ∧ Q (.ref D) H) ∨ (J.go i H ∧ ∃ Nx : Hp → Prop, (∀ H', Nx H' → ∃ m', m' < m ∧ W (i + 1) m' H') ∧ ∀ x H', J.yld i H x H' → g x (wipe σ vs) H' fun σ2 H2 => wipe σ2 vs = wipe σ vs ∧ tt σ2 H2 fun b H3 =>
    if b = true then tk σ2 H3 fun y H4 => tv σ2 H4 fun z H5 => ∃ kvs k, y = kV k ∧ H5 D = some (.dK kvs) ∧ kvs.length < sizeLine ∧ Nx (upd H5 D (.dK (putK kvs k z))) else Nx H3)
theorem dc_ {wi : TI} {g : TG} {tt : TT} {tk tv : TE} {vs : List Nat} {σ : L2.St} {H : Hp} {Q : VK} (h : wi σ H fun J H1 => ∀ D, H1 D = none → Dc J g tt tk tv vs σ H1 D Q) : tDc wi g tt tk tv vs σ H Q := h
theorem dcx_tup {K : PySem.W.Frag} {a : Addr} {xs : List V} {g : TG} {tt : TT} {tk tv : TE} {vs : List Nat} {σ : L2.St} {H1 : Hp} {D : Addr} {Q : VK} (Pv : Nat → Hp → Prop) (h0 : Pv 0 (upd H1 D (.dK []))) (hl : ∀ i H, i ≤ xs.length → Pv i H → SqT K H a xs)
    (hs : ∀ i x H, xs[i]? = some x → Pv i H → g x (wipe σ vs) H fun σ2 H2 => wipe σ2 vs = wipe σ vs ∧ tt σ2 H2 fun b H3 =>
      if b = true then tk σ2 H3 fun y H4 => tv σ2 H4 fun z H5 => ∃ kvs k, y = kV k ∧ H5 D = some (.dK kvs) ∧ kvs.length < sizeLine ∧ Pv (i + 1) (upd H5 D (.dK (putK kvs k z))) else Pv (i + 1) H3) (hd : ∀ H, Pv xs.length H → Q (.ref D) H) : Dc (Itt K a) g tt tk tv vs σ H1 D Q :=
  dc_tup Pv h0 hl hs hd
end Fx
namespace Fx
open PySem PySem.Spec PyProof.Rows L2
def iEither (i1 i2 : TI) : TI := fun σ H R => i1 σ H R ∨ i2 σ H R
theorem pi_either {X : Cx} {tg e : Expr} {i1 i2 : TI} (h1 : PI X tg e i1) (h2 : PI X tg e i2) : PI X tg e (iEither i1 i2) := ⟨fun pins s σ H R I h => h.elim (h1.run pins s σ H R I) (h2.run pins s σ H R I)⟩
end Fx
namespace Fx
open PySem PySem.Spec PyProof.Rows L2
theorem lcx_tup {K : PySem.W.Frag} {a : Addr} {xs : List V} {g : TG} {tt : TT} {te : TE} {vs : List Nat} {σ : L2.St} {H1 : Hp} {D : Addr} {Q : VK} (Pv : Nat → Hp → Prop) (h0 : Pv 0 (upd H1 D (.lst []))) (hl : ∀ i H, i ≤ xs.length → Pv i H → SqT K H a xs)
    (hs : ∀ i x H, xs[i]? = some x → Pv i H → g x (wipe σ vs) H fun σ2 H2 => wipe σ2 vs = wipe σ vs ∧ tt σ2 H2 fun b H3 =>
      if b = true then te σ2 H3 fun y H4 => ∃ acc, H4 D = some (.lst acc) ∧ acc.length < sizeLine ∧ Pv (i + 1) (upd H4 D (.lst (acc ++ [y]))) else Pv (i + 1) H3) (hd : ∀ H, Pv xs.length H → Q (.ref D) H) : Lc (Itt K a) g tt te vs σ H1 D Q :=
  lc_it walk_tup Pv h0 hl (fun i x H H' hi p y => by
    obtain ⟨rfl, e⟩ := y
    exact hs i x _ e p) hd
end Fx
namespace Fx
open PySem PySem.Spec PyProof.Rows L2
/-- tuple(list) -/
def fTupOf : List V → Hp → VK → Prop := fun xs H Q => match xs with
  | [.ref p] => ∃ ys, H p = some (.lst ys) ∧ ∀ l H1, H l = none → Same H H1 → H1 l = some (.tup ys) → Q (.ref l) H1
  | _ => False
theorem call_fTupOf {X : Cx} : CallR X (.type "tuple") fTupOf := by
  intro pins s σ H xs us Q I r h
  match xs, r, h with
  | [.ref p], r, ⟨ys, h1, h2⟩ => exact call_tuple_of pins s σ H _ us Q I r ⟨p, ys, rfl, .inl ⟨SqL.of h1, fun l nl => h2 l _ nl (same_new nl) upd_same⟩⟩
end Fx

set_option Elab.async false
set_option linter.all false
set_option maxRecDepth 100000
set_option maxHeartbeats 1000000
/-! Zp: zip of a list and a tuple. -/
namespace Fx
open PySem PySem.Spec PyProof.Rows L2
/-- the list at a and the tuple at b as they stand at each turn -/
def ItzM (K : PySem.W.Frag) (a b : Addr) : It where
  go i H := ∃ (xs ys : List V) (x y : V), SqL K H a xs ∧ SqT K H b ys ∧ xs[i]? = some x ∧ ys[i]? = some y
  yld i H v H' := ∃ T x y, v = .ref T ∧ H T = none ∧ H' = upd H T (.tup [x, y]) ∧ (∀ xs, SqL K H a xs → xs[i]? = some x) ∧ ∀ ys, SqT K H b ys → ys[i]? = some y
  stop i H := ∃ xs ys : List V, SqL K H a xs ∧ SqT K H b ys ∧ i ≤ xs.length ∧ i ≤ ys.length ∧ (i = xs.length ∨ i = ys.length)
def StM (zp ti to j1 j2 a b : Addr) (i : Nat) (h : Heap) : Prop := IsZip h zp ti to .none ∧ IsPair h ti (.ref j1) (.ref j2) ∧ (∃ x y, IsPair h to x y) ∧ h.IsListIter j1 a i ∧ h.IsTupleIter j2 b i
theorem sepM {zp ti to j1 j2 a b : Addr} (D : ZipApart zp ti to j1 j2 a b) : ZipSep2 zp ti to j1 j2 [j1, a] [j2, b] := by
  constructor <;> simp [D.TIz, D.TOz, D.TITO, D.TIi1, D.TIi2, Ne.symm D.i1z, Ne.symm D.i2z, Ne.symm D.l1z, Ne.symm D.l2z, D.TOi1, D.TOi2, Ne.symm D.l1TO, Ne.symm D.l2TO, D.i12, Ne.symm D.i12, D.l1i2, D.l2i1, Ne.symm D.l1i2, Ne.symm D.l2i1]
theorem turn_zipM {P : Program} {w : World} {K : PySem.W.Frag} {el : List Expr} {kx : Nat} {tp : Pos} {a b zp ti to j1 j2 : Addr} (D : ZipApart zp ti to j1 j2 a b) : Turn P w K (.Tuple el kx tp) (ItzM K a b) [zp, ti, to, j1, j2] zp (StM zp ti to j1 j2 a b) where
  mem := List.mem_cons_self ..
  obj := fun i h ⟨g1, g2, ⟨x, y, g3⟩, ⟨o1, g4, _, g5⟩, ⟨o2, g6, _, g7⟩⟩ q hq => by
    simp only [List.mem_cons, List.not_mem_nil, or_false] at hq
    rcases hq with rfl | rfl | rfl | rfl | rfl
    · exact ⟨_, g1, fun v e => by cases e⟩
    · exact ⟨_, g2, fun v e => by cases e⟩
    · exact ⟨_, g3, fun v e => by cases e⟩
    · exact ⟨o1, g4, fun v e => by rw [g5] at e; cases e⟩
    · exact ⟨o2, g6, fun v e => by rw [g7] at e; cases e⟩
  keep := fun i h h' ⟨g1, g2, ⟨x, y, g3⟩, g4, g5⟩ k => ⟨k zp (by simp) _ g1, k ti (by simp) _ g2, ⟨x, y, k to (by simp) _ g3⟩, g4.at fun o e => k j1 (by simp) o e, g5.at fun o e => k j2 (by simp) o e⟩
  item := by
    intro X eP ew eK ec i pins s σ H E I hf st hg
    cases eP; cases ew; cases eK
    obtain ⟨g1, g2, ⟨x0, y0, g3⟩, g4, g5⟩ := st
    obtain ⟨xs, ys, x, y, sx, sy, ex, ey⟩ := hg
    obtain ⟨its, rv, pl, _⟩ := I.list sx
    obtain ⟨jts, rw2, pt, _⟩ := I.tuple sy
    obtain ⟨u, hu, ru⟩ := rv.get ex
    obtain ⟨v, hv, rv'⟩ := rw2.get ey
    have hh : X.A.in1.handled = none := I.ok.hd ec
    have lz : zp < s.heap.objs.size := Heap.lt_size g1
    have n1 : i < its.toArray.size := by
      have := (List.getElem?_eq_some_iff.mp hu).1
      simpa using this
    have n2 : i < jts.toArray.size := by
      have := (List.getElem?_eq_some_iff.mp hv).1
      simpa using this
    refine wpAny_pyNext_zipD2_item (sepM D) (Draws.list hh j1 a D.l1i1 its.toArray) (Draws.tuple hh j2 b D.l2i2 jts.toArray) g1 g2 g3 ⟨g4, pl.isList⟩ ⟨g5, pt⟩ n1 n2 fun u' v' hn tk e1 e2 kz ko st1 st2 hT hsz hk => ?_
    have eu : u' = u := by
      have e1 : its.toArray[i]? = some u' := e1
      rw [List.getElem?_toArray, hu] at e1
      exact (Option.some.inj e1).symm
    have ev : v' = v := by
      have e2 : jts.toArray[i]? = some v' := e2
      rw [List.getElem?_toArray, hv] at e2
      exact (Option.some.inj e2).symm
    subst eu ev
    refine ⟨_, rfl, wpAny_letOwnedTupleGo_zip (s := { s with heap := hn, toks := tk }) kz fun hm kz2 sb => ?_⟩
    have hT2 : hm.get? s.heap.objs.size = some { cls := .type "tuple", data := .seq #[u', v'] } := (sb.2 _ (Nat.ne_of_gt lz)).trans hT
    have new : ObjOk X.prog X.w (upd H s.heap.objs.size (.tup [x, y])) hm s.heap.objs.size (.tup [x, y]) := ⟨by show 2 ≤ sizeLine; decide, [u', v'], .cons ru (.cons rv' .nil), ⟨_, hT2, rfl, _, rfl⟩⟩
    have I1 : Inv X pins σ (upd H s.heap.objs.size (.tup [x, y])) { s with heap := hm, toks := tk } :=
      I.turnedNew (ch := [zp, ti, to, j1, j2]) (fun q o hq e => (sb.2 q (fun z => hq (by simp [z]))).trans (hk q o (fun z => hq (by simp [z])) (fun z => hq (by simp [z])) (fun z => hq (by simp [z])) (fun z => hq (by simp [z])) e)) hf (Nat.le_refl _) new
    refine ⟨.ref s.heap.objs.size, _, I1, rfl, ⟨_, x, y, rfl, I.hok.fresh (Nat.le_refl _), rfl, fun l hl => by rw [I.list_inj hl sx]; exact ex, fun l hl => by rw [I.tuple_inj hl sy]; exact ey⟩, ⟨kz2, ?_, ⟨u', v', ?_⟩, ?_, ?_⟩, fun q hq => ?_⟩
    · exact (sb.2 _ D.TIz).trans (hk _ _ D.TIz D.TITO D.TIi1 D.TIi2 g2)
    · exact (sb.2 _ D.TOz).trans ko
    · exact st1.1.at fun o e => (sb.2 _ D.i1z).trans e
    · exact st2.1.at fun o e => (sb.2 _ D.i2z).trans e
    · have hlt : q < s.heap.objs.size := by
        simp only [List.mem_cons, List.not_mem_nil, or_false] at hq
        rcases hq with rfl | rfl | rfl | rfl | rfl
        · exact lz
        · exact Heap.lt_size g2
        · exact Heap.lt_size g3
        · obtain ⟨_, e, _⟩ := g4; exact Heap.lt_size e
        · obtain ⟨_, e, _⟩ := g5; exact Heap.lt_size e
      rw [upd_ne (Nat.ne_of_lt hlt)]
      exact (hf q hq).1
  done := by
    intro X eP ew eK ec i pins s σ H E I hf st hg
    cases eP; cases ew; cases eK
    obtain ⟨g1, g2, ⟨x0, y0, g3⟩, g4, g5⟩ := st
    obtain ⟨xs, ys, sx, sy, l1, l2, l3⟩ := hg
    obtain ⟨its, rv, pl, _⟩ := I.list sx
    obtain ⟨jts, rw2, pt, _⟩ := I.tuple sy
    have hh : X.A.in1.handled = none := I.ok.hd ec
    have m1 : its.toArray.size = xs.length := by rw [rv.length]; simp
    have m2 : jts.toArray.size = ys.length := by rw [rw2.length]; simp
    exact wpAny_pyNext_zipD2_end (sepM D) (Draws.list hh j1 a D.l1i1 its.toArray) (Draws.tuple hh j2 b D.l2i2 jts.toArray) g1 g2 g3 ⟨g4, pl.isList⟩ ⟨g5, pt⟩ (by omega) (by omega) (by omega) fun hn tk hk =>
      ⟨rfl, I.turnedL (ch := [zp, ti, to, j1, j2]) (fun q o hq e => hk q o (fun z => hq (by simp [z])) (fun z => hq (by simp [z])) (fun z => hq (by simp [z])) (fun z => hq (by simp [z])) e) hf⟩
  self := fun A i s Q E st q => wpAny_pyIter_zip st.1 q
/-- for .. in zip(list, tuple) -/
def iZipM (K : PySem.W.Frag) (ta : TA) : TI := fun σ H R => ta σ H fun vs H1 => match vs with
  | [.ref a, .ref b] => ∃ xs ys, SqL K H1 a xs ∧ SqT K H1 b ys ∧ R (ItzM K a b) H1
  | _ => False
theorem pi_zipM {X : Cx} {e e2 : Expr} {ta : TA} {p pos tpos : Pos} {elts : List Expr} {kk : Nat} (hg : Gl X "zip") (hm : X.mg "zip" = none) (ha : PA X [e, e2] ta)
    (hs : starEach [e, e2] X.env = (false, eval e X.env) :: starEach [e2] X.env := by rfl) (hpl : (backTo pos (starEach [e2] X.env)).any (·.1) = false := by rfl) :
    PI X (.Tuple elts kk tpos) (.Call (.Name "zip" p) [e, e2] [] pos) (iZipM X.K ta) := by
  refine ⟨fun pins s σ H R I h => Call_ (ld_blt I hg hm PyProof.Rows.boot_zip (PyProof.Rows.callWith_type1 (thn (ha.run pos pins s σ H _ I h) fun us s1 ⟨vs, H1, I1, r1, q1⟩ => ?_) hs hpl))⟩
  dsimp only at q1
  split at q1
  · rename_i a b
    obtain ⟨xs, ys, sx, sy, q⟩ := q1
    cases r1 with
    | cons r t =>
     cases t with
     | cons r' t =>
      cases t
      cases r
      cases r'
      obtain ⟨its, rv, pl, _⟩ := I1.list sx
      obtain ⟨jts, rw2, pt, _⟩ := I1.tuple sy
      obtain ⟨o1, ho1, _⟩ := id pl.isList
      obtain ⟨o2, ho2, _⟩ := id pt
      have five : ∀ q, q ∈ [s1.heap.objs.size + 4, s1.heap.objs.size + 2, s1.heap.objs.size + 3, s1.heap.objs.size, s1.heap.objs.size + 1] → FpOk X pins H1 q := fun q hq => by
        have : s1.heap.objs.size ≤ q := by
          simp only [List.mem_cons, List.not_mem_nil, or_false] at hq
          omega
        exact I1.fpOk this (I1.hok.fresh this)
      refine zip_begins2 (begins_list a its.toArray) (begins_tuple b jts.toArray) pl.isList pt fun hn k1 k2 k3 k4 k5 _ hk => wpAny_pyIter_zip k1 ?_
      exact ⟨_, _, _, _, H1, rfl, I1.kept (t' := s1.toks) hk, turn_zipM (PySem.W.ktu_apart s1.heap.objs.size a b (Heap.lt_size ho1) (Heap.lt_size ho2)), ⟨k1, k2, ⟨_, _, k3⟩, ⟨_, k4, rfl, rfl⟩, ⟨_, k5, rfl, rfl⟩⟩, five, q⟩
  · exact q1.elim
/-- its loop -/
theorem loop_zipM {K : PySem.W.Frag} {a b : Addr} {xs ys : List V} {g : TG} {tb : TS} {D : Ends} {σ : L2.St} {H : Hp} (hl : xs.length = ys.length) (Pv : Nat → L2.St → Hp → Prop) (h0 : Pv 0 σ H) (hq : ∀ i σ H, Pv i σ H → SqL K H a xs ∧ SqT K H b ys)
    (hs : ∀ (i : Nat) (x y : V) (T : Addr) (σ : L2.St) (H : Hp), xs[i]? = some x → ys[i]? = some y → Pv i σ H → H T = none → g (.ref T) σ (upd H T (.tup [x, y])) fun σ2 H2 => tb { D with nx := Pv (i + 1), ct := Pv (i + 1), bk := D.nx } σ2 H2) (hd : ∀ σ H, Pv xs.length σ H → D.nx σ H) : Loop (ItzM K a b) g tb D σ H := by
  refine ⟨fun i m σ H => m = xs.length - i ∧ i ≤ xs.length ∧ Pv i σ H, ⟨_, rfl, Nat.zero_le _, h0⟩, fun i m σ H ⟨em, hi, hp⟩ => ?_⟩
  subst em
  obtain ⟨qx, qy⟩ := hq i σ H hp
  rcases Nat.lt_or_ge i xs.length with lt | ge
  · refine .inr ⟨⟨xs, ys, xs[i], ys[i]'(by omega), qx, qy, List.getElem?_eq_getElem _, List.getElem?_eq_getElem _⟩, Pv (i + 1), fun σ' H' p' => ⟨xs.length - (i + 1), by omega, rfl, lt, p'⟩, fun v H' ⟨T, x', y', e1, e2, e3, f1, f2⟩ => ?_⟩
    subst e1 e3
    exact hs i x' y' T σ H (f1 xs qx) (f2 ys qy) hp e2
  · have e : i = xs.length := by omega
    subst e
    exact .inl ⟨⟨xs, ys, qx, qy, Nat.le_refl _, by omega, .inl rfl⟩, hd σ H hp⟩
/-! ### dicts of the module whose values are tuples of scalars -/
def EntT (K : PySem.W.Frag) (d : Addr) : Str × Option (List V) → Prop
  | (z, none) => PySem.W.nsIn K d z = some none
  | (z, some xs) => ∃ a, PySem.W.nsIn K d z = some (some (.ref a)) ∧ ∀ H, SqT K H a xs
theorem entt_none {K : PySem.W.Frag} {d : Addr} {z : Str} (h : PySem.W.nsIn K d z = some none) : EntT K d (z, none) := h
theorem entt_tup {K : PySem.W.Frag} {d a : Addr} {z : Str} {xs : List V} {od : Option Addr} {its : Array Value} {n : Nat} {sl : Array (Option Value)} (h1 : PySem.W.nsIn K d z = some (some (.ref a))) (h2 : K.lookup a = some ⟨.type "tuple", od, .seq its n, sl⟩) (h3 : absVs its.toList = some xs) (h4 : its.size ≤ 1000) : EntT K d (z, some xs) :=
  ⟨a, h1, fun _ => .inr ⟨_, its, n, h2, rfl, rfl, Nat.le_trans h4 (by decide), absVs_rel h3⟩⟩
structure DTAt (K : PySem.W.Frag) (w : World) (d : Addr) (ks : List (Str × Option (List V))) : Prop where
  ex : ∃ es n, KDict K w d es n
  en : ∀ p ∈ ks, EntT K d p
def GDictT (K : PySem.W.Frag) (w : World) (mg : Str → Option Value) (x : Str) (ks : List (Str × Option (List V))) : Prop := ∃ d, mg x = some (.ref d) ∧ DTAt K w d ks
structure GDictTF (K : PySem.W.Frag) (w : World) (x : Str) (ks : List (Str × Option (List V))) : Prop where
  ex : ∃ d, PySem.W.nsIn K mainGlobals x = some (some (.ref d)) ∧ DTAt K w d ks
theorem GDictTF.of {K : PySem.W.Frag} {w : World} {x : Str} {ks : List (Str × Option (List V))} {d : Addr} {es : Array DictEntry} {n : Nat} (h1 : PySem.W.nsIn K mainGlobals x = some (some (.ref d))) (h2 : K.lookup d = some ⟨.type "dict", none, .dict es n, #[]⟩)
    (h3 : PySem.W.KeysLit w.params es.toList) (h4 : (d == sysModules) = false) (h5 : ∀ p ∈ ks, EntT K d p) : GDictTF K w x ks := ⟨d, h1, ⟨es, n, h2, h3, h4⟩, h5⟩
theorem GDictTF.get {K : PySem.W.Frag} {w : World} {mg : Str → Option Value} {x : Str} {ks : List (Str × Option (List V))} {h : Heap} (X : K.In h) (G : h.Ns mainGlobals mg) (F : GDictTF K w x ks) : GDictT K w mg x ks := by
  obtain ⟨d, h1, h2⟩ := F.ex
  exact ⟨d, PySem.W.mg_of X G h1, h2⟩
theorem entt_at {K : PySem.W.Frag} {d : Addr} {z : Str} {o : Option (List V)} : ∀ {ks : List (Str × Option (List V))}, (∀ p ∈ ks, EntT K d p) → ks.lookup z = some o → EntT K d (z, o)
  | [], _, h => by cases h
  | (y, p) :: ks, hk, h => by
    rw [List.lookup_cons] at h
    split at h
    · rename_i e
      cases h
      have e' := eq_of_beq e
      subst e'
      exact hk _ (List.mem_cons_self ..)
    · exact entt_at (fun q hq => hk q (List.mem_cons_of_mem _ hq)) h
def fGdT_ (K : PySem.W.Frag) (w : World) (ks : List (Str × Option (List V))) : TE := fun _ H Q => ∀ d, DTAt K w d ks → Q (.ref d) H
section
variable {X : Cx}
theorem fe_gdictT {x : Str} {pos : Pos} {ks : List (Str × Option (List V))} (hg : Gl X x) (h : GDictT X.K X.w X.mg x ks) (hd : (x == ("__debug__" : Str)) = false := by decide) : PE X (.Name x pos) (fGdT_ X.K X.w ks) := by
  obtain ⟨d, h, hs⟩ := h
  exact pe_wk (pe_glob hg h (v := .ref d) rfl hd) fun σ H Q q => q d hs
def fInDT (K : PySem.W.Frag) (w : World) : R2 := fun x y H Q => match x, y with
  | .str z, .ref d => ∃ ks o, DTAt K w d ks ∧ ks.lookup z = some o ∧ Q (.bl o.isSome) H
  | _, _ => False
theorem op_fInDT : OpR X (compareOp .In) (fInDT X.K X.w) := by
  intro pins s σ H x y v u Q I rx ry h
  match x, y, rx, ry, h with
  | .str z, .ref d, rx, ry, ⟨ks, o, D, e, q⟩ =>
    obtain ⟨es, n, kd⟩ := D.ex
    have en := entt_at D.en e
    cases o with
    | none => exact op_in_kd kd pins s σ H _ _ v u Q I rx ry ⟨z, none, rfl, rfl, en, q⟩
    | some xs =>
      obtain ⟨a, e0, _⟩ := en
      exact op_in_kd kd pins s σ H _ _ _ u Q I rx ry ⟨z, some (.ref a), rfl, rfl, e0, q⟩
def fIxDT (K : PySem.W.Frag) (w : World) : R2 := fun x y H Q => match x, y with
  | .ref d, .str z => ∃ ks xs, DTAt K w d ks ∧ ks.lookup z = some (some xs) ∧ ∀ a, (∀ H', SqT K H' a xs) → Q (.ref a) H
  | _, _ => False
theorem ix_fxDT : IxR X (fIxDT X.K X.w) := by
  intro e1 e2 pins s σ H x y v u Q I rx ry h hs
  match x, y, rx, ry, h with
  | .ref d, .str z, rx, ry, ⟨ks, xs, D, e, q⟩ =>
    obtain ⟨es, n, kd⟩ := D.ex
    obtain ⟨a, e0, r0⟩ := entt_at D.en e
    exact ix_kdict e1 e2 pins s σ H (.ref d) (.str z) v u Q I rx ry ⟨d, z, .ref a, rfl, rfl, ⟨es, n, .ref a, kd.at_, kd.lit, e0, rfl⟩, q a r0⟩ hs
end
end Fx
namespace Fx
open PySem PySem.Spec PyProof.Rows L2
section
variable {X : Cx} {o i e : Expr} {to ti te : TE} {tpos pos p1 p2 p3 : Pos} {k : Nat}
/-- xs[::-1] -/
def fRevL (K : PySem.W.Frag) (te : TE) : TE := fun σ H Q => te σ H fun x H1 => match x with
  | .ref a => ∃ xs, SqL K H1 a xs ∧ ∀ p H2, H1 p = none → Same H1 H2 → H2 p = some (.lst xs.reverse) → Q (.ref p) H2
  | _ => False
theorem fe_revL (he : PE X e te) : PE X (.Subscript e (.Slice none none (some (.UnaryOp .USub (.Constant (.int 1) k p1) p2)) p3) pos) (fRevL X.K te) :=
  pe_wk (pe_revL (pe_clos he)) fun σ H Q q => ⟨_, q, fun x H1 q => by
    split at q
    · rename_i a
      obtain ⟨xs, h, q⟩ := q
      exact ⟨a, xs, rfl, h, fun p np => q p _ np (same_new np) upd_same⟩
    · exact q.elim⟩
/-- del xs[i] -/
def sDelL (to ti : TE) : TS := fun D σ H => to σ H fun x H1 => ti σ H1 fun y H2 => match x, y with
  | .ref l, .int i => ∃ xs, ∃ n : Nat, H2 l = some (.lst xs) ∧ i = (n : Nat) ∧ n < xs.length ∧ n < 1000000 ∧ D.nx σ (upd H2 l (.lst (xs.eraseIdx n)))
  | _, _ => False
theorem fs_delL (ho : PE X o to) (hi : PE X i ti) : PS X (.Delete [.Subscript o i tpos] pos) (sDelL to ti) :=
  ps_wk (ps_delL (pe_clos ho) (pe_clos hi)) fun D σ H q => ⟨_, q, fun x H1 q => ⟨_, q, fun y H2 q => by
    split at q
    · obtain ⟨xs, n, h1, rfl, h2, h3, q⟩ := q
      refine ⟨_, xs, _, n, rfl, rfl, h1, by omega, by omega, ?_, q⟩
      unfold seqIndex?
      simp
      omega
    · exact q.elim⟩⟩
/-- for at, x in enumerate(xs) -/
def iEnum_ (K : PySem.W.Frag) (ta : TA) : TI := fun σ H R => ta σ H fun vs H1 => match vs with
  | [.ref a] => (∃ xs, SqL K H1 a xs) ∧ R (Ite K a) H1
  | _ => False
theorem pi_enum_ {ta : TA} {p pos tpos : Pos} {elts : List Expr} {kk : Nat} (hg : Gl X "enumerate") (hm : X.mg "enumerate" = none) (ha : PA X [e] ta) (hs : starEach [e] X.env = [(false, eval e X.env)] := by rfl) : PI X (.Tuple elts kk tpos) (.Call (.Name "enumerate" p) [e] [] pos) (iEnum_ X.K ta) :=
  ⟨fun pins s σ H R I h => (pi_enum hg hm (pa_clos ha) hs).run pins s σ H R I ⟨_, h, fun vs H1 q => by
    split at q
    · obtain ⟨⟨xs, h⟩, q⟩ := q
      exact ⟨_, xs, rfl, h, q⟩
    · exact q.elim⟩⟩
/-- list + list and the like in comprehensions over enumerate -/
theorem lcx_enum {K : PySem.W.Frag} {a : Addr} {xs : List V} {g : TG} {tt : TT} {te : TE} {vs : List Nat} {σ : L2.St} {H1 : Hp} {D : Addr} {Q : VK} (Pv : Nat → Hp → Prop) (h0 : Pv 0 (upd H1 D (.lst []))) (hl : ∀ i H, i ≤ xs.length → Pv i H → SqL K H a xs)
    (hs : ∀ (i : Nat) x T H H', xs[i]? = some x → Pv i H → H T = none → H' = upd H T (.tup [.int (i : Nat), x]) → g (.ref T) (wipe σ vs) H' fun σ2 H2 => wipe σ2 vs = wipe σ vs ∧ tt σ2 H2 fun b H3 =>
      if b = true then te σ2 H3 fun y H4 => ∃ acc, H4 D = some (.lst acc) ∧ acc.length < sizeLine ∧ Pv (i + 1) (upd H4 D (.lst (acc ++ [y]))) else Pv (i + 1) H3) (hd : ∀ H, Pv xs.length H → Q (.ref D) H) : Lc (Ite K a) g tt te vs σ H1 D Q :=
  lc_it walk_enum Pv h0 hl (fun i x H H' hi p y => by
    obtain ⟨T, u, v, e1, e2, e3, e4, e5⟩ := y
    cases e4
    subst e1
    exact hs i v T H H' e5 p e2 e3) hd
end
end Fx
namespace Fx
open PySem PySem.Spec PyProof.Rows L2
/-- a op1 b op2 c op3 d, as a test -/
def tChain3 (r1 r2 r3 : R2) (ta tb tc td : TE) : TT := fun σ H Q => ta σ H fun x H1 => tb σ H1 fun y H2 => r1 x y H2 fun v1 H3 => ∃ k, v1 = .bl k ∧ if k = true then tc σ H3 fun z H4 => r2 y z H4 fun v2 H5 => ∃ j, v2 = .bl j ∧ (if j = true then td σ H5 fun u H6 => r3 z u H6 fun v3 H7 => ∃ i, v3 = .bl i ∧ Q i H7 else Q false H5) else Q false H3
theorem pt_chain3 {X : Cx} {o1 o2 o3 : CmpOp} {r1 r2 r3 : R2} {a b c d : Expr} {ta tb tc td : TE} {pos : Pos} (h1 : OpR X (compareOp o1) r1) (h2 : OpR X (compareOp o2) r2) (h3 : OpR X (compareOp o3) r3) (ha : PE X a ta) (hb : PE X b tb) (hc : PE X c tc) (hd : PE X d td)
    (hm : lastMarks [o1, o2, o3] [b, c, d] = false := by with_unfolding_all rfl) : PT X (.Compare a [o1, o2, o3] [b, c, d] pos) (tChain3 r1 r2 r3 ta tb tc td) :=
  ⟨fun pins s σ H Q I h => isTrue_chain (thn (ha.run pins s σ H _ I h) fun v s1 ⟨x, H1, I1, e1, q1⟩ => test_link (thn (hb.run pins s1 σ H1 _ I1 q1) fun u s2 ⟨y, H2, I2, e2, q2⟩ =>
    thn (h1 pins s2 σ H2 x y v u _ I2 e1 e2 q2) fun t s3 ⟨z, H3, I3, e3, k, ek, q3⟩ => by
      subst ek
      cases e3
      refine wpAny_truthy_bool ?_
      cases k with
      | false => exact ite_ff ⟨H3, I3, q3⟩
      | true =>
        refine ite_tt (test_link (thn (hc.run pins s3 σ H3 _ I3 q3) fun v4 s4 ⟨z4, H4, I4, e4, q4⟩ => thn (h2 pins s4 σ H4 y z4 u v4 _ I4 e2 e4 q4) fun t5 s5 ⟨z5, H5, I5, e5, j, ej, q5⟩ => ?_))
        subst ej
        cases e5
        refine wpAny_truthy_bool ?_
        cases j with
        | false => exact ite_ff ⟨H5, I5, q5⟩
        | true =>
          refine ite_tt (test_last (thn (hd.run pins s5 σ H5 _ I5 q5) fun v6 s6 ⟨z6, H6, I6, e6, q6⟩ => thn (h3 pins s6 σ H6 z4 z6 v4 v6 _ I6 e4 e6 q6) fun t7 s7 ⟨z7, H7, I7, e7, i, ei, q7⟩ => ?_))
          subst ei
          cases e7
          exact wpAny_truthy_bool ⟨H7, I7, q7⟩)) hm⟩
end Fx
namespace Fx
open PySem PySem.Spec PyProof.Rows L2
theorem pg_tupK {X : Cx} {K : PySem.W.Frag} {es : List Expr} {k : Nat} {t : TGs} {n : Nat} {pos : Pos} (hK : X.K = K) (hc : X.calm = true) (h : PGs X es t) (hn : (assignEach es X.env).length = n := by rfl) (hst : (assignEach es X.env).findIdx? (·.1) = none := by rfl) : PG X (.Tuple es k pos) (gTup K n t) := hK ▸ pg_tup hc h hn hst
end Fx
namespace Fx
open PySem PySem.Spec PyProof.Rows L2
/-- what follows an expression is a word of its own -/
theorem cute_ {t : TE} {σ : L2.St} {H : Hp} {Q : VK} (h : ∀ N : VK, (∀ v H1, Q v H1 → N v H1) → t σ H N) : t σ H Q := h _ fun _ _ x => x
end Fx
namespace Fx
open PySem PySem.Spec PyProof.Rows L2
def fClear : V → List V → Hp → VK → Prop := fun x vs H Q => match x, vs with
  | .ref l, [] => match H l with
    | some (.lst _) => Q .non (upd H l (.lst []))
    | _ => False
  | _, _ => False
theorem mt_fClear {X : Cx} : MtR X "list.clear" fClear := by
  intro pins s σ H x xs v us Q I rx rs h
  unfold fClear at h
  split at h
  · split at h
    · exact mt_clear pins s σ H _ _ v us Q I rx rs ⟨_, _, rfl, rfl, by assumption, h⟩
    · exact h.elim
  · exact h.elim
end Fx

set_option Elab.async false
set_option linter.all false
set_option maxRecDepth 100000
set_option maxHeartbeats 1000000
/-! Wr: text.replace of written texts, loops over enumerate. -/
namespace Fx
open PySem PySem.Spec PyProof.Rows L2
section
variable {X : Cx}
/-- e.replace("a", "b") by value -/
def fReplC (to : TE) (y z : Str) : TE := fun σ H Q => to σ H fun v H1 => match v with
  | .str x => x.length + (x.length + 1) * z.length ≤ 16777216 ∧ Q (.str (Txt.replace x y z)) H1
  | _ => False
theorem pet_wk {e : Expr} {t t' : TE} (h : PET X e t) (wk : ∀ σ H Q, t' σ H Q → t σ H Q) : PET X e t' := fun pins s σ H Q h0 I q => h pins s σ H Q h0 I (wk σ H Q q)
theorem pet_clos {e : Expr} {t : TE} (h : PET X e t) : PET X e (clos t) := fun pins s σ H Q h0 I ⟨Q0, q, wk⟩ => wpAny_mono (h pins s σ H Q0 h0 I q) (fun u s' ⟨v, H', I', r, q⟩ => ⟨v, H', I', r, wk v H' q⟩) fun _ _ x => x
theorem fet_repl {o : Expr} {to : TE} {y z : Str} {j k : Nat} {c0 c1 apos pos : Pos} (ho : PET X o to) (hyz : (y == z) = false)
    (hst : starEach [.Constant (.str y) j c0, .Constant (.str z) k c1] X.env = [(false, eval (.Constant (.str y) j c0) X.env), (false, eval (.Constant (.str z) k c1) X.env)] := by rfl)
    (hbase : attributeBase o "replace" X.env (eval o X.env) = eval o X.env := by rfl) (hline : (apos.endLine == pos.line) = true := by rfl) :
    PET X (.Call (.Attribute o "replace" apos) [.Constant (.str y) j c0, .Constant (.str z) k c1] [] pos) (fReplC to y z) :=
  pet_wk (CwR.pet_replT (pet_clos ho) hyz hst hbase hline) fun σ H Q q => ⟨_, q, fun v H1 q => by
    split at q
    · exact ⟨_, rfl, q⟩
    · exact q.elim⟩
/-- i ** j, small -/
def fPow : R2 := fun x y H Q => match x, y with
  | .int i, .int j => (0 ≤ j ∧ j ≤ 1000000 ∧ i.natAbs < 18446744073709551616) ∧ Q (.int (i ^ j.toNat)) H
  | _, _ => False
theorem op_fPow : OpR X (binaryOp .Pow) fPow := by
  intro pins s σ H x y v u Q I rx ry h
  match x, y, rx, ry, h with
  | .int i, .int j, rx, ry, h => exact op_pow pins s σ H _ _ v u Q I rx ry ⟨i, j, rfl, rfl, h.1, h.2⟩
/-- x = e, e with a token -/
theorem pst_set {i : Nat} {x : Str} {e : Expr} {te : TE} {pos pos' : Pos} (hN : X.N.Nodup) (hi : X.N[i]? = some x) (hx : Loc X.env.scope x) (he : PET X e te) (hs : swapsWith e (some (.Name x pos')) pos.line X.env = pure false) (hf : X.fn x = true ∨ X.env.scope.names.lookup x = some .local := by first | exact .inl rfl | exact .inr rfl | assumption) :
    PST X (.Assign [.Name x pos'] e pos) (tAsg te (gName i)) := fun pins s σ H D h0 I h =>
  wpAny_Assign_Name (thn (he pins s σ H _ h0 I h) fun _ s1 ⟨_, H1, I1, r1, q1⟩ => store_ok I1 hN hi hx r1 (fun _ I2 => ⟨_, H1, I2, q1⟩) hf) hs
end
section
variable {P : Program} {w : World} {K : PySem.W.Frag} {mg : Str → Option Value} {base : Heap}
/-- a def whose body takes a token -/
theorem hasT_of {x qual : Str} {st : Stmt} {N ps : List Str} {k : Nat} {sp : Sp} (A : At K mg x qual st ps) (S : FnScope N ps (defScope st)) (hnc : ∀ y ∈ (defScope st).names, y.2 ≠ .cell) (hps : 1 ≤ ps.length) (len : ∀ vs H Q E, sp vs H Q E → vs.length = ps.length)
    (hbody : ∀ (cdv : Value) (f : Addr) (A : Around) (outer : List Env) (s : Shared) (H : Hp) (vs : List V) (Q : VK) (E : XK), Room k (A.deeper (envOfC qual (defScope st) s.heap.objs.size f cdv)) → sp vs H Q E →
      ∃ t, PSsT (cxOf CX0 P w K mg base N qual (defScope st) f cdv A outer s H E) (defBody st) t ∧ t { nx := fun _ H' => Q .non H', rt := Q } (start N vs) H) : Has P w K mg base CX0 x (k + 1) ps sp := by
  obtain ⟨f, fd, F, B, G⟩ := A.ex
  have F2 := F
  obtain ⟨oc, od, kV, doc, pm, an, cdv, ct, osl, rfl, lk, hcd⟩ := F.ex
  exact ⟨f, _, fn_ofT lk hcd S hnc hps len fun A outer s H vs Q E hr hsp => hbody cdv f A outer s H vs Q E hr hsp, B, G, F2.kp⟩
end
/-- the loop of for at, x in enumerate(xs) -/
theorem loop_enum {K : PySem.W.Frag} {a : Addr} {xs : List V} {g : TG} {tb : TS} {D : Ends} {σ : L2.St} {H : Hp} (Pv : Nat → L2.St → Hp → Prop) (h0 : Pv 0 σ H) (hl : ∀ i σ H, i ≤ xs.length → Pv i σ H → SqL K H a xs)
    (hs : ∀ (i : Nat) x T σ H, xs[i]? = some x → Pv i σ H → H T = none → g (.ref T) σ (upd H T (.tup [.int (i : Nat), x])) fun σ2 H2 => tb { D with nx := Pv (i + 1), ct := Pv (i + 1), bk := D.nx } σ2 H2) (hd : ∀ σ H, Pv xs.length σ H → D.nx σ H) : Loop (Ite K a) g tb D σ H :=
  L2.for_it walk_enum Pv h0 hl (fun i x σ H H' hi p y => by
    obtain ⟨T, u, v, e1, e2, e3, e4, e5⟩ := y
    cases e4
    subst e1
    rw [e3]
    exact hs i v T σ H e5 p e2) hd
end Fx

set_option Elab.async false
set_option linter.all false
set_option maxRecDepth 100000
set_option maxHeartbeats 1000000
/-! Df: makings of classes whose __init__ has one default, the empty tuple. -/
namespace Fx
open PySem PySem.Spec PyProof.Rows L2
/-- what the top has written of a method with one default, the empty tuple -/
structure MFactD (K : PySem.W.Frag) (C : Addr) (x qual : Str) (st : Stmt) : Prop where
  ex : ∃ (f : Addr) (oc : Value) (od an : Option Addr) (sl : Array (Option Value)) (T e : Addr) (kV dc pm cd ct : Value) (o : Obj) (n : Nat),
    PySem.W.findIn K (.ref C) x = some (some (.ref f)) ∧ K.lookup f = some ⟨oc, od, .func (PySem.W.fnOf x qual (defArgs st) (defBody st) (defScope st) (.ref T) kV dc pm an cd ct), sl⟩ ∧
    PySem.W.codeIn K cd qual = true ∧ PySem.W.keepIn K (.ref f) = true ∧ PySem.W.isFn K (.ref f) = true ∧ K.lookup T = some o ∧ o.data = .seq [Value.ref e].toArray n ∧ ∀ H, SqT K H e []
/-- such a method, with the parameters ps (the last one has the default) -/
structure AtD (K : PySem.W.Frag) (C : Addr) (x qual : Str) (st : Stmt) (ps : List Str) : Prop where
  ex : ∃ (f : Addr) (fd : FuncData) (e : Addr) (ds : List Value), FunD K x qual (defArgs st) (defBody st) (defScope st) [.ref e] [] f fd ∧ (∀ H, SqT K H e []) ∧ Vals [.ref e] ds ∧ Binds K fd ps ds ∧ Meth K C x f
theorem AtD.of {K : PySem.W.Frag} {C : Addr} {x qual : Str} {st : Stmt} {ps : List Str} {n : Nat} (F : MFactD K C x qual st) (hn : n + 1 = ps.length)
    (h : ∀ (T : Addr) (kV doc pm : Value) (an : Option Addr) (cdv ct : Value) (us its : List Value), us.length = n → its.length = 1 →
      ∃ k, bindArgs (PySem.W.fnOf x qual (defArgs st) (defBody st) (defScope st) (.ref T) kV doc pm an cdv ct) ⟨us, []⟩ = seqItems? (.ref T) >>= k ∧ k (some its.toArray) = pure (ps.zip (us ++ its))) : AtD K C x qual st ps := by
  obtain ⟨f, oc, od, an, sl, T, e, kV, dc, pm, cd, ct, o, m, a, l, c, k, i, lT, oT, hE⟩ := F.ex
  have FD : FunD K x qual (defArgs st) (defBody st) (defScope st) [.ref e] [] f (PySem.W.fnOf x qual (defArgs st) (defBody st) (defScope st) (.ref T) kV dc pm an cd ct) :=
    ⟨⟨oc, od, .ref T, kV, dc, pm, an, cd, ct, sl, rfl, l, c, .inr ⟨by simp, T, o, [.ref e], m, rfl, lT, oT, .cons rfl .nil⟩, .inl rfl⟩, k⟩
  obtain ⟨ds, hd, hb⟩ := FD.binds1 (ps := ps) n 0 (by simp) hn h
  exact ⟨f, _, e, ds, FD, hE, hd, hb, ⟨a, i, k⟩⟩
/-- a class whose making (all but the default are given) keeps a promise -/
structure HasCD (P : Program) (w : World) (K : PySem.W.Frag) (mg : Str → Option Value) (base : Heap) (CX : CXT) (C : Addr) (x : Str) (k : Nat) (ps : List Str) (sp : Sp) : Prop where
  ex : ∃ (f : Addr) (fd : FuncData) (sp' : Sp) (dv : V) (ds : List Value), FnOk P w K mg base CX k f fd ps sp' ∧ Binds K fd ps ds ∧ Vals [dv] ds ∧ Mk K C f ∧ mg x = some (.ref C) ∧
    ∀ vs H Q E, sp vs H Q E → ∀ y dx H0, H y = none → Same H H0 → H0 y = some (.ins C dx []) → sp' (.ref y :: (vs ++ [dv])) H0 (fun v H2 => v = .non ∧ Q (.ref y) H2) E
section
variable {P : Program} {w : World} {K : PySem.W.Frag} {mg : Str → Option Value} {base : Heap}
theorem hasCD_of {C : Addr} {x qual : Str} {st : Stmt} {N ps : List Str} {k : Nat} {sp : Sp} (M : MkAt K mg x C) (A : AtD K C "__init__" qual st ps) (S : FnScope N ps (defScope st)) (len : ∀ vs H Q E, sp vs H Q E → vs.length + 2 = ps.length)
    (hbody : ∀ (cdv : Value) (A : Around) (outer : List Env) (s : Shared) (f : Addr) (H : Hp) (vs : List V) (Q : VK) (E : XK) (y dx e : Addr) (H0 : Hp), Room k (A.deeper (envOfC qual (defScope st) s.heap.objs.size f cdv)) → sp vs H Q E → H y = none → Same H H0 → H0 y = some (.ins C dx []) → (∀ H, SqT K H e []) →
      ∃ t, PSs (cxOf CX0 P w K mg base N qual (defScope st) f cdv A outer s H0 E) (defBody st) t ∧ t { nx := fun _ H' => Q (.ref y) H', rt := fun v H' => v = .non ∧ Q (.ref y) H' } (start N (.ref y :: (vs ++ [.ref e]))) H0) : HasCD P w K mg base CX0 C x (k + 1) ps sp := by
  obtain ⟨f, fd, e, ds, F, hE, hd, B, G⟩ := A.ex
  refine ⟨f, fd, fun ws H0 Q' E => ∃ y vs H Q dx, ws = .ref y :: (vs ++ [.ref e]) ∧ sp vs H Q E ∧ H y = none ∧ Same H H0 ∧ H0 y = some (.ins C dx []) ∧ Q' = fun v H2 => v = .non ∧ Q (.ref y) H2, .ref e, ds, ?_, B, hd, ⟨M.makes, G.at_, G.fn, M.kp⟩, M.at_, ?_⟩
  · refine F.ok S (fun ws H0 Q' E h => ?_) fun cdv A outer s H0 ws Q' E hr h => ?_
    · obtain ⟨y, vs, H, Q, dx, rfl, h, _⟩ := h
      have := len vs H Q E h
      rw [List.length_cons, List.length_append, List.length_singleton]
      exact this
    · obtain ⟨y, vs, H, Q, dx, rfl, h, hy, hs, h0, rfl⟩ := h
      obtain ⟨t, h1, h2⟩ := hbody cdv A outer s f H vs Q E y dx e H0 hr h hy hs h0 hE
      refine ⟨t, h1, ?_⟩
      have e : (fun (_ : L2.St) (H' : Hp) => (fun v H2 => v = V.non ∧ Q (.ref y) H2) V.non H') = fun _ H' => Q (.ref y) H' := by
        funext _ H'
        exact propext ⟨fun h => h.2, fun h => ⟨rfl, h⟩⟩
      rw [e]
      exact h2
  · intro vs H Q E h y dx H0 hy hs h0
    exact ⟨y, vs, H, Q, dx, rfl, h, hy, hs, h0, rfl⟩
end
section
variable {X : Cx} {CX : CXT} {k : Nat} {C : Addr} {x : Str} {p pos : Pos} {e : Expr} {es : List Expr} {t : TA} {ps : List Str} {sp : Sp} {E : XK}
theorem fe_makeD (h : HasCD X.prog X.w X.K X.mg X.base CX C x k ps sp) (hr : Room (k + 1) X.A) (hg : Gl X x) (hx : Passes CX X E) (ha : PA X (e :: es) t) (hd : (x == ("__debug__" : Str)) = false := by decide)
    (hs : starEach (e :: es) X.env = (false, eval e X.env) :: starEach es X.env := by rfl) (hplain : (backTo pos (starEach es X.env)).any (·.1) = false := by rfl) : PE X (.Call (.Name x p) (e :: es) [] pos) (tCall sp [] E t) := by
  obtain ⟨f, fd, sp', dv, ds, F, B, hv, M, G, h⟩ := h.ex
  refine pe_wk (pe_make M F hr hg G B hv hx (pa_clos ha) hd hs hplain) fun σ H Q q => ⟨_, q, fun vs H1 q y dx n1 n2 n3 => ?_⟩
  rw [List.append_nil] at q
  refine h vs H1 Q E q y dx _ n1 (fun b z ez => ?_) upd_same
  rw [upd_ne (ne_of_none ez n1), upd_ne (ne_of_none ez n2)]
  exact ez
end
end Fx

set_option Elab.async false
set_option linter.all false
set_option maxRecDepth 100000
set_option maxHeartbeats 1000000
/-! Hd: heads: what the top leaves, read off by one run of the kernel. -/
namespace Hd
open PySem PySem.Spec PyProof.Rows L2 Fx
/-! ### facts as tests -/
def opB (K : PySem.W.Frag) (C : Addr) : Bool := PySem.W.plainGet K C Str.empty && (PySem.W.hasDictIn K C && (PySem.W.plainOver K C && (decide (PySem.W.findIn K (.ref C) "__setattr__" = some (some (.builtin "object.__setattr__"))) &&
  (decide (PySem.W.findIn K (.ref C) "__class__" = some (some (.builtin "object.__class__"))) && (decide (PySem.W.mroIn K C (.type "object") = some true) && (PySem.W.makesIn K C && PySem.W.keepIn K (.ref C)))))))
theorem opB_ok {K : PySem.W.Frag} {C : Addr} (h : opB K C = true) : ClsFact K C := by
  simp only [opB, Bool.and_eq_true, decide_eq_true_eq] at h
  obtain ⟨h1, h2, h3, h4, h5, h6, h7, h8⟩ := h
  exact ⟨h1, h2, h3, h4, h5, h6, h7, h8⟩
/-- an exception class of the program -/
def exB (K : PySem.W.Frag) (C : Addr) : Bool := (match K.lookup C with
  | some ⟨.type t, _, .cls cd, sl⟩ => decide (t = "type") && (match cd.mro, sl.toList with
    | .ref D :: bm, [_, _, _, _, some (.builtin n), _] => decide (D = C) && (decide (n = "ValueError.__new__") && (!cd.hasDel && (cd.hasDict && PySem.HandSPX.refsVE bm)))
    | _, _ => false)
  | _ => false) && (decide (PySem.W.findIn K (.ref C) "__setattr__" = some (some (.builtin "object.__setattr__"))) && (decide (PySem.W.findIn K (.ref C) "__getattribute__" = some (some (.builtin "BaseException.__getattribute__"))) &&
  (decide (PySem.W.findIn K (.ref C) "__getattr__" = some none) && (decide (PySem.W.subIn K (.ref C) (.type "BaseException") = some true) && (decide (PySem.W.typeIn K (.ref C) = some (.type "type")) && (PySem.W.keepIn K (.ref C) && (PySem.W.hasDictIn K C &&
  (decide (PySem.W.findIn K (.ref C) "__class__" = some (some (.builtin "object.__class__"))) && decide (PySem.W.mroIn K C (.type "object") = some true)))))))))
theorem exB_ok {K : PySem.W.Frag} {C : Addr} (h : exB K C = true) : ExcFact K C := by
  obtain ⟨h0, h⟩ := Bool.and_eq_true_iff.mp h
  simp only [Bool.and_eq_true, decide_eq_true_eq] at h
  obtain ⟨h1, h2, h3, h4, h5, h6, h7, h8, h9⟩ := h
  refine ⟨?_, h1, h2, h3, h4, h5, h6, h7, h8, h9⟩
  split at h0
  · rename_i t dd cd sl lk
    obtain ⟨g1, g2⟩ := Bool.and_eq_true_iff.mp h0
    have g1 := of_decide_eq_true g1
    subst g1
    split at g2
    · rename_i D bm k0 k1 k2 k3 n k5 hm hs
      simp only [Bool.and_eq_true, decide_eq_true_eq, Bool.not_eq_true'] at g2
      obtain ⟨rfl, rfl, e3, e4, e5⟩ := g2
      obtain ⟨nm, bs, mro, ns, qn, hd, sn, sub, ab, col, del⟩ := cd
      obtain ⟨sl⟩ := sl
      dsimp only at hm hs e3 e4
      subst hm hs e3 e4
      exact ⟨_, _, _, _, _, _, _, _, _, _, _, _, _, _, _, lk, e5⟩
    · cases g2
  · cases h0
/-- the getter of a property -/
def pa (K : PySem.W.Frag) (C : Addr) (x : Str) : Addr := match PySem.W.recIn K (He.ma K C x) "property" with
  | some (.ref f :: _) => f
  | _ => 0
/-- a name that stands for nothing, an object, a number, a text, a tuple -/
inductive Fh where
  | glo (x : Str)
  | free (x : Str)
  | int (x : Str) (i : Int)
  | str (x z : Str)
  | tup (x : Str) (vs : List V)
  | cls (x : Str)
  | exc (x : Str)
  | noat (x f : Str)
  | sub (x y : Str) (b : Bool)
  | kit (x y : Str) (b : Bool)
  | kio (x y : Str)
  | kib (n : String) (y : Str)
  | kob (x : Str) (n : String)
  | obj
  | ne (x y : Str)
  | keep (x : Str)
  | meth (x m : Str)
  | init (x : Str)
  | prop (x m : Str)
  | dict (x : Str) (ks : List (Str × Option V))
  | dicT (x : Str) (ks : List (Str × Option (List V)))
def entB (K : PySem.W.Frag) (d : Addr) : Str × Option V → Bool
  | (z, none) => He.eqO (PySem.W.nsIn K d z) (some none)
  | (z, some v) => match PySem.W.nsIn K d z with
    | some (some u) => He.relB v u
    | _ => false
def tupAt (K : PySem.W.Frag) (a : Addr) (vs : List V) : Bool := match K.lookup a with
  | some ⟨.type c, _, .seq its _, _⟩ => decide (c = "tuple") && (decide (its.size ≤ 1000) && He.relAll vs its.toList)
  | _ => false
def enTB (K : PySem.W.Frag) (d : Addr) : Str × Option (List V) → Bool
  | (z, none) => He.eqO (PySem.W.nsIn K d z) (some none)
  | (z, some vs) => match PySem.W.nsIn K d z with
    | some (some (.ref a)) => tupAt K a vs
    | _ => false
def dicB (K : PySem.W.Frag) (d : Addr) : Bool := (match K.lookup d with
  | some ⟨.type c, none, .dict _ _, sl⟩ => decide (c = "dict") && decide (sl.toList.length = 0)
  | _ => false) && !(d == sysModules)
open He (ga ma eqO)
def Fh.ok (K : PySem.W.Frag) : Fh → Bool
  | .glo x => eqO (PySem.W.nsIn K mainGlobals x) (some (some (.ref (ga K x))))
  | .free x => eqO (PySem.W.nsIn K mainGlobals x) (some none)
  | .int x i => (match PySem.W.nsIn K mainGlobals x with
    | some (some u) => He.relB (.int i) u
    | _ => false)
  | .str x z => (match PySem.W.nsIn K mainGlobals x with
    | some (some u) => He.relB (.str z) u
    | _ => false)
  | .tup x vs => tupAt K (ga K x) vs
  | .cls x => opB K (ga K x)
  | .exc x => exB K (ga K x)
  | .noat x f => eqO (PySem.W.findIn K (.ref (ga K x)) f) (some none)
  | .sub x y b => decide (PySem.W.subIn K (.ref (ga K x)) (.ref (ga K y)) = some b)
  | .kit x y b => decide (PySem.W.kitOne K (.ref (ga K x)) (.ref (ga K y)) = some b)
  | .kio x y => decide (PySem.W.kitOne K (.ref (ga K x)) (.ref (ga K y)) = some (decide (ga K x = ga K y)))
  | .kib n y => decide (PySem.W.kitOne K (.type n) (.ref (ga K y)) = some false)
  | .kob x n => decide (PySem.W.kitOne K (.ref (ga K x)) (.type n) = some false)
  | .obj => decide (PySem.W.specialIn K (.builtin "object.__class__") "__get__" = some (some (.builtin "getset_descriptor.__get__"))) && decide (PySem.W.takesIn K (.builtin "object.__class__") = some true)
  | .ne x y => decide (ga K x ≠ ga K y)
  | .keep x => PySem.W.keepIn K (.ref (ga K x))
  | .meth x m => eqO (PySem.W.findIn K (.ref (ga K x)) m) (some (some (.ref (ma K (ga K x) m)))) && (PySem.W.keepIn K (.ref (ma K (ga K x) m)) && PySem.W.isFn K (.ref (ma K (ga K x) m)))
  | .init x => eqO (PySem.W.findIn K (.ref (ga K x)) "__init__") (some (some (.ref (ma K (ga K x) "__init__")))) && (PySem.W.keepIn K (.ref (ma K (ga K x) "__init__")) && decide (PySem.W.typeIn K (.ref (ma K (ga K x) "__init__")) = some (.type "function")))
  | .prop x m => eqO (PySem.W.findIn K (.ref (ga K x)) m) (some (some (.ref (ma K (ga K x) m)))) && (decide (PySem.W.specialIn K (.ref (ma K (ga K x) m)) "__get__" = some (some (.builtin "property.__get__"))) && (decide (PySem.W.takesIn K (.ref (ma K (ga K x) m)) = some true) &&
    ((match PySem.W.recIn K (ma K (ga K x) m) "property" with
      | some (.ref _ :: _) => true
      | _ => false) && PySem.W.keepIn K (.ref (pa K (ga K x) m)))))
  | .dict x ks => dicB K (ga K x) && ks.all (entB K (ga K x))
  | .dicT x ks => dicB K (ga K x) && ks.all (enTB K (ga K x))
/-! ### functions -/
inductive At_ where
  | glo (x : Str)
  | meth (x m : Str)
  | prop (x m : Str)
def At_.ad (K : PySem.W.Frag) : At_ → Addr
  | .glo x => ga K x
  | .meth x m => ma K (ga K x) m
  | .prop x m => pa K (ga K x) m
structure Df where
  at_ : At_
  name : Str
  qual : Str
  st : Stmt
  d : Bool
/-- a tuple of one thing, the empty tuple -/
def emT (K : PySem.W.Frag) (T : Addr) : Bool := match K.lookup T with
  | some ⟨_, _, .seq its _, _⟩ => (match its.toList with
    | [.ref e] => tupAt K e []
    | _ => false)
  | _ => false
def nrm (K : PySem.W.Frag) : Value → Value
  | .none => .none
  | .ref T => if emT K T = true then .type "dfl" else .type "other"
  | _ => .type "other"
theorem nrm_none {K : PySem.W.Frag} {v : Value} (h : nrm K v = .none) : v = .none := by
  unfold nrm at h
  split at h
  · rfl
  · split at h <;> cases h
  · cases h
abbrev FV : Type := Option (Str × Str × Arguments × FuncBody × Scope × Addr × List (Str × Addr) × Value × Addr)
def fv (K : PySem.W.Frag) (a : Addr) : FV := match K.lookup a with
  | some o => match o.data with
    | .func g => some (g.name, g.qualname, g.params, g.body, g.scope, g.globals, g.closure, nrm K g.defaults, g.builtins)
    | _ => none
  | none => none
def fc (K : PySem.W.Frag) (a : Addr) (q : Str) : Bool := match K.lookup a with
  | some o => match o.data with
    | .func g => PySem.W.codeIn K g.code q
    | _ => false
  | none => false
def Df.val (d : Df) : FV := some (d.name, d.qual, defArgs d.st, .stmts (defBody d.st), defScope d.st, mainGlobals, [], (if d.d = true then .type "dfl" else .none), builtinsNs)
theorem fv_ok0 {K : PySem.W.Frag} {a : Addr} {d : Df} (e : fv K a = d.val) (c : fc K a d.qual = true) :
    ∃ oc od sl dV kV dc pm an cd ct, K.lookup a = some ⟨oc, od, .func (PySem.W.fnOf d.name d.qual (defArgs d.st) (defBody d.st) (defScope d.st) dV kV dc pm an cd ct), sl⟩ ∧ PySem.W.codeIn K cd d.qual = true ∧ nrm K dV = (if d.d = true then .type "dfl" else .none) := by
  unfold fv at e
  unfold fc at c
  split at e
  · rename_i o lk
    rw [lk] at c
    obtain ⟨oc, od, dt, sl⟩ := o
    dsimp only at e c
    split at e
    · rename_i g
      obtain ⟨m1, m2, m3, m4, m5, m6, m7, m8, m9, m10, m11, m12, m13, m14, m15⟩ := g
      unfold Df.val at e
      simp only [Option.some.injEq, Prod.mk.injEq] at e
      obtain ⟨g1, g2, g3, g4, g5, g6, g7, g8, g9⟩ := e
      subst g1 g2 g3 g4 g5 g6 g7 g9
      exact ⟨oc, od, sl, _, m9, m10, m11, m12, m13, m14, lk, c, g8⟩
    · cases e
  · cases e
theorem fv_ok {K : PySem.W.Frag} {a : Addr} {d : Df} (hd : d.d = false) (e : fv K a = d.val) (c : fc K a d.qual = true) :
    ∃ oc od sl kV dc pm an cd ct, K.lookup a = some ⟨oc, od, .func (PySem.W.fnOf d.name d.qual (defArgs d.st) (defBody d.st) (defScope d.st) .none kV dc pm an cd ct), sl⟩ ∧ PySem.W.codeIn K cd d.qual = true := by
  obtain ⟨oc, od, sl, dV, kV, dc, pm, an, cd, ct, l, h1, h2⟩ := fv_ok0 e c
  rw [hd, if_neg (by simp)] at h2
  rw [nrm_none h2] at l
  exact ⟨oc, od, sl, kV, dc, pm, an, cd, ct, l, h1⟩
theorem fv_okD {K : PySem.W.Frag} {a : Addr} {d : Df} (hd : d.d = true) (e : fv K a = d.val) (c : fc K a d.qual = true) :
    ∃ oc od sl T kV dc pm an cd ct, K.lookup a = some ⟨oc, od, .func (PySem.W.fnOf d.name d.qual (defArgs d.st) (defBody d.st) (defScope d.st) (.ref T) kV dc pm an cd ct), sl⟩ ∧ PySem.W.codeIn K cd d.qual = true ∧ emT K T = true := by
  obtain ⟨oc, od, sl, dV, kV, dc, pm, an, cd, ct, l, h1, h2⟩ := fv_ok0 e c
  rw [hd, if_pos rfl] at h2
  unfold nrm at h2
  split at h2
  · cases h2
  · rename_i T
    split at h2
    · exact ⟨oc, od, sl, T, kV, dc, pm, an, cd, ct, l, h1, by assumption⟩
    · exact absurd h2 (by simp)
  · exact absurd h2 (by simp)
/-! ### dicts: their keys -/
def keyT (e : DictEntry) : Int × Option Str := (e.hash, match e.key with | .str x _ => some x | _ => none)
def dk (K : PySem.W.Frag) (d : Addr) : List (Int × Option Str) := match K.lookup d with
  | some o => match o.data with
    | .dict es _ => es.toList.map keyT
    | _ => []
  | none => []
theorem keys_lit {P : Params} : ∀ {es : List DictEntry} {ks : List Str}, es.map keyT = ks.map (fun z => (PyData.keyHash P z, some z)) → PySem.W.KeysLit P es
  | [], _, _ => trivial
  | e :: es, [], h => by cases h
  | e :: es, k :: ks, h => by
    rw [List.map_cons, List.map_cons] at h
    obtain ⟨h1, h2⟩ := List.cons.inj h
    unfold keyT at h1
    obtain ⟨h3, h4⟩ := Prod.mk.inj h1
    refine ⟨?_, keys_lit h2⟩
    split at h4
    · rename_i x t ek
      cases h4
      exact ⟨k, t, ek, h3⟩
    · cases h4
/-! ### the Hook -/
/-- what these objects reach in n steps, front by front -/
def asF (g : Addr → Option Obj) : Nat → List Addr → List Addr
  | 0, fr => fr
  | n + 1, fr => fr ++ asF g n (fr.flatMap fun a => match g a with
    | some o => He.refsD o
    | none => [])
/-- what these names of the module reach -/
def asN (g : Addr → Option Obj) (n : Nat) (xs : List Str) : List Addr := mainGlobals :: asF g n (xs.map (He.ga (He.frG g [mainGlobals])))
abbrev Al : Type := Bool × List FV × List (List (Int × Option Str))
def obsK (fa : List Fh) (fn : List Df) (ds : List (Str × List Str)) (K : PySem.W.Frag) : Al := ((fa.all fun f => f.ok K) && fn.all fun d => fc K (d.at_.ad K) d.qual, fn.map fun d => fv K (d.at_.ad K), ds.map fun d => dk K (ga K d.1))
def valK (w : World) (fn : List Df) (ds : List (Str × List Str)) : Al := (true, fn.map Df.val, ds.map fun d => d.2.map fun z => (PyData.keyHash w.params z, some z))
def Says (fa : List Fh) (fn : List Df) (ds : List (Str × List Str)) (w : World) (K : PySem.W.Frag) : Prop := obsK fa fn ds K = valK w fn ds
def obsG (n : Nat) (xs : List Str) (fa : List Fh) (fn : List Df) (ds : List (Str × List Str)) (g : Addr → Option Obj) : Al := obsK fa fn ds (He.frG g (asN g n xs))
def hook (n : Nat) (xs : List Str) (fa : List Fh) (fn : List Df) (ds : List (Str × List Str)) : PySem.W.Hook where
  α := Al
  obs := fun s => obsG n xs fa fn ds s.heap.get?
  val := fun w => valK w fn ds
  says := fun w h => ∃ K : PySem.W.Frag, K.In h ∧ Says fa fn ds w K
  of := fun _ _ e => ⟨_, He.frG_in, e⟩
  keeps := fun _ _ _ ⟨K, hK, c⟩ k => ⟨K, PySem.W.Frag.In.keeps hK k, c⟩
theorem obsG_eq {n : Nat} {xs : List Str} {fa : List Fh} {fn : List Df} {ds : List (Str × List Str)} {g : Addr → Option Obj} {s : Shared} (h : ∀ a, g a = s.heap.get? a) : obsG n xs fa fn ds g = (hook n xs fa fn ds).obs s := by
  rw [funext h]; rfl
section
variable {fa : List Fh} {fn : List Df} {ds : List (Str × List Str)} {K : PySem.W.Frag} {w : World}
theorem Says.fact (c : Says fa fn ds w K) (i : Nat) {f : Fh} (h : fa[i]? = some f) : f.ok K = true := by
  have c1 : ((fa.all fun f => f.ok K) && fn.all fun d => fc K (d.at_.ad K) d.qual) = true := congrArg (fun z : Al => z.1) c
  exact List.all_eq_true.mp (Bool.and_eq_true_iff.mp c1).1 f (List.mem_of_getElem? h)
theorem Says.def0 (c : Says fa fn ds w K) (i : Nat) {d : Df} (h : fn[i]? = some d) : fv K (d.at_.ad K) = d.val ∧ fc K (d.at_.ad K) d.qual = true := by
  have c1 : ((fa.all fun f => f.ok K) && fn.all fun d => fc K (d.at_.ad K) d.qual) = true := congrArg (fun z : Al => z.1) c
  have c2 : fn.map (fun d => fv K (d.at_.ad K)) = fn.map Df.val := congrArg (fun z : Al => z.2.1) c
  have e : (fn.map fun d => fv K (d.at_.ad K))[i]? = (fn.map Df.val)[i]? := by rw [c2]
  rw [List.getElem?_map, List.getElem?_map, h] at e
  exact ⟨Option.some.inj e, List.all_eq_true.mp (Bool.and_eq_true_iff.mp c1).2 d (List.mem_of_getElem? h)⟩
theorem Says.def_ (c : Says fa fn ds w K) (i : Nat) {d : Df} (hd : d.d = false) (h : fn[i]? = some d) : ∃ oc od sl kV dc pm an cd ct, K.lookup (d.at_.ad K) = some ⟨oc, od, .func (PySem.W.fnOf d.name d.qual (defArgs d.st) (defBody d.st) (defScope d.st) .none kV dc pm an cd ct), sl⟩ ∧ PySem.W.codeIn K cd d.qual = true := by
  obtain ⟨e, c1⟩ := c.def0 i h
  exact fv_ok hd e c1
theorem Says.dic (c : Says fa fn ds w K) (i : Nat) {d : Str × List Str} (h : ds[i]? = some d) : dk K (ga K d.1) = d.2.map fun z => (PyData.keyHash w.params z, some z) := by
  have c2 : ds.map (fun d => dk K (ga K d.1)) = ds.map fun d => d.2.map fun z => (PyData.keyHash w.params z, some z) := congrArg (fun z : Al => z.2.2) c
  have e : (ds.map fun d => dk K (ga K d.1))[i]? = (ds.map fun d => d.2.map fun z => (PyData.keyHash w.params z, some z))[i]? := by rw [c2]
  rw [List.getElem?_map, List.getElem?_map, h] at e
  exact Option.some.inj e
/-! ### what the walks ask -/
theorem glo_ {x : Str} (h : (Fh.glo x).ok K = true) : PySem.W.nsIn K mainGlobals x = some (some (.ref (ga K x))) := He.eqO_ok h
theorem free_ {x : Str} (h : (Fh.free x).ok K = true) : PySem.W.nsIn K mainGlobals x = some none := He.eqO_ok h
theorem int_ {x : Str} {i : Int} (h : (Fh.int x i).ok K = true) : ∃ t, PySem.W.nsIn K mainGlobals x = some (some (.int i t)) := by
  have h' : (match PySem.W.nsIn K mainGlobals x with | some (some u) => He.relB (.int i) u | _ => false) = true := h
  split at h'
  · rename_i u e
    obtain ⟨t, rfl⟩ := He.relB_ok h'
    exact ⟨t, e⟩
  · cases h'
theorem str_ {x z : Str} (h : (Fh.str x z).ok K = true) : ∃ t, PySem.W.nsIn K mainGlobals x = some (some (.str z t)) := by
  have h' : (match PySem.W.nsIn K mainGlobals x with | some (some u) => He.relB (.str z) u | _ => false) = true := h
  split at h'
  · rename_i u e
    obtain ⟨t, rfl⟩ := He.relB_ok h'
    exact ⟨t, e⟩
  · cases h'
theorem tupAt_ok {a : Addr} {vs : List V} (h : tupAt K a vs = true) : ∀ H, SqT K H a vs := fun H => by
  unfold tupAt at h
  split at h
  · rename_i cc od its n sl lk
    simp only [Bool.and_eq_true, decide_eq_true_eq] at h
    obtain ⟨rfl, h2, h3⟩ := h
    exact .inr ⟨_, its, n, lk, rfl, rfl, Nat.le_trans h2 (by decide), He.relAll_ok h3⟩
  · cases h
/-- a tuple of the module, by its address -/
theorem tup_get {mg : Str → Option Value} {hp : Heap} {x : Str} {vs : List V} (X : K.In hp) (G : hp.Ns mainGlobals mg) (g : (Fh.glo x).ok K = true) (h : (Fh.tup x vs).ok K = true) : GTup K mg x vs := ⟨ga K x, PySem.W.mg_of X G (glo_ g), tupAt_ok h⟩
theorem cls_ {x : Str} (h : (Fh.cls x).ok K = true) : ClsFact K (ga K x) := opB_ok h
theorem exc_ {x : Str} (h : (Fh.exc x).ok K = true) : ExcFact K (ga K x) := exB_ok h
theorem noat_ {x f : Str} (h : (Fh.noat x f).ok K = true) : PySem.W.findIn K (.ref (ga K x)) f = some none := He.eqO_ok h
theorem sub_ {x y : Str} {b : Bool} (h : (Fh.sub x y b).ok K = true) : PySem.W.subIn K (.ref (ga K x)) (.ref (ga K y)) = some b := of_decide_eq_true h
theorem kit_ {x y : Str} {b : Bool} (h : (Fh.kit x y b).ok K = true) : PySem.W.kitOne K (.ref (ga K x)) (.ref (ga K y)) = some b := of_decide_eq_true h
theorem kio_ {x y : Str} (h : (Fh.kio x y).ok K = true) : PySem.W.kitOne K (.ref (ga K x)) (.ref (ga K y)) = some (decide (ga K x = ga K y)) := of_decide_eq_true h
theorem kib_ {n : String} {y : Str} (h : (Fh.kib n y).ok K = true) : PySem.W.kitOne K (.type n) (.ref (ga K y)) = some false := of_decide_eq_true h
theorem kob_ {x : Str} {n : String} (h : (Fh.kob x n).ok K = true) : PySem.W.kitOne K (.ref (ga K x)) (.type n) = some false := of_decide_eq_true h
theorem obj_ (h : Fh.obj.ok K = true) : ObjFact K := by
  have h : (decide (PySem.W.specialIn K (.builtin "object.__class__") "__get__" = some (some (.builtin "getset_descriptor.__get__"))) && decide (PySem.W.takesIn K (.builtin "object.__class__") = some true)) = true := h
  obtain ⟨h1, h2⟩ := Bool.and_eq_true_iff.mp h
  exact ⟨of_decide_eq_true h1, of_decide_eq_true h2⟩
theorem ne_ {x y : Str} (h : (Fh.ne x y).ok K = true) : ga K x ≠ ga K y := of_decide_eq_true h
theorem fn_ {x : Str} {qual : Str} {st : Stmt} (c : Says fa fn ds w K) (i j k : Nat) (h : fn[i]? = some ⟨.glo x, x, qual, st, false⟩) (g : fa[j]? = some (.glo x)) (p : fa[k]? = some (.keep x)) : FnFact K x qual st := by
  obtain ⟨oc, od, sl, kV, dc, pm, an, cd, ct, l, e⟩ := c.def_ i rfl h
  exact FnFact.of (glo_ (c.fact j g)) l e (c.fact k p)
theorem meth_ {x m : Str} {qual : Str} {st : Stmt} (c : Says fa fn ds w K) (i j : Nat) (h : fn[i]? = some ⟨.meth x m, m, qual, st, false⟩) (g : fa[j]? = some (.meth x m)) : MFact K (ga K x) m qual st := by
  obtain ⟨oc, od, sl, kV, dc, pm, an, cd, ct, l, e⟩ := c.def_ i rfl h
  have g := c.fact j g
  obtain ⟨g1, g⟩ := Bool.and_eq_true_iff.mp g
  obtain ⟨g2, g3⟩ := Bool.and_eq_true_iff.mp g
  exact MFact.of (He.eqO_ok g1) l e g2 g3
theorem methD_ {x m : Str} {qual : Str} {st : Stmt} (c : Says fa fn ds w K) (i j : Nat) (h : fn[i]? = some ⟨.meth x m, m, qual, st, true⟩) (g : fa[j]? = some (.meth x m)) : MFactD K (ga K x) m qual st := by
  obtain ⟨e0, c0⟩ := c.def0 i h
  obtain ⟨oc, od, sl, T, kV, dc, pm, an, cd, ct, l, e, hT⟩ := fv_okD rfl e0 c0
  have g := c.fact j g
  obtain ⟨g1, g⟩ := Bool.and_eq_true_iff.mp g
  obtain ⟨g2, g3⟩ := Bool.and_eq_true_iff.mp g
  unfold emT at hT
  split at hT
  · rename_i c1 d1 its n s1 lT
    split at hT
    · rename_i e1 he
      refine ⟨_, oc, od, an, sl, T, e1, kV, dc, pm, cd, ct, _, n, He.eqO_ok g1, l, e, g2, g3, lT, ?_, tupAt_ok hT⟩
      show Data.seq its n = _
      rw [← he]
    · cases hT
  · cases hT
theorem init_ {x : Str} {qual : Str} {st : Stmt} (c : Says fa fn ds w K) (i j : Nat) (h : fn[i]? = some ⟨.meth x "__init__", "__init__", qual, st, false⟩) (g : fa[j]? = some (.init x)) : EFact K (ga K x) qual st := by
  obtain ⟨oc, od, sl, kV, dc, pm, an, cd, ct, l, e⟩ := c.def_ i rfl h
  have g := c.fact j g
  obtain ⟨g1, g⟩ := Bool.and_eq_true_iff.mp g
  obtain ⟨g2, g3⟩ := Bool.and_eq_true_iff.mp g
  exact EFact.of (He.eqO_ok g1) l e g2 (of_decide_eq_true g3)
theorem prop_ {x m : Str} {qual : Str} {st : Stmt} (c : Says fa fn ds w K) (i j : Nat) (h : fn[i]? = some ⟨.prop x m, m, qual, st, false⟩) (g : fa[j]? = some (.prop x m)) : PFact K (ga K x) m qual st := by
  obtain ⟨oc, od, sl, kV, dc, pm, an, cd, ct, l, e⟩ := c.def_ i rfl h
  have g := c.fact j g
  obtain ⟨g1, g⟩ := Bool.and_eq_true_iff.mp g
  obtain ⟨g2, g⟩ := Bool.and_eq_true_iff.mp g
  obtain ⟨g3, g⟩ := Bool.and_eq_true_iff.mp g
  obtain ⟨g4, g5⟩ := Bool.and_eq_true_iff.mp g
  have l : K.lookup (pa K (ga K x) m) = _ := l
  have g5 : PySem.W.keepIn K (.ref (pa K (ga K x) m)) = true := g5
  split at g4
  · rename_i f rest er
    have ep : pa K (ga K x) m = f := by unfold pa; rw [er]
    rw [ep] at l g5
    exact PFact.of (He.eqO_ok g1) (of_decide_eq_true g2) (of_decide_eq_true g3) er l e g5
  · cases g4
theorem dic_ent {d : Addr} : ∀ {ks : List (Str × Option V)}, ks.all (entB K d) = true → ∀ p ∈ ks, EntOk K d p := fun h p m => by
  have h1 := List.all_eq_true.mp h p m
  obtain ⟨z, o⟩ := p
  cases o with
  | none => exact He.eqO_ok h1
  | some v =>
    have h2 : (match PySem.W.nsIn K d z with | some (some u) => He.relB v u | _ => false) = true := h1
    split at h2
    · rename_i u e
      exact ⟨u, e, He.relB_ok h2⟩
    · cases h2
theorem dic_enT {d : Addr} : ∀ {ks : List (Str × Option (List V))}, ks.all (enTB K d) = true → ∀ p ∈ ks, EntT K d p := fun h p m => by
  have h1 := List.all_eq_true.mp h p m
  obtain ⟨z, o⟩ := p
  cases o with
  | none => exact He.eqO_ok h1
  | some v =>
    have h2 : (match PySem.W.nsIn K d z with | some (some (.ref a)) => tupAt K a v | _ => false) = true := h1
    split at h2
    · rename_i a e
      exact ⟨a, e, tupAt_ok h2⟩
    · cases h2
theorem dic_at {x : Str} {ks : List Str} (e : dk K (ga K x) = ks.map fun z => (PyData.keyHash w.params z, some z)) (h : dicB K (ga K x) = true) : ∃ es n, KDict K w (ga K x) es n := by
  obtain ⟨h1, h2⟩ := Bool.and_eq_true_iff.mp h
  unfold dk at e
  split at h1
  · rename_i cc es n sl lk
    rw [lk] at e
    simp only [Bool.and_eq_true, decide_eq_true_eq] at h1
    obtain ⟨rfl, h3⟩ := h1
    have h4 : sl = #[] := by
      obtain ⟨sl⟩ := sl
      have : sl = [] := List.eq_nil_of_length_eq_zero h3
      rw [this]
    subst h4
    exact ⟨es, n, lk, keys_lit e, by simpa using h2⟩
  · cases h1
theorem dict_ {x : Str} {ks : List Str} {es : List (Str × Option V)} (c : Says fa fn ds w K) (i j k : Nat) (h : ds[i]? = some (x, ks)) (g : fa[j]? = some (.glo x)) (p : fa[k]? = some (.dict x es)) : GDictF K w x es := by
  obtain ⟨p1, p2⟩ := Bool.and_eq_true_iff.mp (c.fact k p)
  exact ⟨_, glo_ (c.fact j g), dic_at (c.dic i h) p1, dic_ent p2⟩
theorem dicT_ {x : Str} {ks : List Str} {es : List (Str × Option (List V))} (c : Says fa fn ds w K) (i j k : Nat) (h : ds[i]? = some (x, ks)) (g : fa[j]? = some (.glo x)) (p : fa[k]? = some (.dicT x es)) : GDictTF K w x es := by
  obtain ⟨p1, p2⟩ := Bool.and_eq_true_iff.mp (c.fact k p)
  exact ⟨_, glo_ (c.fact j g), dic_at (c.dic i h) p1, dic_enT p2⟩
end
end Hd

set_option Elab.async false
set_option linter.all false
set_option maxRecDepth 100000
/-! Wt: a slice that is the whole of a tuple is the tuple itself. -/
namespace Fx
open PySem PySem.Spec PyProof.Rows L2
theorem getItem_tuple_whole {prog : Program} {w : World} {A : Around} {E : Value → Shared → Prop} {s : Shared} {t sl : Addr} {items : Array Value} {vl vu : Value} {lo hi : Option Int} {Q : Value → Shared → Prop}
    (ht : IsTup s.heap t items) (hs : s.heap.IsSliceOf sl vl vu Value.none) (pl : IsPart vl lo) (pu : IsPart vu hi) (hw : HT.sIx items.size 0 lo = 0 ∧ HT.sIx items.size items.size hi = items.size) (h : Q (.ref t) s) :
    wpAny (model prog w) A (getItem (.ref t) (.ref sl)) Q E s := by
  obtain ⟨os, hos, hcs, hds⟩ := id hs
  have hTs : s.TypeIs (.ref sl) "slice" := ⟨os, hos, hcs⟩
  refine wpAny_holding (wpAny_bind (wpAny_sequenceKey ht.typeIs (by decide) (wpAny_bind (wpAny_callSpecial?_slot ht.typeIs slot_tuple_getitem (wpAny_call_entry slot_tuple_getitem ht.typeIs entry_tuple_getitem ?_ (args_tuple_getitem _ _))))))
  show wpAny (model prog w) A.in1 (Builtin.Tuple.tupleItemsOf (.ref t) >>= fun xs => _) _ E s
  refine wpAny_bind (tupleItemsOf_ ht (wpAny_bind (wpAny_typeOf hTs ?_)))
  rw [if_pos (by decide)]
  refine wpAny_bind (HT.sliceApplied_gen hs pl pu ?_)
  rw [hw.1, hw.2]
  dsimp only
  rw [if_pos (by simp)]
  refine wpAny_bind (wpAny_bind (wpAny_typeOf ht.typeIs (wpAny_pure ?_)))
  rw [if_pos (by decide)]
  exact wpAny_bind (wpAny_rule (wpAny_pure ⟨_, rfl, wpAny_pure h⟩))
section
variable {X : Cx}
/-- the slice is the whole tuple, which is given back -/
def fSlW (K : PySem.W.Frag) : V → Option Int → Option Int → Hp → VK → Prop := fun x lo hi H Q => ∃ a xs, x = .ref a ∧ SqT K H a xs ∧ HT.sIx xs.length 0 lo = 0 ∧ HT.sIx xs.length xs.length hi = xs.length ∧ Q (.ref a) H
theorem sl_whole : SlR X (fSlW X.K) := by
  rintro pins s σ H x v vl vu lo hi sl Q I rx hs pl pu ⟨a, xs, rfl, hx, h1, h2, q⟩
  cases rx
  obtain ⟨its, hv, ht, hl⟩ := I.tuple hx
  refine ⟨_, _, slot_tuple_getitem.lookup, ht.typeIs, getItem_tuple_whole ht hs pl pu ?_ ⟨.ref a, H, I, (rfl : Value.ref a = Value.ref a), q⟩⟩
  rw [List.size_toArray, ← hv.length]
  exact ⟨h1, h2⟩
end
end Fx

set_option Elab.async false
set_option linter.all false
set_option maxRecDepth 100000
set_option maxHeartbeats 1000000
namespace My
open PySem L2 Fx
local macro_rules | `(tactic| walk_at "fx") => `(tactic| try simp only [L2.start, List.map_cons, List.map_nil, List.length_cons, List.length_nil, Nat.reduceAdd, Nat.reduceSub, List.reduceReplicate, List.cons_append, List.nil_append, List.append_nil,
  tSeq, fVar, tVar, tC, tOp, tUn, tCons, tNil, fTup, fLst, tAsg, gName, tRet, tRetN, tDrop, tNext, tIf, tAnd, tOr, tNot, tTest, tB, tAug, tChain, tNotV, tAndV, tOrV, tSl, tPart, tNoPart, tCB, tCall, fBM, fBM0, tBreak, tCont, gTup, gCons, gNil,
  fAdd, fSub, fMul, fDiv, fMod, fNeg, fLt, fLe, fGt, fGe, fIx, fSl, fLen, fInt, fStr, fAbs, fMax, fMin, fOrd, fIsN, fNotN, fIsi, fListOf, isLst, isStr, isDct, fAppend, fS1, fJoin, fLstripC, fIAdd, fISub, fSet, tyOf, fEq, scal, fIn, iRng1, iRng2, iList, iTup, iStr, gSub, fGt_,
  List.getElem?_cons_zero, List.getElem?_cons_succ, List.set_cons_zero, List.set_cons_succ, upd_same, S_cps, S_len, L_S, one_list, flatV,
  V.int.injEq, V.str.injEq, V.bl.injEq, V.ref.injEq, Option.some.injEq, List.cons.injEq, exists_eq_left', exists_eq_left, exists_and_left, ex2, and_true, true_and, decide_eq_true_eq, Bool.not_eq_true', decide_eq_false_iff_not, Bool.false_eq_true, Bool.true_eq_false, Int.zero_add, Int.toNat_natCast, if_true, if_false, ite_true, ite_false, reduceIte, Int.reduceLT, Int.reduceLE, Int.reduceNeg, Int.reduceAdd, Nat.reduceLT, Nat.reduceLeDiff, Bool.not_true, Bool.not_false, kitBv, kitBs, not_true_eq_false, not_false_eq_true, Bool.or_false, Bool.false_or, Bool.or_true, Bool.true_or])
local macro_rules | `(tactic| walk_at "fx0") => `(tactic| try dsimp only [cxOf, Cx.nox, Cx.wish])
local macro_rules | `(tactic| walk_at "mul") => `(tactic| first | exact mul_left (by decide) (by decide) | exact mul_right (by decide) (by decide) | exact mul_left (by omega) (by omega) | exact mul_right (by omega) (by omega))
local macro_rules | `(tactic| walk_at "rm") => `(tactic| first | decide | exact Nat.le_refl _ | omega)
set_option hygiene false in
local macro_rules | `(tactic| walk_at "ox") => `(tactic| try simp only [WE_wOf, two, fTru, fLenD, fDisp, fPairs, iKeysK, fGetK, fInK, sPutK, sDelK, keyV, fListD, fDictD, tChain3, iZipM, fGdT_, fInDT, fIxDT, fRevL, sDelL, iEnum_, fTupOf, fSum, fGetD, fMkV, fXo, fIsX, fPop, fPopAt, fClear, fReplC, fPow, fReverse, fExtend, fInsert, fGetN, fInN, sPutN, sDelN, fNewN, fLenN, iKeysN, fProp, fRaise, fXf, fIsE, fMethS, tCallS, fFmt, fJs, fJoined, fDivZ, fGd_, fInD, fIxD, WE, wOf, fDead, sDead, upd2, wipe, tYes, fIsB, beq_self_eq_true, List.not_mem_nil, or_false, false_or, fDnew, T.ne, fFld, fSetF, fMeth, isOb, fIsiO, fIsiP, fIsiA, tyV2, okT, kit2, kits2, allIn, putF, List.lookup_cons, List.lookup_nil, keyEq, List.mem_cons, true_or, or_true, L2.start, List.map_cons, List.map_nil, List.length_cons, List.length_nil, Nat.reduceAdd, Nat.reduceSub, List.reduceReplicate, List.cons_append, List.nil_append, List.append_nil,
  tSeq, fVar, tVar, tC, tOp, tUn, tCons, tNil, fTup, fLst, tAsg, gName, tRet, tRetN, tDrop, tNext, tIf, tAnd, tOr, tNot, tTest, tB, tAug, tChain, tNotV, tAndV, tOrV, tSl, tPart, tNoPart, tCB, tCall, fBM, fBM0, tBreak, tCont, gTup, gCons, gNil,
  fAdd, fSub, fMul, fDiv, fMod, fNeg, fLt, fLe, fGt, fGe, fIx, fSl, fLen, fInt, fStr, fAbs, fMax, fMin, fOrd, fIsN, fNotN, fIsi, fListOf, isLst, isStr, isDct, fAppend, fS1, fJoin, fLstripC, fIAdd, fISub, fSet, tyOf, fEq, scal, fIn, iRng1, iRng2, iList, iTup, iStr, gSub, fGt_,
  List.getElem?_cons_zero, List.getElem?_cons_succ, List.set_cons_zero, List.set_cons_succ, upd_same, S_cps, S_len, L_S, one_list, flatV,
  V.int.injEq, V.str.injEq, V.bl.injEq, V.ref.injEq, Option.some.injEq, List.cons.injEq, exists_eq_left', exists_eq_left, exists_and_left, ex2, and_true, true_and, decide_eq_true_eq, Bool.not_eq_true', decide_eq_false_iff_not, Bool.false_eq_true, Bool.true_eq_false, Int.zero_add, Int.toNat_natCast, if_true, if_false, ite_true, ite_false, reduceIte, Int.reduceLT, Int.reduceLE, Int.reduceNeg, Int.reduceAdd, Nat.reduceLT, Nat.reduceLeDiff, Bool.not_true, Bool.not_false, kitBv, kitBs, not_true_eq_false, not_false_eq_true, Bool.or_false, Bool.false_or, Bool.or_true, Bool.true_or])
set_option hygiene false in
local macro_rules | `(tactic| walk_at "oxs") => `(tactic| simp only [tIfS, WE_wOf, two, fTru, fLenD, fDisp, fPairs, iKeysK, fGetK, fInK, sPutK, sDelK, keyV, fListD, fDictD, tChain3, iZipM, fGdT_, fInDT, fIxDT, fRevL, sDelL, iEnum_, fTupOf, fSum, fGetD, fMkV, fXo, fIsX, fPop, fPopAt, fClear, fReplC, fPow, fReverse, fExtend, fInsert, fGetN, fInN, sPutN, sDelN, fNewN, fLenN, iKeysN, fProp, fRaise, fXf, fIsE, fMethS, tCallS, fFmt, fJs, fJoined, fDivZ, fGd_, fInD, fIxD, WE, wOf, fDead, sDead,  reduceCtorEq, upd2, wipe, tYes, fIsB, beq_self_eq_true, List.not_mem_nil, or_false, false_or, fDnew, T.ne, fFld, fSetF, fMeth, isOb, fIsiO, fIsiP, fIsiA, tyV2, okT, kit2, kits2, allIn, putF, List.lookup_cons, List.lookup_nil, keyEq, List.mem_cons, true_or, or_true, L2.start, List.map_cons, List.map_nil, List.length_cons, List.length_nil, Nat.reduceAdd, Nat.reduceSub, List.reduceReplicate, List.cons_append, List.nil_append, List.append_nil,
  tSeq, fVar, tVar, tC, tOp, tUn, tCons, tNil, fTup, fLst, tAsg, gName, tRet, tRetN, tDrop, tNext, tIf, tAnd, tOr, tNot, tTest, tB, tAug, tChain, tNotV, tAndV, tOrV, tSl, tPart, tNoPart, tCB, tCall, fBM, fBM0, tBreak, tCont, gTup, gCons, gNil,
  fAdd, fSub, fMul, fDiv, fMod, fNeg, fLt, fLe, fGt, fGe, fIx, fSl, fLen, fInt, fStr, fAbs, fMax, fMin, fOrd, fIsN, fNotN, fIsi, fListOf, isLst, isStr, isDct, fAppend, fS1, fJoin, fLstripC, fIAdd, fISub, fSet, tyOf, fEq, scal, fIn, iRng1, iRng2, iList, iTup, iStr, gSub, fGt_,
  List.getElem?_cons_zero, List.getElem?_cons_succ, List.set_cons_zero, List.set_cons_succ, upd_same, S_cps, S_len, L_S, one_list, flatV,
  V.int.injEq, V.str.injEq, V.bl.injEq, V.ref.injEq, Option.some.injEq, List.cons.injEq, exists_eq_left', exists_eq_left, exists_and_left, ex2, and_true, true_and, decide_eq_true_eq, Bool.not_eq_true', decide_eq_false_iff_not, Bool.false_eq_true, Bool.true_eq_false, Int.zero_add, Int.toNat_natCast, if_true, if_false, ite_true, ite_false, reduceIte, Int.reduceLT, Int.reduceLE, Int.reduceNeg, Int.reduceAdd, Nat.reduceLT, Nat.reduceLeDiff, Bool.not_true, Bool.not_false, kitBv, kitBs, not_true_eq_false, not_false_eq_true, Bool.or_false, Bool.false_or, Bool.or_true, Bool.true_or])

def topS (i : Nat) : Stmt := PySem.Challenge.pw_livequill_k37_flaws_of_straight_code.main.body.getD i (.Pass ⟨0, 0, 0, 0⟩)
abbrev s_Shape___init__ : Stmt := inClass (topS 3) 0
theorem sc_Shape___init__ : FnScope ["self", "stack", "variables", "handlers"] ["self", "stack", "variables", "handlers"] (defScope s_Shape___init__) := ⟨rfl, rfl, rfl, by decide +kernel, rfl, by decide +kernel, by decide +kernel⟩
abbrev s_Shape___eq__ : Stmt := inClass (topS 3) 1
theorem sc_Shape___eq__ : FnScope ["self", "other"] ["self", "other"] (defScope s_Shape___eq__) := ⟨rfl, rfl, rfl, by decide +kernel, rfl, by decide +kernel, by decide +kernel⟩
abbrev s_taken_by : Stmt := topS 4
theorem sc_taken_by : FnScope ["row", "word"] ["row"] (defScope s_taken_by) := ⟨rfl, rfl, rfl, by decide +kernel, rfl, by decide +kernel, by decide +kernel⟩
abbrev s_left_by : Stmt := topS 5
theorem sc_left_by : FnScope ["row"] ["row"] (defScope s_left_by) := ⟨rfl, rfl, rfl, by decide +kernel, rfl, by decide +kernel, by decide +kernel⟩
abbrev s_variables_for : Stmt := topS 6
theorem sc_variables_for : FnScope ["row"] ["row"] (defScope s_variables_for) := ⟨rfl, rfl, rfl, by decide +kernel, rfl, by decide +kernel, by decide +kernel⟩
abbrev s_handlers_for : Stmt := topS 7
theorem sc_handlers_for : FnScope ["row"] ["row"] (defScope s_handlers_for) := ⟨rfl, rfl, rfl, by decide +kernel, rfl, by decide +kernel, by decide +kernel⟩
abbrev s_shape_after : Stmt := topS 8
theorem sc_shape_after : FnScope ["row", "shape", "variables", "handlers"] ["row", "shape"] (defScope s_shape_after) := ⟨rfl, rfl, rfl, by decide +kernel, rfl, by decide +kernel, by decide +kernel⟩
abbrev s_shape_at : Stmt := topS 9
theorem sc_shape_at : FnScope ["row", "shape", "after"] ["row", "shape"] (defScope s_shape_at) := ⟨rfl, rfl, rfl, by decide +kernel, rfl, by decide +kernel, by decide +kernel⟩
abbrev s_flaw_of : Stmt := topS 10
theorem sc_flaw_of : FnScope ["row", "shape", "few_variables", "few_handlers"] ["row", "shape"] (defScope s_flaw_of) := ⟨rfl, rfl, rfl, by decide +kernel, rfl, by decide +kernel, by decide +kernel⟩
abbrev s_index_at : Stmt := topS 12
theorem sc_index_at : FnScope ["row"] ["row"] (defScope s_index_at) := ⟨rfl, rfl, rfl, by decide +kernel, rfl, by decide +kernel, by decide +kernel⟩
abbrev s_first_chunk : Stmt := topS 16
theorem sc_first_chunk : FnScope ["chunks", "number", "chunk"] ["chunks", "number"] (defScope s_first_chunk) := ⟨rfl, rfl, rfl, by decide +kernel, rfl, by decide +kernel, by decide +kernel⟩
abbrev s_Check___init__ : Stmt := inClass (topS 17) 0
theorem sc_Check___init__ : FnScope ["self", "chunks", "chunk", "variables"] ["self", "chunks", "chunk", "variables"] (defScope s_Check___init__) := ⟨rfl, rfl, rfl, by decide +kernel, rfl, by decide +kernel, by decide +kernel⟩
abbrev s_Check_missing : Stmt := inClass (topS 17) 1
theorem sc_Check_missing : FnScope ["self", "row", "chunk"] ["self", "row"] (defScope s_Check_missing) := ⟨rfl, rfl, rfl, by decide +kernel, rfl, by decide +kernel, by decide +kernel⟩
abbrev s_Check_follow : Stmt := inClass (topS 17) 2
theorem sc_Check_follow : FnScope ["self", "at", "row", "shape", "place", "later"] ["self", "at", "row", "shape"] (defScope s_Check_follow) := ⟨rfl, rfl, rfl, by decide +kernel, rfl, by decide +kernel, by decide +kernel⟩
abbrev s_Check_look : Stmt := inClass (topS 17) 3
theorem sc_Check_look : FnScope ["self", "at", "shape", "row", "flaw"] ["self", "at", "shape"] (defScope s_Check_look) := ⟨rfl, rfl, rfl, by decide +kernel, rfl, by decide +kernel, by decide +kernel⟩
abbrev s_Check_run : Stmt := inClass (topS 17) 4
theorem sc_Check_run : FnScope ["self", "at", "shape", "flaw"] ["self"] (defScope s_Check_run) := ⟨rfl, rfl, rfl, by decide +kernel, rfl, by decide +kernel, by decide +kernel⟩
abbrev s_check_all : Stmt := topS 18
theorem sc_check_all : FnScope ["chunks", "flaws", "begun", "waiting", "number", "variables", "check", "flaw"] ["chunks"] (defScope s_check_all) := ⟨rfl, rfl, rfl, by decide +kernel, rfl, by decide +kernel, by decide +kernel⟩
abbrev s_flaws_of : Stmt := topS 19
theorem sc_flaws_of : FnScope ["chunks", "flaws", "known", "chunk", "first"] ["chunks"] (defScope s_flaws_of) := ⟨rfl, rfl, rfl, by decide +kernel, rfl, by decide +kernel, by decide +kernel⟩
abbrev s_same_value : Stmt := topS 21
theorem sc_same_value : FnScope ["x", "y"] ["x", "y"] (defScope s_same_value) := ⟨rfl, rfl, rfl, by decide +kernel, rfl, by decide +kernel, by decide +kernel⟩
abbrev s_same_row : Stmt := topS 22
theorem sc_same_row : FnScope ["row", "other", "x", "y"] ["row", "other"] (defScope s_same_row) := ⟨rfl, rfl, rfl, by decide +kernel, rfl, by decide +kernel, by decide +kernel⟩
abbrev s_Chunk___init__ : Stmt := inClass (topS 23) 0
theorem sc_Chunk___init__ : FnScope ["self", "number", "wanted", "rows", "scopes"] ["self", "number", "wanted", "rows", "scopes"] (defScope s_Chunk___init__) := ⟨rfl, rfl, rfl, by decide +kernel, rfl, by decide +kernel, by decide +kernel⟩
abbrev s_Chunk___eq__ : Stmt := inClass (topS 23) 1
theorem sc_Chunk___eq__ : FnScope ["self", "other", "row", "there"] ["self", "other"] (defScope s_Chunk___eq__) := ⟨rfl, rfl, rfl, by decide +kernel, rfl, by decide +kernel, by decide +kernel⟩
abbrev s_law_cell : Stmt := topS 25
theorem sc_law_cell : FnScope ["script", "k"] ["script", "k"] (defScope s_law_cell) := ⟨rfl, rfl, rfl, by decide +kernel, rfl, by decide +kernel, by decide +kernel⟩
abbrev s_law_is_integer : Stmt := topS 26
theorem sc_law_is_integer : FnScope ["told"] ["told"] (defScope s_law_is_integer) := ⟨rfl, rfl, rfl, by decide +kernel, rfl, by decide +kernel, by decide +kernel⟩
abbrev s_law_begin : Stmt := topS 27
theorem sc_law_begin : FnScope ["script", "k"] ["script", "k"] (defScope s_law_begin) := ⟨rfl, rfl, rfl, by decide +kernel, rfl, by decide +kernel, by decide +kernel⟩
abbrev s_law_draw : Stmt := topS 28
theorem sc_law_draw : FnScope ["state", "many", "k", "cell", "prime", "mixed", "digit"] ["state", "many"] (defScope s_law_draw) := ⟨rfl, rfl, rfl, by decide +kernel, rfl, by decide +kernel, by decide +kernel⟩
abbrev s_law_pick : Stmt := topS 29
theorem sc_law_pick : FnScope ["state", "row"] ["state", "row"] (defScope s_law_pick) := ⟨rfl, rfl, rfl, by decide +kernel, rfl, by decide +kernel, by decide +kernel⟩
abbrev s_law_row : Stmt := topS 30
theorem sc_law_row : FnScope ["state", "many", "kind"] ["state", "many"] (defScope s_law_row) := ⟨rfl, rfl, rfl, by decide +kernel, rfl, by decide +kernel, by decide +kernel⟩
abbrev s_law_takes : Stmt := topS 31
theorem sc_law_takes : FnScope ["row", "word"] ["row"] (defScope s_law_takes) := ⟨rfl, rfl, rfl, by decide +kernel, rfl, by decide +kernel, by decide +kernel⟩
abbrev s_law_gives : Stmt := topS 32
theorem sc_law_gives : FnScope ["row"] ["row"] (defScope s_law_gives) := ⟨rfl, rfl, rfl, by decide +kernel, rfl, by decide +kernel, by decide +kernel⟩
abbrev s_law_lacks : Stmt := topS 33
theorem sc_law_lacks : FnScope ["chunks", "row", "stack", "variables", "word", "need", "chunk"] ["chunks", "row", "stack", "variables"] (defScope s_law_lacks) := ⟨rfl, rfl, rfl, by decide +kernel, rfl, by decide +kernel, by decide +kernel⟩
abbrev s_law_walk : Stmt := topS 34
theorem sc_law_walk : FnScope ["chunks", "chunk", "variables", "stack", "closures", "at", "row", "flaw"] ["chunks", "chunk", "variables"] (defScope s_law_walk) := ⟨rfl, rfl, rfl, by decide +kernel, rfl, by decide +kernel, by decide +kernel⟩
abbrev s_law_queue : Stmt := topS 35
theorem sc_law_queue : FnScope ["chunks", "flaws", "waiting", "begun", "k", "number", "variables", "chunk", "at", "flaw", "closures"] ["chunks"] (defScope s_law_queue) := ⟨rfl, rfl, rfl, by decide +kernel, rfl, by decide +kernel, by decide +kernel⟩
abbrev s_law_due : Stmt := topS 36
theorem sc_law_due : FnScope ["chunks", "flaws", "numbers", "chunk"] ["chunks"] (defScope s_law_due) := ⟨rfl, rfl, rfl, by decide +kernel, rfl, by decide +kernel, by decide +kernel⟩
abbrev s_law : Stmt := topS 37
theorem sc_law : FnScope ["script", "k", "state", "many", "chunks", "j", "number", "rows", "wanted", "told", "due", "i"] ["script"] (defScope s_law) := ⟨rfl, rfl, rfl, by decide +kernel, rfl, by decide +kernel, by decide +kernel⟩
structure Cs where
  Shape : Addr
  Check : Addr
  Chunk : Addr
theorem keyEq : (("__eq__" : Str) == "handlers") = false ∧ ¬ (("__eq__" : Str) = "handlers") ∧ (("__eq__" : Str) == "number") = false ∧ ¬ (("__eq__" : Str) = "number") ∧ (("__eq__" : Str) == "rows") = false ∧ ¬ (("__eq__" : Str) = "rows") ∧ (("__eq__" : Str) == "scopes") = false ∧ ¬ (("__eq__" : Str) = "scopes") ∧ (("__eq__" : Str) == "stack") = false ∧ ¬ (("__eq__" : Str) = "stack") ∧ (("__eq__" : Str) == "variables") = false ∧ ¬ (("__eq__" : Str) = "variables") ∧ (("__eq__" : Str) == "wanted") = false ∧ ¬ (("__eq__" : Str) = "wanted") ∧ (("__init__" : Str) == "chunk") = false ∧ ¬ (("__init__" : Str) = "chunk") ∧ (("__init__" : Str) == "chunks") = false ∧ ¬ (("__init__" : Str) = "chunks") ∧ (("__init__" : Str) == "closures") = false ∧ ¬ (("__init__" : Str) = "closures") ∧ (("__init__" : Str) == "handlers") = false ∧ ¬ (("__init__" : Str) = "handlers") ∧ (("__init__" : Str) == "number") = false ∧ ¬ (("__init__" : Str) = "number") ∧ (("__init__" : Str) == "reached") = false ∧ ¬ (("__init__" : Str) = "reached") ∧ (("__init__" : Str) == "rows") = false ∧ ¬ (("__init__" : Str) = "rows") ∧ (("__init__" : Str) == "scopes") = false ∧ ¬ (("__init__" : Str) = "scopes") ∧ (("__init__" : Str) == "shapes") = false ∧ ¬ (("__init__" : Str) = "shapes") ∧ (("__init__" : Str) == "stack") = false ∧ ¬ (("__init__" : Str) = "stack") ∧ (("__init__" : Str) == "variables") = false ∧ ¬ (("__init__" : Str) = "variables") ∧ (("__init__" : Str) == "wanted") = false ∧ ¬ (("__init__" : Str) = "wanted") ∧ (("chunk" : Str) == "chunks") = false ∧ ¬ (("chunk" : Str) = "chunks") ∧ (("chunk" : Str) == "closures") = false ∧ ¬ (("chunk" : Str) = "closures") ∧ (("chunk" : Str) == "reached") = false ∧ ¬ (("chunk" : Str) = "reached") ∧ (("chunk" : Str) == "shapes") = false ∧ ¬ (("chunk" : Str) = "shapes") ∧ (("chunks" : Str) == "chunk") = false ∧ ¬ (("chunks" : Str) = "chunk") ∧ (("chunks" : Str) == "closures") = false ∧ ¬ (("chunks" : Str) = "closures") ∧ (("chunks" : Str) == "reached") = false ∧ ¬ (("chunks" : Str) = "reached") ∧ (("chunks" : Str) == "shapes") = false ∧ ¬ (("chunks" : Str) = "shapes") ∧ (("closures" : Str) == "chunk") = false ∧ ¬ (("closures" : Str) = "chunk") ∧ (("closures" : Str) == "chunks") = false ∧ ¬ (("closures" : Str) = "chunks") ∧ (("closures" : Str) == "reached") = false ∧ ¬ (("closures" : Str) = "reached") ∧ (("closures" : Str) == "shapes") = false ∧ ¬ (("closures" : Str) = "shapes") ∧ (("follow" : Str) == "chunk") = false ∧ ¬ (("follow" : Str) = "chunk") ∧ (("follow" : Str) == "chunks") = false ∧ ¬ (("follow" : Str) = "chunks") ∧ (("follow" : Str) == "closures") = false ∧ ¬ (("follow" : Str) = "closures") ∧ (("follow" : Str) == "reached") = false ∧ ¬ (("follow" : Str) = "reached") ∧ (("follow" : Str) == "shapes") = false ∧ ¬ (("follow" : Str) = "shapes") ∧ (("handlers" : Str) == "stack") = false ∧ ¬ (("handlers" : Str) = "stack") ∧ (("handlers" : Str) == "variables") = false ∧ ¬ (("handlers" : Str) = "variables") ∧ (("look" : Str) == "chunk") = false ∧ ¬ (("look" : Str) = "chunk") ∧ (("look" : Str) == "chunks") = false ∧ ¬ (("look" : Str) = "chunks") ∧ (("look" : Str) == "closures") = false ∧ ¬ (("look" : Str) = "closures") ∧ (("look" : Str) == "reached") = false ∧ ¬ (("look" : Str) = "reached") ∧ (("look" : Str) == "shapes") = false ∧ ¬ (("look" : Str) = "shapes") ∧ (("missing" : Str) == "chunk") = false ∧ ¬ (("missing" : Str) = "chunk") ∧ (("missing" : Str) == "chunks") = false ∧ ¬ (("missing" : Str) = "chunks") ∧ (("missing" : Str) == "closures") = false ∧ ¬ (("missing" : Str) = "closures") ∧ (("missing" : Str) == "reached") = false ∧ ¬ (("missing" : Str) = "reached") ∧ (("missing" : Str) == "shapes") = false ∧ ¬ (("missing" : Str) = "shapes") ∧ (("number" : Str) == "rows") = false ∧ ¬ (("number" : Str) = "rows") ∧ (("number" : Str) == "scopes") = false ∧ ¬ (("number" : Str) = "scopes") ∧ (("number" : Str) == "wanted") = false ∧ ¬ (("number" : Str) = "wanted") ∧ (("reached" : Str) == "chunk") = false ∧ ¬ (("reached" : Str) = "chunk") ∧ (("reached" : Str) == "chunks") = false ∧ ¬ (("reached" : Str) = "chunks") ∧ (("reached" : Str) == "closures") = false ∧ ¬ (("reached" : Str) = "closures") ∧ (("reached" : Str) == "shapes") = false ∧ ¬ (("reached" : Str) = "shapes") ∧ (("rows" : Str) == "number") = false ∧ ¬ (("rows" : Str) = "number") ∧ (("rows" : Str) == "scopes") = false ∧ ¬ (("rows" : Str) = "scopes") ∧ (("rows" : Str) == "wanted") = false ∧ ¬ (("rows" : Str) = "wanted") ∧ (("run" : Str) == "chunk") = false ∧ ¬ (("run" : Str) = "chunk") ∧ (("run" : Str) == "chunks") = false ∧ ¬ (("run" : Str) = "chunks") ∧ (("run" : Str) == "closures") = false ∧ ¬ (("run" : Str) = "closures") ∧ (("run" : Str) == "reached") = false ∧ ¬ (("run" : Str) = "reached") ∧ (("run" : Str) == "shapes") = false ∧ ¬ (("run" : Str) = "shapes") ∧ (("scopes" : Str) == "number") = false ∧ ¬ (("scopes" : Str) = "number") ∧ (("scopes" : Str) == "rows") = false ∧ ¬ (("scopes" : Str) = "rows") ∧ (("scopes" : Str) == "wanted") = false ∧ ¬ (("scopes" : Str) = "wanted") ∧ (("shapes" : Str) == "chunk") = false ∧ ¬ (("shapes" : Str) = "chunk") ∧ (("shapes" : Str) == "chunks") = false ∧ ¬ (("shapes" : Str) = "chunks") ∧ (("shapes" : Str) == "closures") = false ∧ ¬ (("shapes" : Str) = "closures") ∧ (("shapes" : Str) == "reached") = false ∧ ¬ (("shapes" : Str) = "reached") ∧ (("stack" : Str) == "handlers") = false ∧ ¬ (("stack" : Str) = "handlers") ∧ (("stack" : Str) == "variables") = false ∧ ¬ (("stack" : Str) = "variables") ∧ (("variables" : Str) == "handlers") = false ∧ ¬ (("variables" : Str) = "handlers") ∧ (("variables" : Str) == "stack") = false ∧ ¬ (("variables" : Str) = "stack") ∧ (("wanted" : Str) == "number") = false ∧ ¬ (("wanted" : Str) = "number") ∧ (("wanted" : Str) == "rows") = false ∧ ¬ (("wanted" : Str) = "rows") ∧ (("wanted" : Str) == "scopes") = false ∧ ¬ (("wanted" : Str) = "scopes") := by (repeat' apply And.intro) <;> decide +kernel
--!skip shape_at
--!gd TAKEN: const declare blank load save drop pop not add item set_item class method iter field set_field leave closure raise ret
--!gd LEFT: const declare blank load save drop pop not add item set_item list map call invoke super class method iter field set_field leave closure raise ret
--!none range len int isinstance bool list tuple str abs min max
section
open PySem PySem.Spec PyProof.Rows L2 Fx
set_option maxHeartbeats 0
abbrev Rw : PySem.W.OpenRow := PySem.W.OpenLaw.row PySem.Challenge.rw_livequill_k37_flaws_of_straight_code
def nm0 : List Str := [("TAKEN" : Str), ("LEFT" : Str), ("Shape" : Str), ("taken_by" : Str), ("left_by" : Str), ("variables_for" : Str), ("handlers_for" : Str), ("shape_after" : Str), ("shape_at" : Str), ("flaw_of" : Str), ("index_at" : Str), ("OVER" : Str), ("ONLY_THERE" : Str), ("first_chunk" : Str), ("Check" : Str), ("check_all" : Str), ("flaws_of" : Str), ("same_value" : Str), ("same_row" : Str), ("Chunk" : Str)]
def nm1 : List Str := [("_law_cell" : Str), ("_law_is_integer" : Str), ("_law_begin" : Str), ("_law_draw" : Str), ("_law_pick" : Str), ("_law_row" : Str), ("_law_takes" : Str), ("_law_gives" : Str), ("_law_lacks" : Str), ("_law_walk" : Str), ("_law_queue" : Str), ("_law_due" : Str)]
abbrev nms : List Str := nm0 ++ nm1
def fa0 : List Hd.Fh := [.glo "Shape", .glo "Check", .glo "Chunk", .cls "Shape", .cls "Check", .cls "Chunk", .obj, .noat "Check" "chunk", .noat "Check" "chunks", .noat "Check" "closures", .noat "Shape" "handlers", .noat "Chunk" "number", .noat "Check" "reached", .noat "Chunk" "rows", .noat "Chunk" "scopes", .noat "Check" "shapes", .noat "Shape" "stack", .noat "Shape" "variables", .noat "Chunk" "wanted", .kio "Shape" "Shape"]
def fa1 : List Hd.Fh := [.kio "Shape" "Chunk", .kio "Check" "Shape", .kio "Check" "Chunk", .kio "Chunk" "Shape", .kio "Chunk" "Chunk", .kib "NoneType" "Shape", .kib "NoneType" "Chunk", .kib "bool" "Shape", .kib "bool" "Chunk", .kib "int" "Shape", .kib "int" "Chunk", .kib "str" "Shape", .kib "str" "Chunk", .kib "list" "Shape", .kib "list" "Chunk", .kib "tuple" "Shape", .kib "tuple" "Chunk", .kib "dict" "Shape", .kib "dict" "Chunk", .kob "Shape" "bool"]
def fa2 : List Hd.Fh := [.kob "Shape" "int", .kob "Shape" "str", .kob "Shape" "list", .kob "Shape" "tuple", .kob "Shape" "dict", .kob "Check" "bool", .kob "Check" "int", .kob "Check" "str", .kob "Check" "list", .kob "Check" "tuple", .kob "Check" "dict", .kob "Chunk" "bool", .kob "Chunk" "int", .kob "Chunk" "str", .kob "Chunk" "list", .kob "Chunk" "tuple", .kob "Chunk" "dict", .ne "Shape" "Check", .ne "Shape" "Chunk", .ne "Check" "Chunk"]
def fa3 : List Hd.Fh := [.glo "LEFT", .dict "LEFT" [("const", some (.int 1)), ("declare", none), ("blank", none), ("load", some (.int 1)), ("save", some (.int 1)), ("drop", none), ("pop", none), ("not", some (.int 1)), ("add", some (.int 1)), ("item", some (.int 1)), ("set_item", some (.int 1)), ("list", some (.int 1)), ("map", some (.int 1)), ("call", some (.int 1)), ("invoke", some (.int 1)), ("super", some (.int 1)), ("class", some (.int 1)), ("method", some (.int 1)), ("iter", some (.int 1)), ("field", some (.int 1)), ("set_field", some (.int 1)), ("leave", none), ("closure", some (.int 1)), ("raise", none), ("ret", none)], .glo "TAKEN", .dict "TAKEN" [("const", none), ("declare", some (.int 1)), ("blank", none), ("load", none), ("save", some (.int 1)), ("drop", none), ("pop", some (.int 1)), ("not", some (.int 1)), ("add", some (.int 2)), ("item", some (.int 2)), ("set_item", some (.int 3)), ("class", none), ("method", some (.int 2)), ("iter", some (.int 1)), ("field", some (.int 1)), ("set_field", some (.int 2)), ("leave", none), ("closure", none), ("raise", some (.int 1)), ("ret", some (.int 1))], .meth "Shape" "__init__", .meth "Check" "__init__", .meth "Chunk" "__init__", .glo "taken_by", .keep "taken_by", .glo "left_by", .keep "left_by", .glo "variables_for", .keep "variables_for", .glo "handlers_for", .keep "handlers_for", .glo "shape_after", .keep "shape_after", .glo "flaw_of", .keep "flaw_of", .glo "index_at"]
def fa4 : List Hd.Fh := [.keep "index_at", .glo "first_chunk", .keep "first_chunk", .meth "Check" "missing", .meth "Check" "follow", .meth "Check" "look", .meth "Check" "run", .glo "check_all", .keep "check_all", .glo "flaws_of", .keep "flaws_of", .glo "_law_cell", .keep "_law_cell", .glo "_law_begin", .keep "_law_begin", .glo "_law_draw", .keep "_law_draw", .glo "_law_pick", .keep "_law_pick", .glo "_law_row"]
def fa5 : List Hd.Fh := [.keep "_law_row", .glo "_law_takes", .keep "_law_takes", .glo "_law_gives", .keep "_law_gives", .glo "_law_lacks", .keep "_law_lacks", .glo "_law_walk", .keep "_law_walk", .glo "_law_queue", .keep "_law_queue", .glo "_law_due", .keep "_law_due", .glo "_law_is_integer", .keep "_law_is_integer", .glo "law", .keep "law", .free "abs", .free "bool", .free "int"]
def fa6 : List Hd.Fh := [.free "isinstance", .free "len", .free "list", .free "max", .free "min", .free "range", .free "str", .free "tuple", .glo "ONLY_THERE", .tup "ONLY_THERE" [.str "jump", .str "escape"], .glo "OVER", .tup "OVER" [.str "raise", .str "ret"]]
abbrev fas : List Hd.Fh := fa0 ++ (fa1 ++ (fa2 ++ (fa3 ++ (fa4 ++ (fa5 ++ (fa6))))))
def fns : List Hd.Df := [⟨.meth "Shape" "__init__", "__init__", "Shape.__init__", s_Shape___init__, false⟩,
  ⟨.meth "Check" "__init__", "__init__", "Check.__init__", s_Check___init__, false⟩,
  ⟨.meth "Chunk" "__init__", "__init__", "Chunk.__init__", s_Chunk___init__, true⟩,
  ⟨.glo "taken_by", "taken_by", "taken_by", s_taken_by, false⟩,
  ⟨.glo "left_by", "left_by", "left_by", s_left_by, false⟩,
  ⟨.glo "variables_for", "variables_for", "variables_for", s_variables_for, false⟩,
  ⟨.glo "handlers_for", "handlers_for", "handlers_for", s_handlers_for, false⟩,
  ⟨.glo "shape_after", "shape_after", "shape_after", s_shape_after, false⟩,
  ⟨.glo "flaw_of", "flaw_of", "flaw_of", s_flaw_of, false⟩,
  ⟨.glo "index_at", "index_at", "index_at", s_index_at, false⟩,
  ⟨.glo "first_chunk", "first_chunk", "first_chunk", s_first_chunk, false⟩,
  ⟨.meth "Check" "missing", "missing", "Check.missing", s_Check_missing, false⟩,
  ⟨.meth "Check" "follow", "follow", "Check.follow", s_Check_follow, false⟩,
  ⟨.meth "Check" "look", "look", "Check.look", s_Check_look, false⟩,
  ⟨.meth "Check" "run", "run", "Check.run", s_Check_run, false⟩,
  ⟨.glo "check_all", "check_all", "check_all", s_check_all, false⟩,
  ⟨.glo "flaws_of", "flaws_of", "flaws_of", s_flaws_of, false⟩,
  ⟨.glo "_law_cell", "_law_cell", "_law_cell", s_law_cell, false⟩,
  ⟨.glo "_law_begin", "_law_begin", "_law_begin", s_law_begin, false⟩,
  ⟨.glo "_law_draw", "_law_draw", "_law_draw", s_law_draw, false⟩,
  ⟨.glo "_law_pick", "_law_pick", "_law_pick", s_law_pick, false⟩,
  ⟨.glo "_law_row", "_law_row", "_law_row", s_law_row, false⟩,
  ⟨.glo "_law_takes", "_law_takes", "_law_takes", s_law_takes, false⟩,
  ⟨.glo "_law_gives", "_law_gives", "_law_gives", s_law_gives, false⟩,
  ⟨.glo "_law_lacks", "_law_lacks", "_law_lacks", s_law_lacks, false⟩,
  ⟨.glo "_law_walk", "_law_walk", "_law_walk", s_law_walk, false⟩,
  ⟨.glo "_law_queue", "_law_queue", "_law_queue", s_law_queue, false⟩,
  ⟨.glo "_law_due", "_law_due", "_law_due", s_law_due, false⟩,
  ⟨.glo "_law_is_integer", "_law_is_integer", "_law_is_integer", s_law_is_integer, false⟩,
  ⟨.glo "law", "law", "law", s_law, false⟩]
def dcs : List (Str × List Str) := [("LEFT", [("const" : Str), ("load" : Str), ("save" : Str), ("negate" : Str), ("not" : Str), ("add" : Str), ("sub" : Str), ("mul" : Str), ("div" : Str), ("mod" : Str), ("eq" : Str), ("ne" : Str), ("lt" : Str), ("le" : Str), ("gt" : Str), ("ge" : Str), ("is" : Str), ("list" : Str), ("map" : Str), ("item" : Str), ("set_item" : Str), ("field" : Str), ("set_field" : Str), ("call" : Str), ("invoke" : Str), ("super" : Str), ("closure" : Str), ("class" : Str), ("method" : Str), ("iter" : Str), ("next" : Str)]), ("TAKEN", [("pop" : Str), ("save" : Str), ("negate" : Str), ("not" : Str), ("add" : Str), ("sub" : Str), ("mul" : Str), ("div" : Str), ("mod" : Str), ("eq" : Str), ("ne" : Str), ("lt" : Str), ("le" : Str), ("gt" : Str), ("ge" : Str), ("is" : Str), ("unless" : Str), ("both" : Str), ("either" : Str), ("item" : Str), ("set_item" : Str), ("field" : Str), ("set_field" : Str), ("declare" : Str), ("method" : Str), ("iter" : Str), ("raise" : Str), ("ret" : Str)])]
def rt0 : List Str := [("Shape" : Str), ("Check" : Str), ("Chunk" : Str), ("LEFT" : Str), ("TAKEN" : Str), ("ONLY_THERE" : Str), ("OVER" : Str), ("taken_by" : Str), ("left_by" : Str), ("variables_for" : Str), ("handlers_for" : Str), ("shape_after" : Str), ("flaw_of" : Str), ("index_at" : Str), ("first_chunk" : Str), ("check_all" : Str), ("flaws_of" : Str), ("_law_cell" : Str), ("_law_begin" : Str), ("_law_draw" : Str)]
def rt1 : List Str := [("_law_pick" : Str), ("_law_row" : Str), ("_law_takes" : Str), ("_law_gives" : Str), ("_law_lacks" : Str), ("_law_walk" : Str), ("_law_queue" : Str), ("_law_due" : Str), ("_law_is_integer" : Str), ("law" : Str)]
abbrev rts : List Str := rt0 ++ rt1
abbrev hk : PySem.W.Hook := Hd.hook 5 rts fas fns dcs
def ob (s : PySem.W.SharedT) : Hd.Al := Hd.obsG 5 rts fas fns dcs (HandSHeadRun.getT s)
theorem ob_eq (s : PySem.W.SharedT) : ob s = hk.obs s.abs := Hd.obsG_eq (HandSHeadRun.getT_eq s)
def Run (w : World) : Prop := HandSHeadRun.RunEq Rw (PySem.W.view Rw.prog [37]) hk ob 300000 nms w
theorem run_f (w : World) : Run (w.withFollow "special-get-raises" false) := fun os => by kernel_rfl
theorem run_t (w : World) : Run (w.withFollow "special-get-raises" true) := fun os => by kernel_rfl
theorem run (w : World) : Run w := PySem.W.byRow2 "special-get-raises" (P := Run) run_f run_t w
end
structure TxD (w : World) (K : PySem.W.Frag) (mg : Str → Option Value) : Prop where
  d_LEFT : GDict K w mg "LEFT" [("const", some (.int 1)), ("declare", none), ("blank", none), ("load", some (.int 1)), ("save", some (.int 1)), ("drop", none), ("pop", none), ("not", some (.int 1)), ("add", some (.int 1)), ("item", some (.int 1)), ("set_item", some (.int 1)), ("list", some (.int 1)), ("map", some (.int 1)), ("call", some (.int 1)), ("invoke", some (.int 1)), ("super", some (.int 1)), ("class", some (.int 1)), ("method", some (.int 1)), ("iter", some (.int 1)), ("field", some (.int 1)), ("set_field", some (.int 1)), ("leave", none), ("closure", some (.int 1)), ("raise", none), ("ret", none)]
  d_TAKEN : GDict K w mg "TAKEN" [("const", none), ("declare", some (.int 1)), ("blank", none), ("load", none), ("save", some (.int 1)), ("drop", none), ("pop", some (.int 1)), ("not", some (.int 1)), ("add", some (.int 2)), ("item", some (.int 2)), ("set_item", some (.int 3)), ("class", none), ("method", some (.int 2)), ("iter", some (.int 1)), ("field", some (.int 1)), ("set_field", some (.int 2)), ("leave", none), ("closure", none), ("raise", some (.int 1)), ("ret", some (.int 1))]
structure Txt (K : PySem.W.Frag) (mg : Str → Option Value) (c : Cs) : Prop where
  no_abs : mg "abs" = none
  no_bool : mg "bool" = none
  no_int : mg "int" = none
  no_isinstance : mg "isinstance" = none
  no_len : mg "len" = none
  no_list : mg "list" = none
  no_max : mg "max" = none
  no_min : mg "min" = none
  no_range : mg "range" = none
  no_str : mg "str" = none
  no_tuple : mg "tuple" = none
  g_ONLY_THERE : GTup K mg "ONLY_THERE" [.str "jump", .str "escape"]
  g_OVER : GTup K mg "OVER" [.str "raise", .str "ret"]
  mg_Shape : mg "Shape" = some (.ref c.Shape)
  cl_Shape : Cls K c.Shape
  mk_Shape : MkAt K mg "Shape" c.Shape
  mg_Check : mg "Check" = some (.ref c.Check)
  cl_Check : Cls K c.Check
  mk_Check : MkAt K mg "Check" c.Check
  mg_Chunk : mg "Chunk" = some (.ref c.Chunk)
  cl_Chunk : Cls K c.Chunk
  mk_Chunk : MkAt K mg "Chunk" c.Chunk
  pl_chunk : Plain K [c.Check] "chunk"
  pl_chunks : Plain K [c.Check] "chunks"
  pl_closures : Plain K [c.Check] "closures"
  pl_handlers : Plain K [c.Shape] "handlers"
  pl_number : Plain K [c.Chunk] "number"
  pl_reached : Plain K [c.Check] "reached"
  pl_rows : Plain K [c.Chunk] "rows"
  pl_scopes : Plain K [c.Chunk] "scopes"
  pl_shapes : Plain K [c.Check] "shapes"
  pl_stack : Plain K [c.Shape] "stack"
  pl_variables : Plain K [c.Shape] "variables"
  pl_wanted : Plain K [c.Chunk] "wanted"
  ob : ObjFact K
  kit : Kit K [c.Shape, c.Check, c.Chunk] [c.Shape, c.Chunk]
  ne : (c.Shape = c.Check) = False ∧ (c.Shape = c.Chunk) = False ∧ (c.Check = c.Shape) = False ∧ (c.Check = c.Chunk) = False ∧ (c.Chunk = c.Shape) = False ∧ (c.Chunk = c.Check) = False
section
variable {P : Program} {w : World} {K : PySem.W.Frag} {mg : Str → Option Value} {base : Heap} {c : Cs}
/-- the law's own state: a number, a place, the script; H0: the heap at the law's start -/
structure Dr (K : PySem.W.Frag) (H0 : Hp) (s sc : Addr) (ns : List Int) (H : Hp) : Prop where
  st : ∃ a k : Int, H s = some (.lst [.int a, .int k, .ref sc]) ∧ 0 ≤ a ∧ 0 ≤ k
  sq : SqL K H0 sc (ns.map V.int)
  sm : Same H0 H
  nw : H0 s = none
  le : ns.length ≤ 63
theorem same_keep {H0 H H' : Hp} {ps : List Addr} (s : Same H0 H) (k : Keep ps H H') (n : ∀ q ∈ ps, H0 q = none) : Same H0 H' := fun a o e => k a o (fun m => by rw [n a m] at e; cases e) (s a o e)
theorem Dr.keep {H0 : Hp} {s sc : Addr} {ns : List Int} {ps : List Addr} {H H' : Hp} (d : Dr K H0 s sc ns H) (k : Keep ps H H') (n1 : s ∉ ps) (n2 : ∀ q ∈ ps, H0 q = none) : Dr K H0 s sc ns H' := by
  obtain ⟨a, j, e, h1, h2⟩ := d.st
  exact ⟨⟨a, j, k _ _ n1 e, h1, h2⟩, d.sq, same_keep d.sm k n2, d.nw, d.le⟩
theorem Dr.same {H0 : Hp} {s sc : Addr} {ns : List Int} {H H' : Hp} (d : Dr K H0 s sc ns H) (k : Same H H') : Dr K H0 s sc ns H' := d.keep (Keep.of (ps := []) k) (by simp) (fun _ h => by cases h)
def spCell (K : PySem.W.Frag) : Sp := fun vs H Q _ => match vs with
  | [.ref a, .int k] => ∃ ns : List Int, SqL K H a (ns.map V.int) ∧ ns.length ≤ 63 ∧ 0 ≤ k ∧ ∀ v : Int, Q (.int v) H
  | _ => False
theorem ok_cell (A : At K mg "_law_cell" "_law_cell" s_law_cell ["script", "k"]) (T : Txt K mg c) : Has P w K mg base CX0 "_law_cell" 1 ["script", "k"] (spCell K) := by
  have Sc := sc_law_cell
  refine has_of A Sc (fun vs H Q E h => ?_) (fun cdv f A outer s H vs Q E hr h => ?_)
  · unfold spCell at h; split at h; rfl; cases h
  · unfold spCell at h
    split at h
    · rename_i a k
      obtain ⟨ns, hS, hn, h0, kk⟩ := h
      refine ⟨_, (pss_cons (ps_if (pt_cmpR op_fLt (fe_var 1) (pe_callB call_fLen (by rfl) T.no_len (by decide +kernel) (pa_cons (fe_var 0) pa_nil)) (nomark _)) (pss_one (ps_ret (pe_ix ix_fx (fe_var 0) (fe_var 1) (fun _ _ => rfl)))) pss_nil)
      (pss_one (ps_ret pe_int))), ?_⟩
      walk_at "fx0"
      walk_at "fx"
      refine ifs_ ?_
      walk_at "fx"
      refine ⟨_, .inl hS, ?_⟩
      rw [List.length_map]
      split
      · rename_i hlt
        obtain ⟨z, ez⟩ := at_ints (ns := ns) (i := k) h0 hlt
        exact ⟨_, .inl hS, _, ez, kk z⟩
      · exact kk 0
    · cases h
def spBegin (K : PySem.W.Frag) : Sp := fun vs H Q _ => match vs with
  | [.ref a, .int k] => 0 ≤ k ∧ ∀ s H1, H s = none → Same H H1 → H1 s = some (.lst [.int 0, .int k, .ref a]) → Q (.ref s) H1
  | _ => False
theorem ok_begin (A : At K mg "_law_begin" "_law_begin" s_law_begin ["script", "k"]) (T : Txt K mg c) : Has P w K mg base CX0 "_law_begin" 1 ["script", "k"] (spBegin K) := by
  have Sc := sc_law_begin
  refine has_of A Sc (fun vs H Q E h => ?_) (fun cdv f A outer s H vs Q E hr h => ?_)
  · unfold spBegin at h; split at h; rfl; cases h
  · unfold spBegin at h
    split at h
    · rename_i a k
      obtain ⟨h0, kk⟩ := h
      refine ⟨_, (pss_one (ps_ret (fe_lst (pa_cons pe_int (pa_cons (fe_var 1) (pa_cons (fe_var 0) pa_nil)))))), ?_⟩
      walk_at "fx0"
      walk_at "fx"
      exact kk
    · cases h
def spDraw (K : PySem.W.Frag) : Sp := fun vs H Q _ => match vs with
  | [.ref s, .int m] => ∃ H0 sc ns, Dr K H0 s sc ns H ∧ 0 < m ∧ m < 1000000000000000000000000000000 ∧ ∀ H1 (d : Int), Keep [s] H H1 → Dr K H0 s sc ns H1 → 0 ≤ d → d < m → Q (.int d) H1
  | _ => False
theorem big_mul {i : Int} (h0 : 0 ≤ i) (h : i < 2 ^ 100) : IntMulOk i i := by
  have b : Builtin.Int.intBits i ≤ 128 := by
    unfold Builtin.Int.intBits
    by_cases hz : i = 0
    · subst hz; decide
    · rw [if_neg (by simpa using hz)]
      have : i.natAbs.log2 < 100 := (Nat.log2_lt (by omega)).mpr (by omega)
      omega
  exact IntMulOk.of_le b b (by decide)
theorem ok_draw (A : At K mg "_law_draw" "_law_draw" s_law_draw ["state", "many"]) (T : Txt K mg c) (H_law_cell : Has P w K mg base CX0 "_law_cell" 1 ["script", "k"] (spCell K)) : Has P w K mg base CX0 "_law_draw" 2 ["state", "many"] (spDraw K) := by
  have Sc := sc_law_draw
  refine has_of A Sc (fun vs H Q E h => ?_) (fun cdv f A outer s H vs Q E hr h => ?_)
  · unfold spDraw at h; split at h; rfl; cases h
  · unfold spDraw at h
    split at h
    · rename_i st m
      obtain ⟨H0, sc, ns, D, h0, h1, kk⟩ := h
      obtain ⟨x, k, es, hx, hk⟩ := D.st
      refine ⟨_, (pss_cons (ps_if (pt_cmpR op_fLt (pe_ix ix_fx (fe_var 0) pe_int (fun _ _ => rfl)) (fe_var 1) (nomark _)) (pss_cons (ps_set (i := 2) Sc.nd rfl (.inl rfl) (pe_ix ix_fx (fe_var 0) pe_int (fun _ _ => rfl)))
      (pss_cons (ps_set (i := 3) Sc.nd rfl (.inl rfl) (fe_call H_law_cell (hr.mono (by walk_at "rm")) (by rfl) pass0 (pa_cons (pe_ix ix_fx (fe_var 0) pe_int (fun _ _ => rfl)) (pa_cons (fe_var 2) pa_nil))))
      (pss_cons (ps_set (i := 4) Sc.nd rfl (.inl rfl) pe_int)
      (pss_cons (ps_asg (pe_op op_fAdd (fe_var 2) pe_int) (pg_sub (fe_var 0) pe_int set_fx))
      (pss_cons (ps_asg (pe_callB call_fAbs (by rfl) T.no_abs (by decide +kernel) (pa_cons (fe_var 3) pa_nil)) (pg_sub (fe_var 0) pe_int set_fx))
      (pss_one (ps_if (pt_chain op_fLt op_fLt (pe_un un_fNeg pe_int) (fe_var 3) pe_int) (pss_cons (ps_set (i := 5) Sc.nd rfl (.inl rfl) (pe_op op_fMod (pe_callTy call_fInt (by rfl) T.no_int (by decide +kernel) (pa_cons (pe_op op_fAdd (pe_op op_fMul (fe_var 3) pe_int) (pe_op op_fMul (pe_op op_fAdd (fe_var 2) pe_int) pe_int)) pa_nil)) (fe_var 4)))
      (pss_one (ps_asg (pe_op op_fAdd (pe_op op_fMod (pe_callTy call_fInt (by rfl) T.no_int (by decide +kernel) (pa_cons (pe_op op_fAdd (pe_op op_fAdd (pe_op op_fMul (fe_var 5) (fe_var 5)) (pe_op op_fMul pe_int (fe_var 5))) (fe_var 2)) pa_nil)) (fe_var 4)) (fe_var 4)) (pg_sub (fe_var 0) pe_int set_fx)))) pss_nil))))))) pss_nil)
      (pss_cons (ps_set (i := 6) Sc.nd rfl (.inl rfl) (pe_op op_fMod (pe_callTy call_fInt (by rfl) T.no_int (by decide +kernel) (pa_cons (pe_ix ix_fx (fe_var 0) pe_int (fun _ _ => rfl)) pa_nil)) (fe_var 1)))
      (pss_cons (ps_asg (pe_op op_fDiv (pe_ix ix_fx (fe_var 0) pe_int (fun _ _ => rfl)) (fe_var 1)) (pg_sub (fe_var 0) pe_int set_fx))
      (pss_one (ps_ret (fe_var 6)))))), ?_⟩
      walk_at "fx0"
      walk_at "fx"
      refine cut_ fun N hN => ifs_ ?_
      walk_at "fx"
      refine ⟨_, rl_l es, _, atI_nat (j := 0) rfl, ?_⟩
      walk_at "fx"
      have fin : ∀ (y : Int) (k' : Int) (v2 v3 v4 v5 : Option V) (H1 : Hp), Keep [st] H H1 → H1 st = some (.lst [.int y, .int k', .ref sc]) → 0 ≤ y → 0 ≤ k' → N [some (.ref st), some (.int m), v2, v3, v4, v5, none] H1 := by
        intro y k' v3 v4 v5 v6 H1 kp e1 g0 g1
        refine hN _ _ ?_
        walk_at "fx"
        refine ⟨_, rl_l e1, _, atI_nat (j := 0) rfl, h0, _, rl_l e1, _, atI_nat (j := 0) rfl, wide_div (b := 100) h0 (by omega) (by decide) (by decide), ?_⟩
        rw [e1]
        refine ⟨0, rfl, ?_⟩
        have kp2 : Keep [st] H (upd H1 st (.lst ([V.int y, .int k', .ref sc].set 0 (.int (y / m))))) := kp.upd (by simp)
        exact kk _ _ kp2 ⟨⟨y / m, k', upd_same, Int.ediv_nonneg g0 (by omega), g1⟩, D.sq, same_keep D.sm kp2 (by intro q hq; rw [List.mem_singleton.mp hq]; exact D.nw), D.nw, D.le⟩ (emod_lo y h0) (emod_hi y h0)
      split
      · refine ⟨_, rl_l es, _, atI_nat (j := 1) rfl, _, rl_l es, _, atI_nat (j := 2) rfl, ?_⟩
        unfold spCell
        refine ⟨ns, D.sm.seq D.sq, D.le, hk, fun v => ?_⟩
        walk_at "fx"
        simp only [es]
        walk_at "fx"
        refine ⟨1, rfl, 0, rfl, ?_⟩
        refine ifs_ ?_
        walk_at "fx"
        have kp : Keep [st] H (upd (upd H st (.lst [.int x, .int (k + 1), .ref sc])) st (.lst [.int (if v < 0 then -v else v), .int (k + 1), .ref sc])) := (Keep.refl.upd (by simp)).upd (by simp)
        have ha : 0 ≤ (if v < 0 then -v else v) := by split <;> omega
        split
        · split
          · have g0 := emod_lo (v * 2654435761 + (k + 1) * 6700417) (m := 618970019642690137449562111) (by decide)
            have g1 := emod_hi (v * 2654435761 + (k + 1) * 6700417) (m := 618970019642690137449562111) (by decide)
            generalize (v * 2654435761 + (k + 1) * 6700417) % 618970019642690137449562111 = y at g0 g1
            have g2 := emod_lo (y * y + 7 * y + k) (m := 618970019642690137449562111) (by decide)
            refine ⟨by walk_at "mul", by walk_at "mul", big_mul g0 (by omega), by walk_at "mul", 0, rfl, ?_⟩
            exact fin _ (k + 1) _ _ _ _ _ (kp.upd (by simp)) upd_same (by omega) (by omega)
          · exact fin _ (k + 1) _ _ _ _ _ kp upd_same ha (by omega)
        · exact fin _ (k + 1) _ _ _ _ _ kp upd_same ha (by omega)
      · exact fin x k _ _ _ _ H Keep.refl es hx hk
    · cases h
end

section
variable {P : Program} {w : World} {K : PySem.W.Frag} {mg : Str → Option Value} {base : Heap} {c : Cs}
def spMk_Shape (K : PySem.W.Frag) (c : Cs) : Sp := fun vs H Q _ => match vs with
  | [v_stack, v_variables, v_handlers] => ∀ y dx H1, H y = none → Same H H1 → H1 y = some (.ins c.Shape dx [("stack", v_stack), ("variables", v_variables), ("handlers", v_handlers)]) → Q (.ref y) H1
  | _ => False
theorem mk_Shape (A : AtM K c.Shape "__init__" "Shape.__init__" s_Shape___init__ ["self", "stack", "variables", "handlers"]) (T : Txt K mg c) : HasC P w K mg base CX0 c.Shape "Shape" 1 ["self", "stack", "variables", "handlers"] (spMk_Shape K c) := by
  have Sc := sc_Shape___init__
  refine hasC_of T.mk_Shape A Sc (fun vs H Q E h => ?_) (fun cdv f A outer s H vs Q E y dx H0 hr h hy hs h0 => ?_)
  · unfold spMk_Shape at h; split at h; rfl; cases h
  · unfold spMk_Shape at h
    split at h
    · rename_i v_stack v_variables v_handlers
      refine ⟨_, (pss_cons (fs_fld (fe_var 0) (fe_var 1) T.pl_stack rfl)
      (pss_cons (fs_fld (fe_var 0) (fe_var 2) T.pl_variables rfl)
      (pss_one (fs_fld (fe_var 0) (fe_var 3) T.pl_handlers rfl)))), ?_⟩
      walk_at "fx0"
      walk_at "ox"
      simp only [h0]
      walk_at "ox"
      first
        | exact h y dx _ hy (mk_same hs hy) upd_same
        | exact ⟨by decide, h y dx _ hy (mk_same hs hy) upd_same⟩
    · cases h
end
section
variable {P : Program} {w : World} {K : PySem.W.Frag} {mg : Str → Option Value} {base : Heap} {c : Cs}
def spPick2 (K : PySem.W.Frag) : Sp := fun vs H Q _ => match vs with
  | [.ref s, r] => ∃ H0 sc ns xs, Dr K H0 s sc ns H ∧ (match r with | .ref a => ∀ H1, Keep [s] H H1 → Rl K H1 a xs | .str z => xs = z.cps.toList.map (fun ch => V.str ⟨#[ch]⟩) | _ => False) ∧ 0 < xs.length ∧ xs.length ≤ 1000 ∧ ∀ H1 v, Keep [s] H H1 → Dr K H0 s sc ns H1 → v ∈ xs → Q v H1
  | _ => False
theorem ok_pick2 (A : At K mg "_law_pick" "_law_pick" s_law_pick ["state", "row"]) (T : Txt K mg c) (H_law_draw : Has P w K mg base CX0 "_law_draw" 2 ["state", "many"] (spDraw K)) : Has P w K mg base CX0 "_law_pick" 3 ["state", "row"] (spPick2 K) := by
  have Sc := sc_law_pick
  refine has_of A Sc (fun vs H Q E h => ?_) (fun cdv f A outer s H vs Q E hr h => ?_)
  · unfold spPick2 at h; split at h; rfl; cases h
  · unfold spPick2 at h
    split at h
    · rename_i st r
      obtain ⟨H0, sc, ns, xs, D, hr1, h0, h1, kk⟩ := h
      refine ⟨_, (pss_one (ps_ret (pe_ix ix_fx (fe_var 1) (fe_call H_law_draw (hr.mono (by walk_at "rm")) (by rfl) pass0 (pa_cons (fe_var 0) (pa_cons (pe_callB call_fLen (by rfl) T.no_len (by decide +kernel) (pa_cons (fe_var 1) pa_nil)) pa_nil))) (fun _ _ => rfl)))), ?_⟩
      walk_at "fx0"
      split at hr1
      · rename_i r
        walk_at "fx"
        refine ⟨_, hr1 H Keep.refl, ?_⟩
        unfold spDraw
        refine ⟨H0, sc, ns, D, by omega, by omega, fun H1 d kp D1 d0 d1 => ?_⟩
        obtain ⟨v, hv, ev⟩ := at_vs (xs := xs) d0 d1
        exact ⟨_, hr1 H1 kp, v, ev, kk H1 v kp D1 hv⟩
      · rename_i z
        have hz : z.length = xs.length := by rw [hr1, List.length_map]; exact Array.length_toList.symm
        have hl : z.length ≤ sizeLine := by
          have := len_line' (n := z.length) (by omega)
          omega
        walk_at "fx"
        refine ⟨hl, ?_⟩
        unfold spDraw
        refine ⟨H0, sc, ns, D, by omega, by omega, fun H1 d kp D1 d0 d1 => ?_⟩
        obtain ⟨n, rfl⟩ := Int.eq_ofNat_of_zero_le d0
        have hn : n < z.cps.toList.length := by
          have d1' : (n : Int) < (z.length : Nat) := d1
          have e : z.cps.toList.length = z.length := Array.length_toList
          rw [e]
          omega
        have ec : z.cps.toList[n]? = some z.cps.toList[n] := List.getElem?_eq_getElem hn
        refine ⟨hl, _, atI_nat ec, kk H1 _ kp D1 ?_⟩
        rw [hr1]
        exact List.mem_map_of_mem (List.getElem_mem hn)
      · exact hr1.elim
    · cases h
end

/-! ### the plain law: rows of code, what they take and leave -/
inductive Rw37 where
  | con (n : Int) | conA | conN | decl | blank | load (n : Nat) | save (n : Nat) | drop (n : Nat) | pop | not | add | item | setI | list (n : Nat) | map (n : Fin 5) | call (n : Nat) | invoke (n : Nat) | super | klass | meth | iter | fld | setF | leave | clos (f g : Nat) | ret | rais
deriving DecidableEq
def Rw37.vs : Rw37 → List V
  | .con n => [.str "const", .int n]
  | .conA => [.str "const", .str "a"]
  | .conN => [.str "const", .non]
  | .decl => [.str "declare"]
  | .blank => [.str "blank"]
  | .load n => [.str "load", .int n]
  | .save n => [.str "save", .int n]
  | .drop n => [.str "drop", .int n]
  | .pop => [.str "pop"]
  | .not => [.str "not", .int 0]
  | .add => [.str "add", .int 1]
  | .item => [.str "item", .int 2]
  | .setI => [.str "set_item", .int 3]
  | .list n => [.str "list", .int n]
  | .map n => [.str "map", .int (n.val : Nat), .int 1]
  | .call n => [.str "call", .int n, .int 1]
  | .invoke n => [.str "invoke", .str "m", .int n, .int 1]
  | .super => [.str "super", .str "m", .int 0, .int 1]
  | .klass => [.str "class", .str "K", .int 0]
  | .meth => [.str "method", .str "m"]
  | .iter => [.str "iter", .int 0]
  | .fld => [.str "field", .str "x", .int 1]
  | .setF => [.str "set_field", .str "x", .int 1]
  | .leave => [.str "leave"]
  | .clos f g => [.str "closure", .int f, .int g]
  | .ret => [.str "ret"]
  | .rais => [.str "raise", .int 0]
def Rw37.takes : Rw37 → Nat
  | .list n => n
  | .map n => n.val
  | .call n | .invoke n => n + 1
  | .super | .add | .item | .meth | .setF => 2
  | .setI => 3
  | .save _ | .pop | .not | .decl | .iter | .fld | .rais | .ret => 1
  | _ => 0
def Rw37.gives : Rw37 → Nat
  | .decl | .blank | .drop _ | .pop | .leave | .rais | .ret => 0
  | _ => 1
def Rw37.need : Rw37 → Nat
  | .load n | .save n => n + 1
  | .drop n => n
  | .klass => 1
  | _ => 0
/-- how the variables change -/
def Rw37.vars (r : Rw37) (v : Int) : Int := match r with
  | .decl | .blank => v + 1
  | .drop n => v - n
  | _ => v
def oddM : Rw37 → Bool
  | .map n => decide (((n.val : Nat) : Int) / 2 * 2 ≠ (n.val : Nat))
  | _ => false
def lacks (r : Rw37) (s v : Int) : Option Str :=
  if oddM r = true then some "an odd number of values"
  else if (r.takes : Int) > s then some "too few values"
  else if r = .leave then some "too few handlers"
  else if (r.need : Int) > v then some "too few variables"
  else none
set_option hygiene false in
local macro_rules | `(tactic| walk_at "rs") => `(tactic| first
  | walk_at "oxs"
  | (refine ⟨_, rl_t eh, _, rfl, ?_⟩)
  | (intro p H2 np s2 ep; replace eh := s2 _ _ eh; replace s0 := s0.trans s2; refine ⟨_, rl_t ep, ?_⟩)
  | (refine ⟨rfl, ?_⟩)
  | (rw [if_pos (by decide)])
  | (rw [if_neg (by decide)])
  | (intro d hd)
  | (refine ⟨_, hd, _, rfl, ?_⟩))
section
variable {P : Program} {w : World} {K : PySem.W.Frag} {mg : Str → Option Value} {base : Heap} {c : Cs}
def IsRw (H : Hp) (v : V) (r : Rw37) : Prop := ∃ a, v = .ref a ∧ H a = some (.tup r.vs)
def spRwI (g : Rw37 → Int) : Sp := fun vs H Q _ => match vs with
  | [v] => ∃ r, IsRw H v r ∧ ∀ H', Same H H' → Q (.int (g r)) H'
  | _ => False
theorem ok_taken (A : At K mg "taken_by" "taken_by" s_taken_by ["row"]) (T : Txt K mg c) (TD : TxD w K mg) : Has P w K mg base CX0 "taken_by" 1 ["row"] (spRwI fun r => r.takes) := by
  have Sc := sc_taken_by
  refine has_of A Sc (fun vs H Q E h => ?_) (fun cdv f A outer s H vs Q E hr h => ?_)
  · unfold spRwI at h; split at h; rfl; cases h
  · unfold spRwI at h
    split at h
    · rename_i v
      obtain ⟨r, ⟨a, rfl, eh⟩, h⟩ := h
      refine ⟨_, (pss_cons (ps_set (i := 1) Sc.nd rfl (.inl rfl) (pe_ix ix_fx (fe_var 0) pe_int (fun _ _ => rfl)))
      (pss_cons (ps_if (pt_cmpR op_fIn (fe_var 1) (fe_tup (pa_cons pe_str (pa_cons pe_str pa_nil))) (by with_unfolding_all rfl)) (pss_one (ps_ret (pe_ix ix_fx (fe_var 0) pe_int (fun _ _ => rfl)))) pss_nil)
      (pss_cons (ps_if (pt_cmpR (op_fEq hr.units) (fe_var 1) pe_str (nomark _)) (pss_one (ps_ret (pe_op op_fAdd (pe_ix ix_fx (fe_var 0) pe_int (fun _ _ => rfl)) pe_int))) pss_nil)
      (pss_cons (ps_if (pt_cmpR (op_fEq hr.units) (fe_var 1) pe_str (nomark _)) (pss_one (ps_ret (pe_op op_fAdd (pe_ix ix_fx (fe_var 0) pe_int (fun _ _ => rfl)) pe_int))) pss_nil)
      (pss_cons (ps_if (pt_cmpR (op_fEq hr.units) (fe_var 1) pe_str (nomark _)) (pss_one (ps_ret (pe_op op_fAdd (pe_ix ix_fx (fe_var 0) pe_int (fun _ _ => rfl)) pe_int))) pss_nil)
      (pss_cons (ps_if (pt_cmpR op_fInD (fe_var 1) (fe_gdict (by rfl) TD.d_TAKEN) (by with_unfolding_all rfl)) (pss_one (ps_ret (pe_ix ix_fxD (fe_gdict (by rfl) TD.d_TAKEN) (fe_var 1) (fun _ _ => rfl)))) pss_nil)
      (pss_one (ps_ret pe_int)))))))), ?_⟩
      walk_at "fx0"
      have s0 : Same H H := fun _ _ h => h
      walk_at "oxs"
      cases r <;> ((repeat walk_at "rs"); exact h _ s0)
    · cases h
theorem ok_left (A : At K mg "left_by" "left_by" s_left_by ["row"]) (T : Txt K mg c) (TD : TxD w K mg) : Has P w K mg base CX0 "left_by" 1 ["row"] (spRwI fun r => r.gives) := by
  have Sc := sc_left_by
  refine has_of A Sc (fun vs H Q E h => ?_) (fun cdv f A outer s H vs Q E hr h => ?_)
  · unfold spRwI at h; split at h; rfl; cases h
  · unfold spRwI at h
    split at h
    · rename_i v
      obtain ⟨r, ⟨a, rfl, eh⟩, h⟩ := h
      refine ⟨_, (pss_cons (ps_if (pt_cmpR op_fInD (pe_ix ix_fx (fe_var 0) pe_int (fun _ _ => rfl)) (fe_gdict (by rfl) TD.d_LEFT) (by with_unfolding_all rfl)) (pss_one (ps_ret (pe_ix ix_fxD (fe_gdict (by rfl) TD.d_LEFT) (pe_ix ix_fx (fe_var 0) pe_int (fun _ _ => rfl)) (fun _ _ => rfl)))) pss_nil)
      (pss_one (ps_ret pe_int))), ?_⟩
      walk_at "fx0"
      have s0 : Same H H := fun _ _ h => h
      walk_at "oxs"
      cases r <;> ((repeat walk_at "rs"); exact h _ s0)
    · cases h
theorem ok_varsfor (A : At K mg "variables_for" "variables_for" s_variables_for ["row"]) (T : Txt K mg c) : Has P w K mg base CX0 "variables_for" 1 ["row"] (spRwI fun r => r.need) := by
  have Sc := sc_variables_for
  refine has_of A Sc (fun vs H Q E h => ?_) (fun cdv f A outer s H vs Q E hr h => ?_)
  · unfold spRwI at h; split at h; rfl; cases h
  · unfold spRwI at h
    split at h
    · rename_i v
      obtain ⟨r, ⟨a, rfl, eh⟩, h⟩ := h
      refine ⟨_, (pss_cons (ps_if (pt_cmpR op_fIn (pe_ix ix_fx (fe_var 0) pe_int (fun _ _ => rfl)) (fe_tup (pa_cons pe_str (pa_cons pe_str pa_nil))) (by with_unfolding_all rfl)) (pss_one (ps_ret (pe_op op_fAdd (pe_ix ix_fx (fe_var 0) pe_int (fun _ _ => rfl)) pe_int))) pss_nil)
      (pss_cons (ps_if (pt_cmpR (op_fEq hr.units) (pe_ix ix_fx (fe_var 0) pe_int (fun _ _ => rfl)) pe_str (nomark _)) (pss_one (ps_ret (pe_ix ix_fx (fe_var 0) pe_int (fun _ _ => rfl)))) pss_nil)
      (pss_cons (ps_if (pt_cmpR (op_fEq hr.units) (pe_ix ix_fx (fe_var 0) pe_int (fun _ _ => rfl)) pe_str (nomark _)) (pss_one (ps_ret (pe_ix ix_fx (fe_var 0) pe_int (fun _ _ => rfl)))) pss_nil)
      (pss_one (ps_ret (pe_callTy call_fInt (by rfl) T.no_int (by decide +kernel) (pa_cons (pe_cmpR op_fIn (pe_ix ix_fx (fe_var 0) pe_int (fun _ _ => rfl)) (fe_tup (pa_cons pe_str (pa_cons pe_str pa_nil))) (by with_unfolding_all rfl)) pa_nil))))))), ?_⟩
      walk_at "fx0"
      have s0 : Same H H := fun _ _ h => h
      walk_at "oxs"
      cases r <;> ((repeat walk_at "rs"); exact h _ s0)
    · cases h
theorem ok_handfor (A : At K mg "handlers_for" "handlers_for" s_handlers_for ["row"]) (T : Txt K mg c) : Has P w K mg base CX0 "handlers_for" 1 ["row"] (spRwI fun r => if r = .leave then 1 else 0) := by
  have Sc := sc_handlers_for
  refine has_of A Sc (fun vs H Q E h => ?_) (fun cdv f A outer s H vs Q E hr h => ?_)
  · unfold spRwI at h; split at h; rfl; cases h
  · unfold spRwI at h
    split at h
    · rename_i v
      obtain ⟨r, ⟨a, rfl, eh⟩, h⟩ := h
      refine ⟨_, (pss_cons (ps_if (pt_cmpR (op_fEq hr.units) (pe_ix ix_fx (fe_var 0) pe_int (fun _ _ => rfl)) pe_str (nomark _)) (pss_one (ps_ret (pe_ix ix_fx (fe_var 0) pe_int (fun _ _ => rfl)))) pss_nil)
      (pss_one (ps_ret (pe_callTy call_fInt (by rfl) T.no_int (by decide +kernel) (pa_cons (pe_cmpR (op_fEq hr.units) (pe_ix ix_fx (fe_var 0) pe_int (fun _ _ => rfl)) pe_str (nomark _)) pa_nil))))), ?_⟩
      walk_at "fx0"
      have s0 : Same H H := fun _ _ h => h
      walk_at "oxs"
      cases r <;> ((repeat walk_at "rs"); exact h _ s0)
    · cases h
theorem ok_index (A : At K mg "index_at" "index_at" s_index_at ["row"]) (T : Txt K mg c) : Has P w K mg base CX0 "index_at" 1 ["row"] (spRwI fun _ => -1) := by
  have Sc := sc_index_at
  refine has_of A Sc (fun vs H Q E h => ?_) (fun cdv f A outer s H vs Q E hr h => ?_)
  · unfold spRwI at h; split at h; rfl; cases h
  · unfold spRwI at h
    split at h
    · rename_i v
      obtain ⟨r, ⟨a, rfl, eh⟩, h⟩ := h
      refine ⟨_, (pss_cons (ps_if (pt_cmpR op_fIn (pe_ix ix_fx (fe_var 0) pe_int (fun _ _ => rfl)) (fe_tup (pa_cons pe_str (pa_cons pe_str (pa_cons pe_str (pa_cons pe_str (pa_cons pe_str (pa_cons pe_str pa_nil))))))) (by with_unfolding_all rfl)) (pss_one (ps_ret pe_int)) pss_nil)
      (pss_cons (ps_if (pt_cmpR (op_fEq hr.units) (pe_ix ix_fx (fe_var 0) pe_int (fun _ _ => rfl)) pe_str (nomark _)) (pss_one (ps_ret pe_int)) pss_nil)
      (pss_one (ps_ret (pe_un un_fNeg pe_int))))), ?_⟩
      walk_at "fx0"
      have s0 : Same H H := fun _ _ h => h
      walk_at "oxs"
      cases r <;> ((repeat walk_at "rs"); exact h _ s0)
    · cases h
theorem ok_ltakes (A : At K mg "_law_takes" "_law_takes" s_law_takes ["row"]) (T : Txt K mg c) : Has P w K mg base CX0 "_law_takes" 1 ["row"] (spRwI fun r => r.takes) := by
  have Sc := sc_law_takes
  refine has_of A Sc (fun vs H Q E h => ?_) (fun cdv f A outer s H vs Q E hr h => ?_)
  · unfold spRwI at h; split at h; rfl; cases h
  · unfold spRwI at h
    split at h
    · rename_i v
      obtain ⟨r, ⟨a, rfl, eh⟩, h⟩ := h
      refine ⟨_, (pss_cons (ps_set (i := 1) Sc.nd rfl (.inl rfl) (pe_ix ix_fx (fe_var 0) pe_int (fun _ _ => rfl)))
      (pss_cons (ps_if (pt_cmpR op_fIn (fe_var 1) (fe_tup (pa_cons pe_str (pa_cons pe_str pa_nil))) (by with_unfolding_all rfl)) (pss_one (ps_ret (pe_ix ix_fx (fe_var 0) pe_int (fun _ _ => rfl)))) pss_nil)
      (pss_cons (ps_if (pt_cmpR (op_fEq hr.units) (fe_var 1) pe_str (nomark _)) (pss_one (ps_ret (pe_op op_fAdd (pe_ix ix_fx (fe_var 0) pe_int (fun _ _ => rfl)) pe_int))) pss_nil)
      (pss_cons (ps_if (pt_cmpR (op_fEq hr.units) (fe_var 1) pe_str (nomark _)) (pss_one (ps_ret (pe_op op_fAdd (pe_ix ix_fx (fe_var 0) pe_int (fun _ _ => rfl)) pe_int))) pss_nil)
      (pss_cons (ps_if (pt_cmpR (op_fEq hr.units) (fe_var 1) pe_str (nomark _)) (pss_one (ps_ret (pe_op op_fAdd (pe_ix ix_fx (fe_var 0) pe_int (fun _ _ => rfl)) pe_int))) pss_nil)
      (pss_cons (ps_if (pt_cmpR op_fIn (fe_var 1) (fe_tup (pa_cons pe_str (pa_cons pe_str (pa_cons pe_str (pa_cons pe_str pa_nil))))) (by with_unfolding_all rfl)) (pss_one (ps_ret pe_int)) pss_nil)
      (pss_cons (ps_if (pt_cmpR (op_fEq hr.units) (fe_var 1) pe_str (nomark _)) (pss_one (ps_ret pe_int)) pss_nil)
      (pss_one (ps_ret (pe_callTy call_fInt (by rfl) T.no_int (by decide +kernel) (pa_cons (pe_cmpR op_fIn (fe_var 1) (fe_tup (pa_cons pe_str (pa_cons pe_str (pa_cons pe_str (pa_cons pe_str (pa_cons pe_str (pa_cons pe_str (pa_cons pe_str (pa_cons pe_str pa_nil))))))))) (by with_unfolding_all rfl)) pa_nil))))))))))), ?_⟩
      walk_at "fx0"
      have s0 : Same H H := fun _ _ h => h
      walk_at "oxs"
      cases r <;> ((repeat walk_at "rs"); exact h _ s0)
    · cases h
theorem ok_lgives (A : At K mg "_law_gives" "_law_gives" s_law_gives ["row"]) (T : Txt K mg c) : Has P w K mg base CX0 "_law_gives" 1 ["row"] (spRwI fun r => r.gives) := by
  have Sc := sc_law_gives
  refine has_of A Sc (fun vs H Q E h => ?_) (fun cdv f A outer s H vs Q E hr h => ?_)
  · unfold spRwI at h; split at h; rfl; cases h
  · unfold spRwI at h
    split at h
    · rename_i v
      obtain ⟨r, ⟨a, rfl, eh⟩, h⟩ := h
      refine ⟨_, (pss_one (ps_ret (pe_callTy call_fInt (by rfl) T.no_int (by decide +kernel) (pa_cons (pe_cmpR op_fNotIn (pe_ix ix_fx (fe_var 0) pe_int (fun _ _ => rfl)) (fe_tup (pa_cons pe_str (pa_cons pe_str (pa_cons pe_str (pa_cons pe_str (pa_cons pe_str (pa_cons pe_str (pa_cons pe_str (pa_cons pe_str pa_nil))))))))) (by with_unfolding_all rfl)) pa_nil)))), ?_⟩
      walk_at "fx0"
      have s0 : Same H H := fun _ _ h => h
      walk_at "oxs"
      cases r <;> ((repeat walk_at "rs"); exact h _ s0)
    · cases h
end

/-! ### chunks and shapes -/
structure Ch where
  n : Int
  w : Int
  rows : List Rw37
section
variable {P : Program} {w : World} {K : PySem.W.Frag} {mg : Str → Option Value} {base : Heap} {c : Cs}
def IsCh (c : Cs) (H : Hp) (v : V) (ch : Ch) : Prop := ∃ y dx p q vs, v = .ref y ∧ H y = some (.ins c.Chunk dx [("number", .int ch.n), ("wanted", .int ch.w), ("rows", .ref p), ("scopes", .ref q)]) ∧ H p = some (.lst vs) ∧ Paired (IsRw H) vs ch.rows
def IsSh (c : Cs) (H : Hp) (v : V) (s vr : Int) : Prop := ∃ y dx t, v = .ref y ∧ H y = some (.ins c.Shape dx [("stack", .int s), ("variables", .int vr), ("handlers", .ref t)]) ∧ H t = some (.tup [])
theorem IsRw.same {H H' : Hp} {v : V} {r : Rw37} (h : IsRw H v r) (s : Same H H') : IsRw H' v r := by
  obtain ⟨a, e, h⟩ := h; exact ⟨a, e, s _ _ h⟩
theorem IsCh.same {H H' : Hp} {v : V} {r : Ch} (h : IsCh c H v r) (s : Same H H') : IsCh c H' v r := by
  obtain ⟨y, dx, p, q, vs, e, h1, h2, h3⟩ := h; exact ⟨y, dx, p, q, vs, e, s _ _ h1, s _ _ h2, Paired.mapP h3 fun _ _ h => h.same s⟩
theorem IsSh.same {H H' : Hp} {v : V} {i j : Int} (h : IsSh c H v i j) (s : Same H H') : IsSh c H' v i j := by
  obtain ⟨y, dx, t, e, h1, h2⟩ := h; exact ⟨y, dx, t, e, s _ _ h1, s _ _ h2⟩
def firstC (chs : List Ch) (n : Int) : Option Ch := chs.find? fun ch => decide (ch.n = n)
def spFirst (c : Cs) : Sp := fun vs H Q _ => match vs with
  | [.ref l, .int n] => ∃ xs chs, H l = some (.lst xs) ∧ Paired (IsCh c H) xs chs ∧ ∀ H', Same H H' → match firstC chs n with
    | none => Q .non H'
    | some ch => ∀ v, IsCh c H' v ch → Q v H'
  | _ => False
def FstI (c : Cs) (H : Hp) (l : Addr) (n : Int) (xs : List V) (chs : List Ch) (i : Nat) (σ : L2.St) (H' : Hp) : Prop := ∃ v2, σ = [some (.ref l), some (.int n), v2] ∧ Same H H' ∧ firstC chs n = firstC (chs.drop i) n
theorem ok_first (A : At K mg "first_chunk" "first_chunk" s_first_chunk ["chunks", "number"]) (T : Txt K mg c) : Has P w K mg base CX0 "first_chunk" 1 ["chunks", "number"] (spFirst c) := by
  have Sc := sc_first_chunk
  refine has_of A Sc (fun vs H Q E h => ?_) (fun cdv f A outer s H vs Q E hr h => ?_)
  · unfold spFirst at h; split at h; rfl; cases h
  · unfold spFirst at h
    split at h
    · rename_i l n
      obtain ⟨xs, chs, el, hxs, h⟩ := h
      refine ⟨_, (pss_cons (ps_for PassesOwn.never rfl (pi_list (fe_var 0)) (pg_name (i := 2) Sc.nd rfl (.inl rfl)) (pss_one (ps_if (pt_cmpR (op_fEq hr.units) (fe_fld (fe_var 2) T.pl_number rfl) (fe_var 1) (nomark _)) (pss_one (ps_ret (fe_var 2))) pss_nil)))
      (pss_one (ps_ret pe_non))), ?_⟩
      walk_at "fx0"
      simp only [tSeq]
      refine cut_ fun N hN => for_ ?_
      repeat (walk_at "oxs")
      refine ⟨⟨_, SqL.of el⟩, ?_⟩
      refine loop_list xs (FstI c H l n xs chs) ⟨_, rfl, fun _ _ h => h, rfl⟩ (fun i σ H' _ h => ?_) (fun i x σ H' hx h' => ?_) fun σ H' h' => ?_
      · obtain ⟨_, rfl, s1, _⟩ := h
        exact SqL.of (s1 _ _ el)
      · obtain ⟨v2, rfl, s1, hf⟩ := h'
        obtain ⟨ch, ec, hch⟩ := paired_get hxs hx
        obtain ⟨y, dx, p, q, vs, rfl, h1, h2, h3⟩ := hch.same s1
        simp only [gName, List.set_cons_succ, List.set_cons_zero]
        have hd : chs.drop i = ch :: chs.drop (i + 1) := by rw [List.drop_eq_getElem?_toList_append, ec]; rfl
        rw [hd] at hf
        repeat (first | walk_at "oxs" | simp only [h1])
        by_cases hn : ch.n = n
        · rw [if_pos hn]
          have hf1 : firstC chs n = some ch := by rw [hf]; unfold firstC; rw [List.find?_cons_of_pos (by simpa using hn)]
          have h := h H' s1
          rw [hf1] at h
          exact h _ ⟨y, dx, p, q, vs, rfl, h1, h2, h3⟩
        · rw [if_neg hn]
          refine ⟨_, rfl, s1, ?_⟩
          rw [hf]; unfold firstC; rw [List.find?_cons_of_neg (by simpa using hn)]
      · obtain ⟨v2, rfl, s1, hf⟩ := h'
        refine hN _ _ ?_
        repeat (walk_at "oxs")
        have h := h H' s1
        rw [hf, Paired.length hxs, List.drop_eq_nil_of_le (Nat.le_refl _)] at h
        exact h
    · cases h
def Rw37.word : Rw37 → Str
  | .con _ | .conA | .conN => "const"
  | .decl => "declare"
  | .blank => "blank"
  | .load _ => "load"
  | .save _ => "save"
  | .drop _ => "drop"
  | .pop => "pop"
  | .not => "not"
  | .add => "add"
  | .item => "item"
  | .setI => "set_item"
  | .list _ => "list"
  | .map _ => "map"
  | .call _ => "call"
  | .invoke _ => "invoke"
  | .super => "super"
  | .klass => "class"
  | .meth => "method"
  | .iter => "iter"
  | .fld => "field"
  | .setF => "set_field"
  | .leave => "leave"
  | .clos _ _ => "closure"
  | .ret => "ret"
  | .rais => "raise"
def Rw37.tl (r : Rw37) : List V := r.vs.drop 1
theorem vs_cons (r : Rw37) : r.vs = .str r.word :: r.tl := by cases r <;> rfl
theorem no_enter (r : Rw37) : r.word ≠ "enter" := by cases r <;> (dsimp only [Rw37.word]; decide)
theorem at0 {x : V} {xs : List V} : atI (x :: xs) 0 = some x := by simp [atI, ixN]
def spAfter (c : Cs) : Sp := fun vs H Q _ => match vs with
  | [rv, sv] => ∃ r s vr, IsRw H rv r ∧ IsSh c H sv s vr ∧ ∀ v H', Same H H' → IsSh c H' v (s - r.takes + r.gives) (r.vars vr) → Q v H'
  | _ => False
set_option maxHeartbeats 8000000 in
theorem ok_after (A : At K mg "shape_after" "shape_after" s_shape_after ["row", "shape"]) (T : Txt K mg c) (H_taken_by : Has P w K mg base CX0 "taken_by" 1 ["row"] (spRwI fun r => r.takes)) (H_left_by : Has P w K mg base CX0 "left_by" 1 ["row"] (spRwI fun r => r.gives)) (H_handlers_for : Has P w K mg base CX0 "handlers_for" 1 ["row"] (spRwI fun r => if r = .leave then 1 else 0)) (M_Shape : HasC P w K mg base CX0 c.Shape "Shape" 1 ["self", "stack", "variables", "handlers"] (spMk_Shape K c)) : Has P w K mg base CX0 "shape_after" 3 ["row", "shape"] (spAfter c) := by
  have Sc := sc_shape_after
  refine has_of A Sc (fun vs H Q E h => ?_) (fun cdv f A outer s H vs Q E hr h => ?_)
  · unfold spAfter at h; split at h; rfl; cases h
  · unfold spAfter at h
    split at h
    · rename_i rv sv
      obtain ⟨r, s, vr, ⟨a, rfl, eh⟩, hs, h⟩ := h
      refine ⟨_, (pss_cons (ps_set (i := 2) Sc.nd rfl (.inl rfl) (fe_fld (fe_var 1) T.pl_variables rfl))
      (pss_cons (ps_if (pt_cmpR op_fIn (pe_ix ix_fx (fe_var 0) pe_int (fun _ _ => rfl)) (fe_tup (pa_cons pe_str (pa_cons pe_str pa_nil))) (by with_unfolding_all rfl)) (pss_one (ps_set (i := 2) Sc.nd rfl (.inl rfl) (pe_op op_fAdd (fe_var 2) pe_int))) (pss_one (ps_if (pt_cmpR (op_fEq hr.units) (pe_ix ix_fx (fe_var 0) pe_int (fun _ _ => rfl)) pe_str (nomark _)) (pss_one (ps_set (i := 2) Sc.nd rfl (.inl rfl) (pe_op op_fSub (fe_var 2) (pe_ix ix_fx (fe_var 0) pe_int (fun _ _ => rfl))))) (pss_one (ps_if (pt_cmpR (op_fEq hr.units) (pe_ix ix_fx (fe_var 0) pe_int (fun _ _ => rfl)) pe_str (nomark _)) (pss_one (ps_set (i := 2) Sc.nd rfl (.inl rfl) (pe_op op_fSub (fe_var 2) (pe_ix ix_fx (fe_var 0) pe_int (fun _ _ => rfl))))) pss_nil)))))
      (pss_cons (ps_set (i := 3) Sc.nd rfl (.inl rfl) (pe_slice sl_whole (fe_fld (fe_var 1) T.pl_handlers rfl) (po_some (fe_call H_handlers_for (hr.mono (by walk_at "rm")) (by rfl) pass0 (pa_cons (fe_var 0) pa_nil))) po_none))
      (pss_cons (ps_if (pt_cmpR (op_fEq hr.units) (pe_ix ix_fx (fe_var 0) pe_int (fun _ _ => rfl)) pe_str (nomark _)) (pss_one (ps_set (i := 3) Sc.nd rfl (.inl rfl) (pe_op op_fAdd (fe_tup (pa_cons (fe_tup (pa_cons (pe_ix ix_fx (fe_var 0) pe_int (fun _ _ => rfl)) (pa_cons (fe_fld (fe_var 1) T.pl_variables rfl) pa_nil))) pa_nil)) (fe_var 3)))) pss_nil)
      (pss_one (ps_ret (fe_make (k := _) M_Shape (hr.mono (by walk_at "rm")) (by rfl) pass0 (pa_cons (pe_op op_fAdd (pe_op op_fSub (fe_fld (fe_var 1) T.pl_stack rfl) (fe_call H_taken_by (hr.mono (by walk_at "rm")) (by rfl) pass0 (pa_cons (fe_var 0) pa_nil))) (fe_call H_left_by (hr.mono (by walk_at "rm")) (by rfl) pass0 (pa_cons (fe_var 0) pa_nil))) (pa_cons (fe_var 2) (pa_cons (fe_var 3) pa_nil)))))))))), ?_⟩
      obtain ⟨y, dx, t, rfl, h1, h2⟩ := hs
      walk_at "fx0"
      simp only [tSeq]
      refine cut_ fun N hN => ?_
      repeat (first | walk_at "oxs" | simp only [h1])
      refine hN _ _ ?_
      clear hN N
      simp only [tSeq]
      refine cut_ fun N hN => ?_
      have rest : ∀ H2, Same H H2 → N [some (.ref a), some (.ref y), some (.int (r.vars vr)), none] H2 := by
        intro H2 s2
        refine hN _ _ ?_
        clear hN N
        have eh2 := s2 _ _ eh
        have h12 := s2 _ _ h1
        repeat (first | walk_at "oxs" | simp only [h12])
        refine ⟨r, ⟨a, rfl, eh2⟩, fun H3 s3 => ?_⟩
        have eh3 := s3 _ _ eh2
        have h13 := s3 _ _ h12
        repeat (first | walk_at "oxs" | simp only [h13] | simp only [fSlW])
        have h23 := s3 _ _ (s2 _ _ h2)
        refine ⟨_, SqT.of h23, by split <;> rfl, rfl, _, rl_t eh3, _, by rw [vs_cons]; exact at0, ?_⟩
        repeat (first | walk_at "oxs" | simp only [h13])
        rw [if_neg (no_enter r)]
        repeat (first | walk_at "oxs" | simp only [h13])
        refine ⟨r, ⟨a, rfl, eh3⟩, fun H4 s4 => ?_⟩
        dsimp only
        refine ⟨r, ⟨a, rfl, s4 _ _ eh3⟩, fun H5 s5 => ?_⟩
        dsimp only
        unfold spMk_Shape
        intro y2 dx2 H6 ny s6 ey
        have s35 := (s4.trans s5).trans s6
        exact h _ H6 ((s2.trans s3).trans s35) ⟨y2, dx2, t, rfl, ey, s35 _ _ h23⟩
      clear hN
      have s0 : Same H H := fun _ _ h => h
      cases r <;> ((repeat walk_at "rs"); exact rest _ s0)
    · cases h
end

section
variable {P : Program} {w : World} {K : PySem.W.Frag} {mg : Str → Option Value} {base : Heap} {c : Cs}
def flawV : Option Str → V
  | none => .non
  | some m => .str m
def spFlaw (c : Cs) : Sp := fun vs H Q _ => match vs with
  | [rv, sv] => ∃ r s vr, IsRw H rv r ∧ IsSh c H sv s vr ∧ ∀ H', Same H H' → Q (flawV (lacks r s vr)) H'
  | _ => False
set_option maxHeartbeats 8000000 in
theorem ok_flaw (A : At K mg "flaw_of" "flaw_of" s_flaw_of ["row", "shape"]) (T : Txt K mg c) (H_taken_by : Has P w K mg base CX0 "taken_by" 1 ["row"] (spRwI fun r => r.takes)) (H_variables_for : Has P w K mg base CX0 "variables_for" 1 ["row"] (spRwI fun r => r.need)) (H_handlers_for : Has P w K mg base CX0 "handlers_for" 1 ["row"] (spRwI fun r => if r = .leave then 1 else 0)) : Has P w K mg base CX0 "flaw_of" 2 ["row", "shape"] (spFlaw c) := by
  have Sc := sc_flaw_of
  refine has_of A Sc (fun vs H Q E h => ?_) (fun cdv f A outer s H vs Q E hr h => ?_)
  · unfold spFlaw at h; split at h; rfl; cases h
  · unfold spFlaw at h
    split at h
    · rename_i rv sv
      obtain ⟨r, s, vr, ⟨a, rfl, eh⟩, hs, h⟩ := h
      refine ⟨_, (pss_cons (ps_if (PW.pt (pw_and (pt_cmpR (op_fEq hr.units) (pe_ix ix_fx (fe_var 0) pe_int (fun _ _ => rfl)) pe_str (nomark _)) (pw_and1 (pt_cmpR (op_fNe hr.units) (pe_op op_fMul (pe_op op_fDiv (pe_ix ix_fx (fe_var 0) pe_int (fun _ _ => rfl)) pe_int) pe_int) (pe_ix ix_fx (fe_var 0) pe_int (fun _ _ => rfl)) (nomark _))))) (pss_one (ps_ret pe_str)) pss_nil)
      (pss_cons (ps_if (pt_cmpR op_fGt (fe_call H_taken_by (hr.mono (by walk_at "rm")) (by rfl) pass0 (pa_cons (fe_var 0) pa_nil)) (fe_fld (fe_var 1) T.pl_stack rfl) (nomark _)) (pss_one (ps_ret pe_str)) pss_nil)
      (pss_cons (ps_set (i := 2) Sc.nd rfl (.inl rfl) (pe_cmpR op_fGt (fe_call H_variables_for (hr.mono (by walk_at "rm")) (by rfl) pass0 (pa_cons (fe_var 0) pa_nil)) (fe_fld (fe_var 1) T.pl_variables rfl) (nomark _)))
      (pss_cons (ps_set (i := 3) Sc.nd rfl (.inl rfl) (pe_cmpR op_fGt (fe_call H_handlers_for (hr.mono (by walk_at "rm")) (by rfl) pass0 (pa_cons (fe_var 0) pa_nil)) (pe_callB call_fLen (by rfl) T.no_len (by decide +kernel) (pa_cons (fe_fld (fe_var 1) T.pl_handlers rfl) pa_nil)) (nomark _)))
      (pss_cons (ps_if (pt_fTru (fe_var 3) (fun _ => rfl)) (pss_one (ps_ret pe_str)) pss_nil)
      (pss_cons (ps_if (pt_fTru (fe_var 2) (fun _ => rfl)) (pss_one (ps_ret pe_str)) pss_nil)
      (pss_one (ps_ret pe_non)))))))), ?_⟩
      obtain ⟨y, dx, t, rfl, h1, h2⟩ := hs
      walk_at "fx0"
      simp only [tSeq]
      refine cut_ fun N hN => ?_
      have rest : ∀ H2, Same H H2 → oddM r = false → N [some (.ref a), some (.ref y), none, none] H2 := by
        intro H2 s2 hodd
        unfold lacks at h
        rw [hodd, if_neg (by decide)] at h
        refine hN _ _ ?_
        clear hN N
        have eh2 := s2 _ _ eh
        have h12 := s2 _ _ h1
        simp only [tSeq]
        refine cut_ fun N hN => ?_
        repeat (first | walk_at "oxs" | simp only [h12])
        refine ⟨r, ⟨a, rfl, eh2⟩, fun H3 s3 => ?_⟩
        have eh3 := s3 _ _ eh2
        have h13 := s3 _ _ h12
        repeat (first | walk_at "oxs" | simp only [h13])
        by_cases g1 : s < (r.takes : Int)
        · rw [if_pos g1]
          rw [if_pos g1] at h
          exact h _ (s2.trans s3)
        · rw [if_neg g1]
          rw [if_neg g1] at h
          refine hN _ _ ?_
          clear hN N
          repeat (first | walk_at "oxs" | simp only [h13])
          refine ⟨r, ⟨a, rfl, eh3⟩, fun H4 s4 => ?_⟩
          have eh4 := s4 _ _ eh3
          have h14 := s4 _ _ h13
          repeat (first | walk_at "oxs" | simp only [h14])
          refine ⟨r, ⟨a, rfl, eh4⟩, fun H5 s5 => ?_⟩
          have eh5 := s5 _ _ eh4
          have h15 := s5 _ _ h14
          repeat (first | walk_at "oxs" | simp only [h15])
          refine ⟨[], rl_t ((s2.trans (s3.trans (s4.trans s5))) _ _ h2), ?_⟩
          have h := h _ (s2.trans (s3.trans (s4.trans s5)))
          by_cases g2 : r = .leave
          · rw [if_pos g2] at h
            rw [if_pos (show ((([] : List V).length : Nat) : Int) < (if r = .leave then 1 else 0) by rw [if_pos g2]; decide)]
            exact h
          · rw [if_neg g2] at h
            rw [if_neg (show ¬ ((([] : List V).length : Nat) : Int) < (if r = .leave then 1 else 0) by rw [if_neg g2]; decide)]
            by_cases g3 : vr < (r.need : Int)
            · rw [if_pos g3] at h
              rw [if_pos g3]
              exact h
            · rw [if_neg g3] at h
              rw [if_neg g3]
              exact h
      clear hN
      have s0 : Same H H := fun _ _ h => h
      cases r <;> ((repeat walk_at "rs"); first | exact rest _ s0 rfl | skip)
      rename_i n
      have hn := n.isLt
      refine ⟨small_div (by decide) (by decide), mul_left (by omega) (by omega), _, rl_t eh, _, rfl, ?_⟩
      repeat walk_at "rs"
      by_cases e : (n.val : Int) / 2 * 2 = (n.val : Nat)
      · rw [if_neg (fun z => z e)]
        exact rest _ s0 (by show decide _ = false; simpa using e)
      · rw [if_pos e]
        have h := h _ s0
        have ho : oddM (.map n) = true := by show decide _ = true; simpa using e
        unfold lacks at h
        rw [ho, if_pos rfl] at h
        exact h
    · cases h
/-! ### Check -/
def CkAt (c : Cs) (H : Hp) (y cl : Addr) (cv : V) (sd cq rl : Addr) : Prop := ∃ dx, H y = some (.ins c.Check dx [("chunks", .ref cl), ("chunk", cv), ("shapes", .ref sd), ("closures", .ref cq), ("reached", .ref rl)])
def missC (chs : List Ch) (f g : Int) : Option Str := match firstC chs f with
  | none => some "no such function"
  | some ch => if ch.w = g then none else some "another number of parameters"
def spMiss (c : Cs) : Sp := fun vs H Q _ => match vs with
  | [.ref y, rv] => ∃ cl cv sd cq rl xs chs f g, CkAt c H y cl cv sd cq rl ∧ H cl = some (.lst xs) ∧ Paired (IsCh c H) xs chs ∧ IsRw H rv (.clos f g) ∧ ∀ H', Same H H' → Q (flawV (missC chs f g)) H'
  | _ => False
theorem ok_missing (A : AtM K c.Check "missing" "Check.missing" s_Check_missing ["self", "row"]) (T : Txt K mg c) (H_first_chunk : Has P w K mg base CX0 "first_chunk" 1 ["chunks", "number"] (spFirst c)) : HasM P w K mg base CX0 c.Check "missing" 2 ["self", "row"] (spMiss c) := by
  have Sc := sc_Check_missing
  refine hasM_of A Sc (fun vs H Q E h => ?_) (fun cdv f A outer s H vs Q E hr h => ?_)
  · unfold spMiss at h; split at h; rfl; cases h
  · unfold spMiss at h
    split at h
    · rename_i y rv
      obtain ⟨cl, cv, sd, cq, rl, xs, chs, f1, g1, ⟨dx, hy⟩, hcl, hxs, ⟨a, rfl, eh⟩, h⟩ := h
      refine ⟨_, (pss_cons (ps_set (i := 2) Sc.nd rfl (.inl rfl) (fe_call H_first_chunk (hr.mono (by walk_at "rm")) (by rfl) pass0 (pa_cons (fe_fld (fe_var 0) T.pl_chunks rfl) (pa_cons (pe_ix ix_fx (fe_var 1) pe_int (fun _ _ => rfl)) pa_nil))))
      (pss_cons (ps_if (pt_cmpR op_fIsN (fe_var 2) pe_non (nomark _)) (pss_one (ps_ret pe_str)) pss_nil)
      (pss_cons (ps_if (pt_cmpR (op_fNe hr.units) (fe_fld (fe_var 2) T.pl_wanted rfl) (pe_ix ix_fx (fe_var 1) pe_int (fun _ _ => rfl)) (nomark _)) (pss_one (ps_ret pe_str)) pss_nil)
      (pss_one (ps_ret pe_non))))), ?_⟩
      walk_at "fx0"
      simp only [tSeq]
      refine cut_ fun N hN => ?_
      repeat (first | walk_at "oxs" | simp only [hy])
      refine ⟨_, rl_t eh, _, rfl, xs, chs, hcl, hxs, fun H2 s2 => ?_⟩
      have eh2 := s2 _ _ eh
      have h := fun H' q => h H' (s2.trans q)
      unfold missC at h
      cases ec : firstC chs (f1 : Int) with
      | none =>
        rw [ec] at h
        dsimp only
        refine hN _ _ ?_
        repeat (first | walk_at "oxs" | simp only [hy])
        exact h _ fun _ _ h => h
      | some ch =>
        rw [ec] at h
        dsimp only
        intro v hv
        obtain ⟨y2, dx2, p, q, vs, rfl, h1, h2, h3⟩ := hv
        refine hN _ _ ?_
        clear hN N
        repeat (first | walk_at "oxs" | simp only [h1])
        refine ⟨_, rl_t eh2, _, rfl, ?_⟩
        repeat (first | walk_at "oxs" | simp only [h1])
        have h := h _ fun _ _ h => h
        dsimp only at h
        by_cases e : ch.w = (g1 : Int)
        · rw [if_pos e] at h
          rw [if_neg (fun z => z e)]
          exact h
        · rw [if_neg e] at h
          rw [if_pos e]
          exact h
    · cases h
end

section
variable {P : Program} {w : World} {K : PySem.W.Frag} {mg : Str → Option Value} {base : Heap} {c : Cs}
theorem IsSh.upd {H : Hp} {v : V} {i j : Int} {p : Addr} {xs : List V} {o : HO} (h : IsSh c H v i j) (e : H p = some (.lst xs)) : IsSh c (L2.upd H p o) v i j := by
  obtain ⟨y, dx, t, rfl, h1, h2⟩ := h
  exact ⟨y, dx, t, rfl, by rw [upd_ne (fun z => by rw [z, e] at h1; cases h1)]; exact h1, by rw [upd_ne (fun z => by rw [z, e] at h2; cases h2)]; exact h2⟩
def stopR : Rw37 → Bool
  | .ret | .rais => true
  | _ => false
theorem over_in (r : Rw37) : inV (.str r.word) [.str "raise", .str "ret"] = stopR r := by cases r <;> (dsimp only [Rw37.word, stopR]; decide)
theorem there_no (r : Rw37) : inV (.str r.word) [.str "jump", .str "escape"] = false := by cases r <;> (dsimp only [Rw37.word]; decide)
def spFollow (c : Cs) : Sp := fun vs H Q _ => match vs with
  | [.ref y, .int at_, rv, sv] => ∃ cl cv sd cq rl r s vr, CkAt c H y cl cv sd cq rl ∧ H rl = some (.lst []) ∧ IsRw H rv r ∧ IsSh c H sv s vr ∧ y ≠ rl ∧ (∀ a, rv = .ref a → a ≠ rl) ∧
      if stopR r = true then ∀ H', Same H H' → Q .non H' else ∀ H' p v, Keep [rl] H H' → H' rl = some (.lst [.ref p]) → H' p = some (.tup [.int (at_ + 1), v]) → IsSh c H' v (s - r.takes + r.gives) (r.vars vr) → Q .non H'
  | _ => False
set_option maxHeartbeats 4000000 in
theorem ok_follow (A : AtM K c.Check "follow" "Check.follow" s_Check_follow ["self", "at", "row", "shape"]) (T : Txt K mg c) (H_index_at : Has P w K mg base CX0 "index_at" 1 ["row"] (spRwI fun _ => -1)) (H_shape_after : Has P w K mg base CX0 "shape_after" 3 ["row", "shape"] (spAfter c)) : HasM P w K mg base CX0 c.Check "follow" 4 ["self", "at", "row", "shape"] (spFollow c) := by
  have Sc := sc_Check_follow
  refine hasM_of A Sc (fun vs H Q E h => ?_) (fun cdv f A outer s H vs Q E hr h => ?_)
  · unfold spFollow at h; split at h; rfl; cases h
  · unfold spFollow at h
    split at h
    · rename_i y at_ rv sv
      obtain ⟨cl, cv, sd, cq, rl, r, s, vr, ⟨dx, hy⟩, hrl, ⟨a, rfl, eh⟩, hs, nyr, nar, h⟩ := h
      have nar := nar a rfl
      refine ⟨_, (pss_cons (ps_if (pt_cmpR op_fIn (pe_ix ix_fx (fe_var 2) pe_int (fun _ _ => rfl)) (fe_gtup (by rfl) T.g_OVER) (by with_unfolding_all rfl)) (pss_one ps_retN) pss_nil)
      (pss_cons (ps_set (i := 4) Sc.nd rfl (.inl rfl) (fe_call H_index_at (hr.mono (by walk_at "rm")) (by rfl) pass0 (pa_cons (fe_var 2) pa_nil)))
      (pss_cons (ps_set (i := 5) Sc.nd rfl (.inl rfl) (fe_lst pa_nil))
      (pss_cons (ps_if (pt_cmpR op_fNotIn (pe_ix ix_fx (fe_var 2) pe_int (fun _ _ => rfl)) (fe_gtup (by rfl) T.g_ONLY_THERE) (by with_unfolding_all rfl)) (pss_one (ps_expr (fe_bm PySem.F.plainAttrs_list PySem.F.slot_list_append PySem.F.type_list_append isLst_ty mt_fAppend (fe_var 5) (pa_cons (fe_tup (pa_cons (pe_op op_fAdd (fe_var 1) pe_int) (pa_cons (fe_call H_shape_after (hr.mono (by walk_at "rm")) (by rfl) pass0 (pa_cons (fe_var 2) (pa_cons (fe_var 3) pa_nil))) pa_nil))) pa_nil)))) pss_nil)
      (pss_cons (ps_if (pt_cmpR op_fGe (fe_var 4) pe_int (nomark _)) (pss_one (ps_expr (fe_bm PySem.F.plainAttrs_list PySem.F.slot_list_append PySem.F.type_list_append isLst_ty mt_fAppend (fe_fld (fe_var 0) T.pl_reached rfl) (pa_cons (fe_tup (pa_cons (pe_ix ix_fx (fe_var 2) (fe_var 4) (fun _ _ => rfl)) (pa_cons pe_dead pa_nil))) pa_nil)))) pss_nil)
      (pss_one (ps_expr (fe_bm PySem.F.plainAttrs_list PySem.F.slot_list_extend PySem.F.type_list_extend isLst_ty mt_fExtend (fe_fld (fe_var 0) T.pl_reached rfl) (pa_cons (fe_var 5) pa_nil))))))))), ?_⟩
      walk_at "fx0"
      simp only [tSeq]
      refine cut_ fun N hN => ?_
      repeat (first | walk_at "oxs" | simp only [hy])
      refine ⟨_, rl_t eh, _, by rw [vs_cons]; exact at0, ?_⟩
      repeat (first | walk_at "oxs" | simp only [hy])
      intro ga hg
      refine ⟨_, .inr (hg H), rfl, ?_⟩
      rw [over_in]
      by_cases hst : stopR r = true
      · rw [if_pos hst]
        rw [if_pos hst] at h
        exact h H fun _ _ h => h
      rw [if_neg hst]
      rw [if_neg hst] at h
      refine hN _ _ ?_
      clear hN N
      repeat (first | walk_at "oxs" | simp only [hy])
      refine ⟨r, ⟨a, rfl, eh⟩, fun H2 s2 => ?_⟩
      repeat (first | walk_at "oxs" | simp only [hy])
      intro la H3 nla s3 ela
      have s03 := s2.trans s3
      have eh3 := s03 _ _ eh
      have hy3 := s03 _ _ hy
      have hrl3 := s03 _ _ hrl
      refine ⟨_, rl_t eh3, _, by rw [vs_cons]; exact at0, ?_⟩
      repeat (first | walk_at "oxs" | simp only [hy3])
      intro gb hgb
      refine ⟨_, .inr (hgb _), rfl, ?_⟩
      rw [there_no, if_pos rfl]
      repeat (first | walk_at "oxs" | simp only [hy3, ela])
      refine ⟨r, s, vr, ⟨a, rfl, eh3⟩, hs.same s03, fun v H4 s4 hv => ?_⟩
      intro p H5 np5 s5 ep5
      have s45 := s4.trans s5
      have ela5 := s45 _ _ ela
      have hy5 := s45 _ _ hy3
      have hrl5 := s45 _ _ hrl3
      have nlr : la ≠ rl := fun z => by rw [z, s2 _ _ hrl] at nla; cases nla
      have nly : la ≠ y := fun z => by rw [z, s2 _ _ hy] at nla; cases nla
      have npl : p ≠ la := fun z => by rw [z, s4 _ _ ela] at np5; cases np5
      have npr : p ≠ rl := fun z => by rw [z, s4 _ _ hrl3] at np5; cases np5
      repeat (first | walk_at "oxs" | simp only [ela5, hy5, hrl5, upd_ne nly.symm, upd_ne nlr.symm])
      have e1 : ∀ z, z ≠ la → z ≠ rl → ∀ o o2, upd (upd H5 la o) rl o2 z = H5 z := fun z h1 h2 o o2 => by rw [upd_ne h2, upd_ne h1]
      have kp : ∀ o o2, Keep [rl] H (upd (upd H5 la o) rl o2) := fun o o2 z x nz ez => by
        have nzl : z ≠ la := fun q => by rw [q] at ez; rw [s2 _ _ ez] at nla; cases nla
        rw [e1 z nzl (by simpa using nz)]
        exact s45 _ _ (s03 _ _ ez)
      refine ⟨by rw [sizeLine_eq]; omega, by rw [sizeLine_eq]; omega, ?_⟩
      exact h _ p v (kp _ _) upd_same (by rw [e1 p npl npr]; exact ep5) (((hv.same s5).upd ela5).upd (by rw [upd_ne nlr.symm]; exact hrl5))
    · cases h
theorem no_clos (r : Rw37) (h : ∀ f g, r ≠ .clos f g) : r.word ≠ "closure" := by cases r <;> first | exact absurd rfl (h _ _) | (dsimp only [Rw37.word]; decide)
def lookR (chs : List Ch) (r : Rw37) (s v : Int) : Option Str := match lacks r s v with
  | some m => some m
  | none => match r with
    | .clos f g => missC chs f g
    | _ => none
def closR (r : Rw37) (v : Int) (cl : List (Int × Int)) : List (Int × Int) := match r with
  | .clos f g => cl ++ [((f : Int), (g : Int) + v)]
  | _ => cl
def IsPr (H : Hp) (v : V) (q : Int × Int) : Prop := ∃ a, v = .ref a ∧ H a = some (.tup [.int q.1, .int q.2])
theorem IsPr.same {H H' : Hp} {v : V} {q : Int × Int} (h : IsPr H v q) (s : Same H H') : IsPr H' v q := by
  obtain ⟨a, e, h⟩ := h; exact ⟨a, e, s _ _ h⟩
/-- what a Check holds: its things are of their own -/
structure CkS (c : Cs) (H0 H : Hp) (y cl : Addr) (cv : V) (sd cq rl : Addr) (at_ : Nat) (clos : List (Int × Int)) (sh : List V) : Prop where
  ck : CkAt c H y cl cv sd cq rl
  sm : Same H0 H
  n1 : H0 sd = none
  n2 : H0 cq = none
  n3 : H0 rl = none
  n4 : H0 y = none
  ne : cq ≠ rl
  d : ∃ kvs : List (Key × V), H sd = some (.dK kvs) ∧ kvs.length = at_ ∧ ∀ kv ∈ kvs, ∃ j : Nat, kv.1 = .inl (j : Int) ∧ j < at_
  q : ∃ qs, H cq = some (.lst qs) ∧ Paired (IsPr H) qs clos
  r : H rl = some (.lst sh)
theorem paired_snoc {α β : Type} {F : α → β → Prop} {x : α} {y : β} : ∀ {xs : List α} {ys : List β}, Paired F xs ys → F x y → Paired F (xs ++ [x]) (ys ++ [y])
  | _, _, .nil, h => .cons h .nil
  | _, _, .cons a t, h => .cons a (paired_snoc t h)
theorem sm_upd {H0 H : Hp} {p : Addr} {o : HO} (s : Same H0 H) (n : H0 p = none) : Same H0 (upd H p o) := fun b x e => by
  rw [upd_ne (fun z => by rw [z, n] at e; cases e)]; exact s b x e
theorem CkS.same {H0 H H' : Hp} {y cl sd cq rl : Addr} {cv : V} {at_ : Nat} {clos : List (Int × Int)} {sh : List V} (C : CkS c H0 H y cl cv sd cq rl at_ clos sh) (s : Same H H') : CkS c H0 H' y cl cv sd cq rl at_ clos sh := by
  obtain ⟨⟨dx, h1⟩, h2, h3, h4, h5, h6, h7, ⟨kvs, h8, h9, h10⟩, ⟨qs, h11, h12⟩, h13⟩ := C
  exact ⟨⟨dx, s _ _ h1⟩, h2.trans s, h3, h4, h5, h6, h7, ⟨kvs, s _ _ h8, h9, h10⟩, ⟨qs, s _ _ h11, Paired.mapP h12 fun _ _ h => h.same s⟩, s _ _ h13⟩
theorem IsPr.upd {H : Hp} {v : V} {q : Int × Int} {p : Addr} {o o2 : HO} (h : IsPr H v q) (e : H p = some o2) (ne : ∀ xs, o2 ≠ .tup xs) : IsPr (L2.upd H p o) v q := by
  obtain ⟨a, rfl, h1⟩ := h
  exact ⟨a, rfl, by rw [upd_ne (fun z => by rw [z, e] at h1; exact ne _ (Option.some.inj h1))]; exact h1⟩
theorem CkS.put {H0 H : Hp} {y cl sd cq rl : Addr} {cv sv : V} {at_ : Nat} {clos : List (Int × Int)} {sh : List V} {kvs : List (Key × V)} (C : CkS c H0 H y cl cv sd cq rl at_ clos sh) (e : H sd = some (.dK kvs)) : CkS c H0 (upd H sd (.dK (kvs ++ [(.inl (at_ : Int), sv)]))) y cl cv sd cq rl (at_ + 1) clos sh := by
  obtain ⟨⟨dx, h1⟩, h2, h3, h4, h5, h6, h7, ⟨kvs', h8, h9, h10⟩, ⟨qs, h11, h12⟩, h13⟩ := C
  cases e.symm.trans h8
  refine ⟨⟨dx, by rw [upd_ne (fun z => by rw [z, e] at h1; cases h1)]; exact h1⟩, sm_upd h2 h3, h3, h4, h5, h6, h7, ⟨_, upd_same, by rw [List.length_append, h9]; rfl, fun kv m => ?_⟩, ⟨qs, by rw [upd_ne (fun z => by rw [z, e] at h11; cases h11)]; exact h11, Paired.mapP h12 fun _ _ h => h.upd e (fun _ z => by cases z)⟩, by rw [upd_ne (fun z => by rw [z, e] at h13; cases h13)]; exact h13⟩
  rcases List.mem_append.mp m with m | m
  · obtain ⟨j, e1, e2⟩ := h10 kv m
    exact ⟨j, e1, by omega⟩
  · rw [List.mem_singleton.mp m]
    exact ⟨at_, rfl, by omega⟩
theorem CkS.clo {H0 H : Hp} {y cl sd cq rl : Addr} {cv v : V} {at_ : Nat} {clos : List (Int × Int)} {sh qs : List V} {q : Int × Int} (C : CkS c H0 H y cl cv sd cq rl at_ clos sh) (e : H cq = some (.lst qs)) (hv : IsPr H v q) : CkS c H0 (upd H cq (.lst (qs ++ [v]))) y cl cv sd cq rl at_ (clos ++ [q]) sh := by
  obtain ⟨⟨dx, h1⟩, h2, h3, h4, h5, h6, h7, ⟨kvs', h8, h9, h10⟩, ⟨qs', h11, h12⟩, h13⟩ := C
  cases e.symm.trans h11
  refine ⟨⟨dx, by rw [upd_ne (fun z => by rw [z, e] at h1; cases h1)]; exact h1⟩, sm_upd h2 h4, h3, h4, h5, h6, h7, ⟨_, by rw [upd_ne (fun z => by rw [z, e] at h8; cases h8)]; exact h8, h9, h10⟩, ⟨_, upd_same, ?_⟩, by rw [upd_ne (fun z => h7 z.symm)]; exact h13⟩
  exact paired_snoc (Paired.mapP h12 fun _ _ h => h.upd e (fun _ z => by cases z)) (hv.upd e (fun _ z => by cases z))
theorem CkS.rea {H0 H H' : Hp} {y cl sd cq rl : Addr} {cv : V} {at_ : Nat} {clos : List (Int × Int)} {sh sh' : List V} (C : CkS c H0 H y cl cv sd cq rl at_ clos sh) (k : Keep [rl] H H') (e : H' rl = some (.lst sh')) : CkS c H0 H' y cl cv sd cq rl at_ clos sh' := by
  obtain ⟨⟨dx, h1⟩, h2, h3, h4, h5, h6, h7, ⟨kvs', h8, h9, h10⟩, ⟨qs', h11, h12⟩, h13⟩ := C
  have n : ∀ {a : Addr} {o : HO}, a ≠ rl → H a = some o → H' a = some o := fun na h => k _ _ (by simpa using na) h
  refine ⟨⟨dx, n (fun z => by rw [z, h13] at h1; cases h1) h1⟩, fun b x q => n (fun z => by rw [z, h5] at q; cases q) (h2 _ _ q), h3, h4, h5, h6, h7, ⟨_, n (fun z => by rw [z, h13] at h8; cases h8) h8, h9, h10⟩, ⟨_, n h7 h11, Paired.mapP h12 fun v q ⟨a, ea, ha⟩ => ⟨a, ea, n (fun z => by rw [z, h13] at ha; cases ha) ha⟩⟩, e⟩
def spLook (c : Cs) : Sp := fun vs H Q _ => match vs with
  | [.ref y, .int i, sv] => ∃ H0 cl cv sd cq rl at_ clos xs chs ch s vr, i = (at_ : Nat) ∧ CkS c H0 H y cl cv sd cq rl at_ clos [] ∧ H0 cl = some (.lst xs) ∧ Paired (IsCh c H0) xs chs ∧ IsCh c H0 cv ch ∧ IsSh c H sv s vr ∧ at_ ≤ 100000 ∧ at_ ≤ ch.rows.length ∧ clos.length ≤ at_ ∧
      match ch.rows[at_]? with
      | none => ∀ H', Same H0 H' → Q (.str "the code ends here") H'
      | some r => match lookR chs r s vr with
        | some m => ∀ H', Same H0 H' → Q (.str m) H'
        | none => if stopR r = true then (∀ H', CkS c H0 H' y cl cv sd cq rl (at_ + 1) (closR r vr clos) [] → Q .non H') else ∀ H' p v, CkS c H0 H' y cl cv sd cq rl (at_ + 1) (closR r vr clos) [.ref p] → H' p = some (.tup [.int ((at_ + 1 : Nat) : Int), v]) → IsSh c H' v (s - r.takes + r.gives) (r.vars vr) → Q .non H'
  | _ => False
set_option maxHeartbeats 4000000 in
theorem ok_look (A : AtM K c.Check "look" "Check.look" s_Check_look ["self", "at", "shape"]) (T : Txt K mg c) (H_flaw_of : Has P w K mg base CX0 "flaw_of" 2 ["row", "shape"] (spFlaw c)) (M_Check_missing : HasM P w K mg base CX0 c.Check "missing" 2 ["self", "row"] (spMiss c)) (M_Check_follow : HasM P w K mg base CX0 c.Check "follow" 4 ["self", "at", "row", "shape"] (spFollow c)) : HasM P w K mg base CX0 c.Check "look" 5 ["self", "at", "shape"] (spLook c) := by
  have Sc := sc_Check_look
  refine hasM_of A Sc (fun vs H Q E h => ?_) (fun cdv f A outer s H vs Q E hr h => ?_)
  · unfold spLook at h; split at h; rfl; cases h
  · unfold spLook at h
    split at h
    · rename_i y i sv
      obtain ⟨H0, cl, cv, sd, cq, rl, at_, clos, xs, chs, ch, s, vr, rfl, C, hcl, hxs, hch, hsh, hat, hle, hcn, h⟩ := h
      refine ⟨_, (pss_cons (ps_if (pt_cmpR op_fGe (fe_var 1) (pe_callB call_fLen (by rfl) T.no_len (by decide +kernel) (pa_cons (fe_fld (fe_fld (fe_var 0) T.pl_chunk rfl) T.pl_rows rfl) pa_nil)) (nomark _)) (pss_one (ps_ret pe_str)) pss_nil)
      (pss_cons (ps_if (pt_cmp (pc_din (hu_of hr) (fe_var 1) (fe_fld (fe_var 0) T.pl_shapes rfl))) (pss_cons (ps_if (pt_cmpR (op_fEq hr.units) (pe_dget (hu_of hr) (fe_fld (fe_var 0) T.pl_shapes rfl) (fe_var 1) (fun _ _ => rfl)) (fe_var 2) (nomark _)) (pss_one (ps_ret pe_non)) pss_nil)
      (pss_one (ps_ret pe_str))) pss_nil)
      (pss_cons (ps_dput (hu_of hr) (fe_fld (fe_var 0) T.pl_shapes rfl) (fe_var 1) (fe_var 2) rfl)
      (pss_cons (ps_set (i := 3) Sc.nd rfl (.inl rfl) (pe_ix ix_fx (fe_fld (fe_fld (fe_var 0) T.pl_chunk rfl) T.pl_rows rfl) (fe_var 1) (fun _ _ => rfl)))
      (pss_cons (ps_set (i := 4) Sc.nd rfl (.inl rfl) (fe_call H_flaw_of (hr.mono (by walk_at "rm")) (by rfl) pass0 (pa_cons (fe_var 3) (pa_cons (fe_var 2) pa_nil))))
      (pss_cons (ps_if (PW.pt (pw_and (pt_cmpR op_fIsN (fe_var 4) pe_non (nomark _)) (pw_and1 (pt_cmpR (op_fEq hr.units) (pe_ix ix_fx (fe_var 3) pe_int (fun _ _ => rfl)) pe_str (nomark _))))) (pss_cons (ps_expr (fe_bm PySem.F.plainAttrs_list PySem.F.slot_list_append PySem.F.type_list_append isLst_ty mt_fAppend (fe_fld (fe_var 0) T.pl_closures rfl) (pa_cons (fe_tup (pa_cons (pe_ix ix_fx (fe_var 3) pe_int (fun _ _ => rfl)) (pa_cons (pe_op op_fAdd (pe_ix ix_fx (fe_var 3) pe_int (fun _ _ => rfl)) (fe_fld (fe_var 2) T.pl_variables rfl)) pa_nil))) pa_nil)))
      (pss_one (ps_set (i := 4) Sc.nd rfl (.inl rfl) (fe_meth M_Check_missing T.cl_Check (hr.mono (by walk_at "rm")) pass0 (fe_var 0) (pa_cons (fe_var 3) pa_nil))))) pss_nil)
      (pss_cons (ps_if (pt_cmpR op_fIsN (fe_var 4) pe_non (nomark _)) (pss_one (ps_expr (fe_meth M_Check_follow T.cl_Check (hr.mono (by walk_at "rm")) pass0 (fe_var 0) (pa_cons (fe_var 1) (pa_cons (fe_var 3) (pa_cons (fe_var 2) pa_nil)))))) pss_nil)
      (pss_one (ps_ret (fe_var 4)))))))))), ?_⟩
      obtain ⟨dx, hy⟩ := C.ck
      obtain ⟨kvs, hkv, hkl, hks⟩ := C.d
      obtain ⟨qs, hq, hqs⟩ := C.q
      obtain ⟨yc, dxc, pc, qc, rws, rfl, hd1, hd2, hd3⟩ := id hch
      have hc1 := C.sm _ _ hd1
      have hc2 := C.sm _ _ hd2
      have hc3 := Paired.mapP hd3 fun _ _ h => IsRw.same h C.sm
      walk_at "fx0"
      simp only [tSeq]
      refine cut_ fun N hN => ?_
      repeat (first | walk_at "oxs" | simp only [hy, hc1])
      have lr : rws.length = ch.rows.length := Paired.length hc3
      refine ⟨_, rl_l hc2, ?_⟩
      by_cases hend : (rws.length : Int) ≤ (at_ : Int)
      · rw [if_pos hend]
        rw [List.getElem?_eq_none (by omega)] at h
        exact h H C.sm
      rw [if_neg hend]
      refine hN _ _ ?_
      clear hN N
      have hlt : at_ < ch.rows.length := by omega
      obtain ⟨r, er⟩ : ∃ r, ch.rows[at_]? = some r := ⟨_, List.getElem?_eq_getElem hlt⟩
      rw [er] at h
      dsimp only at h
      simp only [tSeq]
      refine cut_ fun N hN => ?_
      repeat (first | walk_at "oxs" | simp only [hy, hc1] | simp only [tDIn])
      have hno : valV kvs (.inl (at_ : Int) : Key) = none := by
        show Option.map _ (List.find? _ kvs) = none
        rw [List.find?_eq_none.mpr]; · rfl
        intro kv m
        obtain ⟨j, e1, e2⟩ := hks kv m
        rw [e1]
        simp
        omega
      refine ⟨none, .inl ⟨kvs, .inl at_, .inl hkv, rfl, hno.symm⟩, ?_⟩
      rw [if_neg (by decide)]
      refine hN _ _ ?_
      clear hN N
      simp only [tSeq]
      refine cut_ fun N hN => ?_
      repeat (first | walk_at "oxs" | simp only [hy, hc1] | simp only [sDPut])
      have hput : putK kvs (.inl (at_ : Int) : Key) sv = kvs ++ [(.inl (at_ : Int), sv)] := by
        unfold putK
        rw [if_neg]
        intro z
        obtain ⟨kv, m, e⟩ := List.any_eq_true.mp z
        obtain ⟨j, e1, e2⟩ := hks kv m
        rw [e1] at e
        simp at e
        omega
      refine ⟨_, .inl ⟨kvs, .inl at_, hkv, rfl, by rw [sizeLine_eq]; omega, rfl⟩, ?_⟩
      rw [hput]
      have C1 := C.put (sv := sv) hkv
      have hsh1 : IsSh c (upd H sd (.dK (kvs ++ [(.inl (at_ : Int), sv)]))) sv s vr := by
        obtain ⟨y3, dx3, t3, rfl, g1, g2⟩ := hsh
        exact ⟨y3, dx3, t3, rfl, by rw [upd_ne (fun z => by rw [z, hkv] at g1; cases g1)]; exact g1, by rw [upd_ne (fun z => by rw [z, hkv] at g2; cases g2)]; exact g2⟩
      generalize upd H sd (.dK (kvs ++ [(.inl (at_ : Int), sv)])) = H1 at C1 hsh1 ⊢
      refine hN _ _ ?_
      clear hN N hy hkv hno hput hks hkl hq hqs C hsh hc1 hc2 hc3
      obtain ⟨dx, hy⟩ := C1.ck
      have hc1 := C1.sm _ _ hd1
      have hc2 := C1.sm _ _ hd2
      have hc3 := Paired.mapP hd3 fun _ _ h => IsRw.same h C1.sm
      obtain ⟨vrow, evr, hrow⟩ : ∃ v, rws[at_]? = some v ∧ IsRw H1 v r := by
        obtain ⟨v, ev⟩ : ∃ v, rws[at_]? = some v := ⟨_, List.getElem?_eq_getElem (by omega)⟩
        obtain ⟨r', er', hv⟩ := paired_get hc3 ev
        cases er.symm.trans er'
        exact ⟨v, ev, hv⟩
      simp only [tSeq]
      refine cut_ fun N hN => ?_
      repeat (first | walk_at "oxs" | simp only [hy, hc1])
      refine ⟨_, rl_l hc2, vrow, atI_nat evr, ?_⟩
      refine hN _ _ ?_
      clear hN N
      simp only [tSeq]
      refine cut_ fun N hN => ?_
      repeat (first | walk_at "oxs" | simp only [hy, hc1])
      refine ⟨r, s, vr, hrow, hsh1, fun H2 s2 => ?_⟩
      refine hN _ _ ?_
      clear hN N
      have C2 := C1.same s2
      have hsh2 := hsh1.same s2
      have hrow2 := hrow.same s2
      simp only [tSeq]
      refine cut_ fun N hN => ?_
      obtain ⟨dx2, hy2⟩ := C2.ck
      cases hl : lacks r s vr with
      | some m =>
        have hq : lookR chs r s vr = some m := by unfold lookR; rw [hl]
        rw [hq] at h
        dsimp only [flawV]
        repeat (first | walk_at "oxs" | simp only [hy2])
        refine hN _ _ ?_
        repeat (first | walk_at "oxs" | simp only [hy2])
        exact h _ C2.sm
      | none =>
        dsimp only [flawV]
        have fol : ∀ H3 clos', CkS c H0 H3 y cl (.ref yc) sd cq rl (at_ + 1) clos' [] → IsRw H3 vrow r → IsSh c H3 sv s vr → lookR chs r s vr = none → clos' = closR r vr clos → N [some (.ref y), some (.int (at_ : Nat)), some sv, some vrow, some .non] H3 := by
          intro H3 clos' C3 hrow3 hsh3 hq ec
          rw [hq] at h
          subst ec
          obtain ⟨dx3, hy3⟩ := C3.ck
          refine hN _ _ ?_
          repeat (first | walk_at "oxs" | simp only [hy3])
          refine ⟨cl, _, sd, cq, rl, r, s, vr, ⟨dx3, hy3⟩, C3.r, hrow3, hsh3, fun z => ?_, fun a ea z => ?_, ?_⟩
          · rw [z, C3.r] at hy3; cases hy3
          · obtain ⟨a', ea', ha'⟩ := hrow3
            cases ea.symm.trans ea'
            rw [z, C3.r] at ha'; cases ha'
          · dsimp only at h
            by_cases hst : stopR r = true
            · rw [if_pos hst]
              rw [if_pos hst] at h
              intro H4 s4
              repeat (first | walk_at "oxs" | simp only [hy3])
              exact h _ (C3.same s4)
            · rw [if_neg hst]
              rw [if_neg hst] at h
              intro H4 p v k4 e4 ep4 hv
              repeat (first | walk_at "oxs" | simp only [hy3])
              exact h _ p v (C3.rea k4 e4) ep4 hv
        repeat (first | walk_at "oxs" | simp only [hy2])
        obtain ⟨ra, era, hra⟩ := id hrow2
        subst era
        refine ⟨_, rl_t hra, _, by rw [vs_cons]; exact at0, ?_⟩
        repeat (first | walk_at "oxs" | simp only [hy2])
        by_cases hc : ∃ f g, r = .clos f g
        · obtain ⟨f1, g1, rfl⟩ := hc
          have eq : lookR chs (.clos f1 g1) s vr = missC chs f1 g1 := by unfold lookR; rw [hl]
          rw [if_pos (by rfl)]
          obtain ⟨qs2, hq2, hqs2⟩ := C2.q
          obtain ⟨y3, dx3, t3, rfl, g31, g32⟩ := id hsh2
          repeat (first | walk_at "oxs" | simp only [hy2, hq2])
          refine ⟨_, rl_t hra, _, rfl, _, rl_t hra, _, rfl, ?_⟩
          repeat (first | walk_at "oxs" | simp only [hy2, hq2, g31])
          intro p H3 np s3 ep
          have C3 := C2.same s3
          have hq3 := s3 _ _ hq2
          have C4 := C3.clo (q := ((f1 : Int), (g1 : Int) + vr)) hq3 ⟨p, rfl, ep⟩
          have hsh4 := (hsh2.same s3).upd (o := .lst (qs2 ++ [.ref p])) hq3
          have hrow4 : IsRw (upd H3 cq (.lst (qs2 ++ [.ref p]))) (.ref ra) (.clos f1 g1) := ⟨ra, rfl, by rw [upd_ne (fun z => by rw [z, hq2] at hra; cases hra)]; exact s3 _ _ hra⟩
          obtain ⟨dx4, hy4⟩ := C4.ck
          have l2 : qs2.length = clos.length := Paired.length hqs2
          repeat (first | walk_at "oxs" | simp only [hq3])
          generalize upd H3 cq (.lst (qs2 ++ [.ref p])) = H4 at C4 hsh4 hrow4 hy4 ⊢
          repeat (first | walk_at "oxs" | simp only [hy4])
          refine ⟨by rw [sizeLine_eq]; omega, cl, _, sd, cq, rl, xs, chs, f1, g1, ⟨dx4, hy4⟩, C4.sm _ _ hcl, Paired.mapP hxs fun _ _ h => IsCh.same h C4.sm, hrow4, fun H5 s5 => ?_⟩
          cases em : missC chs (f1 : Int) (g1 : Int) with
          | none => exact fol H5 _ (C4.same s5) (hrow4.same s5) (hsh4.same s5) (eq.trans em) rfl
          | some m =>
            rw [eq, em] at h
            refine hN _ _ ?_
            dsimp only [flawV]
            repeat (first | walk_at "oxs" | simp only [hy4])
            exact h _ (C4.same s5).sm
        · have hw := no_clos r fun f g z => hc ⟨f, g, z⟩
          have hn : (match r with | .clos f g => missC chs f g | _ => none) = none := by
            split
            · exact absurd ⟨_, _, rfl⟩ hc
            · rfl
          rw [if_neg hw]
          refine fol H2 clos C2 hrow2 hsh2 ?_ ?_
          · unfold lookR; rw [hl]; exact hn
          · unfold closR; split
            · exact absurd ⟨_, _, rfl⟩ hc
            · rfl
    · cases h
end
section
variable {P : Program} {w : World} {K : PySem.W.Frag} {mg : Str → Option Value} {base : Heap} {c : Cs}
inductive WRes where
  | flaw (at_ : Nat) (m : Str)
  | ok (clos : List (Int × Int))
def walkP (chs : List Ch) : List Rw37 → Nat → Int → Int → List (Int × Int) → WRes
  | [], at_, _, _, _ => .flaw at_ "the code ends here"
  | r :: rs, at_, s, v, clos => match lookR chs r s v with
    | some m => .flaw at_ m
    | none => if stopR r = true then .ok (closR r v clos) else walkP chs rs (at_ + 1) (s - r.takes + r.gives) (r.vars v) (closR r v clos)
theorem closR_len (r : Rw37) (v : Int) (clos : List (Int × Int)) : (closR r v clos).length ≤ clos.length + 1 := by
  unfold closR; split
  · rw [List.length_append]; exact Nat.le_refl _
  · omega
def spRun (c : Cs) : Sp := fun vs H Q _ => match vs with
  | [.ref y] => ∃ H0 cl cv sd cq rl xs chs ch vr p0 v0, CkS c H0 H y cl cv sd cq rl 0 [] [.ref p0] ∧ H0 cl = some (.lst xs) ∧ Paired (IsCh c H0) xs chs ∧ IsCh c H0 cv ch ∧ H p0 = some (.tup [.int 0, v0]) ∧ IsSh c H v0 0 vr ∧ ch.rows.length ≤ 99999 ∧
      match walkP chs ch.rows 0 0 vr [] with
      | .flaw at_ m => ∀ p H', Same H0 H' → H' p = some (.tup [.int (at_ : Nat), .str m]) → Q (.ref p) H'
      | .ok clos => ∀ H' qs, CkAt c H' y cl cv sd cq rl → Same H0 H' → H' cq = some (.lst qs) → Paired (IsPr H') qs clos → Q .non H'
  | _ => False
def RunW (c : Cs) (H0 : Hp) (y cl : Addr) (cv : V) (sd cq rl : Addr) (chs : List Ch) (ch : Ch) (R : WRes) (m : Nat) (σ : L2.St) (H : Hp) : Prop := ∃ i clos sh v1 v2 v3, σ = [some (.ref y), v1, v2, v3] ∧ CkS c H0 H y cl cv sd cq rl i clos sh ∧ m = ch.rows.length + 1 - i ∧ i ≤ ch.rows.length + 1 ∧ clos.length ≤ i ∧ ((sh = [] ∧ R = .ok clos) ∨ ∃ p v s vr, sh = [.ref p] ∧ H p = some (.tup [.int (i : Nat), v]) ∧ IsSh c H v s vr ∧ i ≤ ch.rows.length ∧ R = walkP chs (ch.rows.drop i) i s vr clos)
set_option maxHeartbeats 4000000 in
theorem ok_run (A : AtM K c.Check "run" "Check.run" s_Check_run ["self"]) (T : Txt K mg c) (M_Check_look : HasM P w K mg base CX0 c.Check "look" 5 ["self", "at", "shape"] (spLook c)) : HasM P w K mg base CX0 c.Check "run" 6 ["self"] (spRun c) := by
  have Sc := sc_Check_run
  refine hasM_of A Sc (fun vs H Q E h => ?_) (fun cdv f A outer s H vs Q E hr h => ?_)
  · unfold spRun at h; split at h; rfl; cases h
  · unfold spRun at h
    split at h
    · rename_i y
      obtain ⟨H0, cl, cv, sd, cq, rl, xs, chs, ch, vr, p0, v0, C, hcl, hxs, hch, hp0, hv0, hlen, h⟩ := h
      refine ⟨_, (pss_cons (ps_while PassesOwn.never (pt_fTru (fe_fld (fe_var 0) T.pl_reached rfl) (fun _ => rfl)) (pss_cons (ps_asg (fe_bm0 PySem.F.plainAttrs_list PySem.F.slot_list_pop PySem.F.type_list_pop isLst_ty mt_fPop (fe_fld (fe_var 0) T.pl_reached rfl)) (pg_tup (n := 2) rfl (pgs_cons (pg_name (i := 1) Sc.nd rfl (.inl rfl)) (pgs_cons (pg_name (i := 2) Sc.nd rfl (.inl rfl)) pgs_nil))))
      (pss_cons (ps_set (i := 3) Sc.nd rfl (.inl rfl) (fe_meth M_Check_look T.cl_Check (hr.mono (by walk_at "rm")) pass0 (fe_var 0) (pa_cons (fe_var 1) (pa_cons (fe_var 2) pa_nil))))
      (pss_one (ps_if (pt_cmpR op_fNotN (fe_var 3) pe_non (nomark _)) (pss_one (ps_ret (fe_tup (pa_cons (fe_var 1) (pa_cons (fe_var 3) pa_nil))))) pss_nil)))))
      (pss_one (ps_ret pe_non))), ?_⟩
      walk_at "fx0"
      simp only [tSeq]
      refine cut_ fun N hN => ?_
      generalize hR : walkP chs ch.rows 0 0 vr [] = R at h
      refine ⟨RunW c H0 y cl cv sd cq rl chs ch R, ⟨_, 0, [], _, _, _, _, rfl, C, rfl, by omega, Nat.le_refl _, .inr ⟨p0, v0, 0, vr, rfl, hp0, hv0, Nat.zero_le _, by rw [List.drop_zero]; exact hR.symm⟩⟩, ?_⟩
      rintro m σ H1 ⟨i, clos, sh, v1, v2, v3, rfl, C1, rfl, hi, hcn, hs⟩
      obtain ⟨dx, hy⟩ := C1.ck
      have hrl := C1.r
      repeat (first | walk_at "oxs" | simp only [hy, hrl])
      rcases hs with ⟨rfl, rfl⟩ | ⟨p, v, s1, vr1, rfl, hp, hv, hil, rfl⟩
      · repeat (first | walk_at "oxs" | simp only [hy, hrl])
        obtain ⟨qs, hq, hqs⟩ := C1.q
        refine ⟨[], rl_l hrl, ?_⟩
        rw [if_neg (by decide)]
        refine hN _ _ ?_
        repeat (first | walk_at "oxs" | simp only [hy, hrl])
        exact h _ qs ⟨dx, hy⟩ C1.sm hq hqs
      · repeat (first | walk_at "oxs" | simp only [hy, hrl])
        refine ⟨_, rl_l hrl, ?_⟩
        rw [if_pos (by rfl)]
        have C2 := C1.rea (H' := upd H1 rl (.lst [])) (sh' := []) (Keep.upd Keep.refl (by simp)) upd_same
        have hp2 : upd H1 rl (.lst []) p = some (.tup [.int (i : Nat), v]) := by rw [upd_ne (fun z => by rw [z, hrl] at hp; cases hp)]; exact hp
        have hv2 := hv.upd (o := .lst []) hrl
        refine ⟨fun σ' H' => ∃ m', m' < ch.rows.length + 1 - i ∧ RunW c H0 y cl cv sd cq rl chs ch (walkP chs (ch.rows.drop i) i s1 vr1 clos) m' σ' H', fun _ _ h => h, ?_⟩
        show ∃ x, SqT K (upd H1 rl (.lst [])) p x ∧ _
        refine ⟨_, SqT.of hp2, rfl, _, _, rfl, _, _, rfl, rfl, ?_⟩
        show (match upd H1 rl (.lst []) y with | some (HO.ins D dx fs) => D = c.Check ∧ List.lookup (Str.ofString "look") fs = none | x => False) ∧ spLook c [V.ref y, .int (i : Nat), v] (upd H1 rl (.lst [])) _ _
        generalize upd H1 rl (.lst []) = H2 at C2 hp2 hv2 ⊢
        obtain ⟨dx2, hy2⟩ := C2.ck
        repeat (first | walk_at "oxs" | simp only [hy2])
        refine ⟨H0, cl, cv, sd, cq, rl, i, clos, xs, chs, ch, s1, vr1, rfl, C2, hcl, hxs, hch, hv2, by omega, hil, hcn, ?_⟩
        cases er : ch.rows[i]? with
        | none =>
          have hd : ch.rows.drop i = [] := List.drop_eq_nil_of_le (List.getElem?_eq_none_iff.mp er)
          rw [hd] at h
          dsimp only
          intro H3 s3
          rw [if_pos (by simp)]
          intro q H4 nq s4 eq
          exact h q H4 (s3.trans s4) eq
        | some r =>
          have hil2 : i < ch.rows.length := (List.getElem?_eq_some_iff.mp er).1
          have hd : ch.rows.drop i = r :: ch.rows.drop (i + 1) := by rw [List.drop_eq_getElem?_toList_append, er]; rfl
          have hw : walkP chs (ch.rows.drop i) i s1 vr1 clos = match lookR chs r s1 vr1 with
            | some m => .flaw i m
            | none => if stopR r = true then .ok (closR r vr1 clos) else walkP chs (ch.rows.drop (i + 1)) (i + 1) (s1 - r.takes + r.gives) (r.vars vr1) (closR r vr1 clos) := by rw [hd]; rfl
          have cl1 := closR_len r vr1 clos
          rw [hw] at h ⊢
          dsimp only
          cases el : lookR chs r s1 vr1 with
          | some m =>
            rw [el] at h
            dsimp only
            intro H3 s3
            rw [if_pos (by simp)]
            intro q H4 nq s4 eq
            exact h q H4 (s3.trans s4) eq
          | none =>
            dsimp only
            by_cases hst : stopR r = true
            · rw [if_pos hst]
              intro H3 C3
              rw [if_neg (by simp), if_pos hst]
              exact ⟨_, by omega, i + 1, _, [], _, _, _, rfl, C3, rfl, by omega, by omega, .inl ⟨rfl, rfl⟩⟩
            · rw [if_neg hst]
              intro H3 q v' C3 hq hv'
              rw [if_neg (by simp), if_neg hst]
              exact ⟨_, by omega, i + 1, _, _, _, _, _, rfl, C3, rfl, by omega, by omega, .inr ⟨q, v', _, _, rfl, hq, hv', by omega, rfl⟩⟩
    · cases h
end

section
variable {P : Program} {w : World} {K : PySem.W.Frag} {mg : Str → Option Value} {base : Heap} {c : Cs}
def spMkCheck (c : Cs) : Sp := fun vs H Q _ => match vs with
  | [.ref cl, cv, .int vr] => ∀ y sd cq rl p0 v0 H1, CkS c H H1 y cl cv sd cq rl 0 [] [.ref p0] → H1 p0 = some (.tup [.int 0, v0]) → IsSh c H1 v0 0 vr → Q (.ref y) H1
  | _ => False
set_option maxHeartbeats 4000000 in
theorem mk_Check (A : AtM K c.Check "__init__" "Check.__init__" s_Check___init__ ["self", "chunks", "chunk", "variables"]) (T : Txt K mg c) (M_Shape : HasC P w K mg base CX0 c.Shape "Shape" 1 ["self", "stack", "variables", "handlers"] (spMk_Shape K c)) : HasC P w K mg base CX0 c.Check "Check" 3 ["self", "chunks", "chunk", "variables"] (spMkCheck c) := by
  have Sc := sc_Check___init__
  refine hasC_of T.mk_Check A Sc (fun vs H Q E h => ?_) (fun cdv f A outer s H vs Q E y dx H0 hr h hy hs h0 => ?_)
  · unfold spMkCheck at h; split at h; rfl; cases h
  · unfold spMkCheck at h
    split at h
    · rename_i cl cv vr
      refine ⟨_, (pss_cons (fs_fld (fe_var 0) (fe_var 1) T.pl_chunks rfl)
      (pss_cons (fs_fld (fe_var 0) (fe_var 2) T.pl_chunk rfl)
      (pss_cons (fs_fld (fe_var 0) fe_dnew T.pl_shapes rfl)
      (pss_cons (fs_fld (fe_var 0) (fe_lst pa_nil) T.pl_closures rfl)
      (pss_one (fs_fld (fe_var 0) (fe_lst (pa_cons (fe_tup (pa_cons pe_int (pa_cons (fe_make (k := _) M_Shape (hr.mono (by walk_at "rm")) (by rfl) pass0 (pa_cons pe_int (pa_cons (fe_var 3) (pa_cons (fe_tup pa_nil) pa_nil)))) pa_nil))) pa_nil)) T.pl_reached rfl)))))), ?_⟩
      walk_at "fx0"
      walk_at "ox"
      repeat (first | walk_at "oxs" | simp only [h0])
      intro sd H2 nsd s2 esd
      have ndy : sd ≠ y := fun z => by rw [z, upd_same] at nsd; cases nsd
      rw [upd_ne ndy] at nsd
      have hy2 := s2 _ _ upd_same
      repeat (first | walk_at "oxs" | simp only [hy2])
      intro cq H3 ncq s3 ecq
      have ncy : cq ≠ y := fun z => by rw [z, upd_same] at ncq; cases ncq
      rw [upd_ne ncy] at ncq
      have hy3 := s3 _ _ upd_same
      repeat (first | walk_at "oxs" | simp only [hy3])
      intro tt H4 nt s4 et
      have nty : tt ≠ y := fun z => by rw [z, upd_same] at nt; cases nt
      have hy4 := s4 _ _ upd_same
      unfold spMk_Shape
      intro ys dxs H5 nys s5 eys p0 H6 np0 s6 ep0 rl H7 nrl s7 erl
      have s47 := (s5.trans s6).trans s7
      have hy7 := s47 _ _ hy4
      repeat (first | walk_at "oxs" | simp only [hy7])
      have a2 : ∀ a o, a ≠ y → H0 a = some o → H2 a = some o := fun a o n e => s2 _ _ (by rw [upd_ne n]; exact e)
      have a3 : ∀ a o, a ≠ y → H2 a = some o → H3 a = some o := fun a o n e => s3 _ _ (by rw [upd_ne n]; exact e)
      have a4 : ∀ a o, a ≠ y → H3 a = some o → H4 a = some o := fun a o n e => s4 _ _ (by rw [upd_ne n]; exact e)
      have nr4 : H4 rl = none := (s5.trans s6).free nrl
      have nry : rl ≠ y := fun z => by rw [z, hy4] at nr4; cases nr4
      have ncr : cq ≠ rl := fun z => by rw [← z, a4 _ _ ncy ecq] at nr4; cases nr4
      have n2 : H2 cq = none := ncq
      have n0 : ∀ a, a ≠ y → H4 a = none → H0 a = none := fun a n e => by
        cases q : H0 a with
        | none => rfl
        | some o => rw [a4 a o n (a3 a o n (a2 a o n q))] at e; cases e
      have nc0 : H0 cq = none := by
        cases q : H0 cq with
        | none => rfl
        | some o => rw [a2 _ _ ncy q] at n2; cases n2
      have fin : ∀ a o o2, a ≠ y → H4 a = some o → upd H7 y o2 a = some o := fun a o o2 n e => by rw [upd_ne n]; exact s47 _ _ e
      have ys_y : ys ≠ y := fun z => by rw [z, hy4] at nys; cases nys
      have p0_y : p0 ≠ y := fun z => by rw [z, s5 _ _ hy4] at np0; cases np0
      refine h y sd cq rl p0 (.ref ys) _ ⟨⟨dx, upd_same⟩, fun a o q => ?_, hs.free nsd, hs.free nc0, hs.free (n0 rl nry nr4), hy, ncr, ⟨[], ?_, rfl, fun _ m => by cases m⟩, ⟨[], ?_, .nil⟩, ?_⟩ ?_ ?_
      · have na : a ≠ y := fun z => by rw [z, hy] at q; cases q
        exact fin _ _ _ na (a4 _ _ na (a3 _ _ na (a2 _ _ na (hs _ _ q))))
      · exact fin _ _ _ ndy (a4 _ _ ndy (a3 _ _ ndy esd))
      · exact fin _ _ _ ncy (a4 _ _ ncy ecq)
      · rw [upd_ne nry]; exact erl
      · rw [upd_ne p0_y]; exact s7 _ _ ep0
      · exact ⟨ys, dxs, tt, rfl, by rw [upd_ne ys_y]; exact s7 _ _ (s6 _ _ eys), fin _ _ _ nty et⟩
    · cases h
end

/-! ### the queue of functions -/
abbrev Fl := Int × Int × Str
def mkF (n : Int) (a : Nat) (m : Str) : Fl := (n, (a : Int), m)
def lookB (bg : List (Int × Int)) (n : Int) : Option Int := (bg.find? fun q => decide (q.1 = n)).map fun q => q.2
def queueP (chs : List Ch) : Nat → List (Int × Int) → List (Int × Int) → List Fl → List Fl
  | 0, _, _, fl => fl
  | _ + 1, [], _, fl => fl
  | f + 1, (n, v) :: ws, bg, fl => match lookB bg n with
    | some v' => if v' = v then queueP chs f ws bg fl else queueP chs f ws bg (fl ++ [mkF n 0 "made in different scopes"])
    | none => match firstC chs n with
      | none => fl
      | some ch => match walkP chs ch.rows 0 0 v [] with
        | .flaw a m => queueP chs f ws (bg ++ [(n, v)]) (fl ++ [mkF n a m])
        | .ok cl => queueP chs f (ws ++ cl) (bg ++ [(n, v)]) fl
theorem queue_nil (chs : List Ch) (bg : List (Int × Int)) (fl : List Fl) : ∀ f, queueP chs f [] bg fl = fl
  | 0 => rfl
  | _ + 1 => rfl
/-- how many chunks have not begun -/
def leftB (chs : List Ch) (bg : List (Int × Int)) : Nat := (chs.filter fun ch => (lookB bg ch.n).isNone).length
def Known (chs : List Ch) (ws : List (Int × Int)) : Prop := ∀ q ∈ ws, firstC chs q.1 ≠ none
theorem lookB_app {bg : List (Int × Int)} {n m v : Int} (h : lookB bg m = none) : lookB (bg ++ [(n, v)]) m = if n = m then some v else none := by
  unfold lookB at h ⊢
  rw [List.find?_append, Option.map_eq_none_iff.mp h, Option.none_or]
  by_cases e : n = m
  · rw [if_pos e, List.find?_cons_of_pos (by simpa using e)]; rfl
  · rw [if_neg e, List.find?_cons_of_neg (by simpa using e)]; rfl
theorem lookB_some {bg : List (Int × Int)} {n m v u : Int} (h : lookB bg m = some u) : lookB (bg ++ [(n, v)]) m = some u := by
  unfold lookB at h ⊢
  rw [List.find?_append]
  cases e : bg.find? fun q => decide (q.1 = m) with
  | none => rw [e] at h; cases h
  | some x => rw [e] at h; rw [Option.some_or]; exact h
theorem filter_less {α : Type} {p q : α → Bool} {x : α} : ∀ {l : List α}, (∀ a ∈ l, q a = true → p a = true) → x ∈ l → p x = true → q x = false → (l.filter q).length + 1 ≤ (l.filter p).length
  | [], _, m, _, _ => by cases m
  | a :: l, h, m, hp, hq => by
    have sub : ∀ {l : List α}, (∀ a ∈ l, q a = true → p a = true) → (l.filter q).length ≤ (l.filter p).length := fun {l} h => by
      induction l with
      | nil => exact Nat.le_refl _
      | cons b l ih =>
        have i := ih fun a m => h a (List.mem_cons_of_mem _ m)
        have hb := h b (List.mem_cons_self ..)
        rw [List.filter_cons, List.filter_cons]
        split
        · rename_i g
          rw [if_pos (hb g)]
          exact Nat.succ_le_succ i
        · split
          · exact Nat.le_succ_of_le i
          · exact i
    rw [List.filter_cons, List.filter_cons]
    rcases List.mem_cons.mp m with e | m
    · subst e
      rw [if_pos hp, if_neg (by rw [hq]; decide)]
      exact Nat.succ_le_succ (sub fun a m => h a (List.mem_cons_of_mem _ m))
    · have i := filter_less (fun a m => h a (List.mem_cons_of_mem _ m)) m hp hq
      have hb := h a (List.mem_cons_self ..)
      split
      · rename_i g
        rw [if_pos (hb g)]
        exact Nat.succ_le_succ i
      · split
        · exact Nat.le_succ_of_le i
        · exact i
theorem left_less {chs : List Ch} {bg : List (Int × Int)} {n v : Int} {ch : Ch} (h : lookB bg n = none) (e : firstC chs n = some ch) : leftB chs (bg ++ [(n, v)]) + 1 ≤ leftB chs bg := by
  have m := List.mem_of_find?_eq_some e
  have en : ch.n = n := by simpa using List.find?_some e
  refine filter_less (x := ch) (fun a _ q => ?_) m (by rw [en, h]; rfl) (by rw [en, lookB_app h, if_pos rfl]; rfl)
  cases g : lookB bg a.n with
  | none => rfl
  | some u => rw [lookB_some g] at q; cases q
theorem walk_ok {chs : List Ch} : ∀ {rs : List Rw37} {a : Nat} {s v : Int} {cl cl' : List (Int × Int)}, walkP chs rs a s v cl = .ok cl' → Known chs cl → cl'.length ≤ cl.length + rs.length ∧ Known chs cl'
  | [], _, _, _, _, _, h, _ => by cases h
  | r :: rs, a, s, v, cl, cl', h, hk => by
    have hw : walkP chs (r :: rs) a s v cl = match lookR chs r s v with
      | some m => .flaw a m
      | none => if stopR r = true then .ok (closR r v cl) else walkP chs rs (a + 1) (s - r.takes + r.gives) (r.vars v) (closR r v cl) := rfl
    rw [hw] at h
    have l1 := closR_len r v cl
    cases e : lookR chs r s v with
    | some m => rw [e] at h; cases h
    | none =>
      rw [e] at h
      dsimp only at h
      have hk1 : Known chs (closR r v cl) := fun q m => by
        unfold closR at m
        split at m
        · rename_i f g
          rcases List.mem_append.mp m with m | m
          · exact hk q m
          · rw [List.mem_singleton.mp m]
            unfold lookR at e
            split at e
            · cases e
            · intro z
              dsimp only at e z
              unfold missC at e
              rw [z] at e
              cases e
        · exact hk q m
      rw [List.length_cons]
      by_cases hst : stopR r = true
      · rw [if_pos hst] at h
        cases h
        exact ⟨by omega, hk1⟩
      · rw [if_neg hst] at h
        have i := walk_ok h hk1
        exact ⟨by omega, i.2⟩
/-- how much is left to do -/
def todo (chs : List Ch) (ws bg : List (Int × Int)) : Nat := ws.length + 23 * leftB chs bg
def flawsQ (chs : List Ch) : List Fl := queueP chs 400 [(0, 0)] [] []
structure QI (chs : List Ch) (ws bg : List (Int × Int)) (fl R : List Fl) : Prop where
  kn : Known chs ws
  eq : ∃ f, todo chs ws bg ≤ f ∧ R = queueP chs f ws bg fl
theorem QI.done {chs : List Ch} {bg : List (Int × Int)} {fl R : List Fl} (h : QI chs [] bg fl R) : R = fl := by
  obtain ⟨f, _, e⟩ := h.eq
  rw [e, queue_nil]
theorem QI.step {chs : List Ch} {n v : Int} {ws bg : List (Int × Int)} {fl R : List Fl} (h : QI chs ((n, v) :: ws) bg fl R) : match lookB bg n with
    | some v' => QI chs ws bg (if v' = v then fl else fl ++ [mkF n 0 "made in different scopes"]) R
    | none => ∃ ch, firstC chs n = some ch ∧ match walkP chs ch.rows 0 0 v [] with
      | .flaw a m => QI chs ws (bg ++ [(n, v)]) (fl ++ [mkF n a m]) R ∧ todo chs ws (bg ++ [(n, v)]) < todo chs ((n, v) :: ws) bg
      | .ok cl => ch.rows.length ≤ 22 → QI chs (ws ++ cl) (bg ++ [(n, v)]) fl R ∧ cl.length ≤ 22 ∧ todo chs (ws ++ cl) (bg ++ [(n, v)]) < todo chs ((n, v) :: ws) bg := by
  obtain ⟨kn, f, hf, e⟩ := h
  have t1 : todo chs ((n, v) :: ws) bg = todo chs ws bg + 1 := by unfold todo; rw [List.length_cons]; omega
  obtain ⟨g, rfl⟩ : ∃ g, f = g + 1 := ⟨f - 1, by omega⟩
  have kw : Known chs ws := fun q m => kn q (List.mem_cons_of_mem _ m)
  have eq : R = match lookB bg n with
    | some v' => if v' = v then queueP chs g ws bg fl else queueP chs g ws bg (fl ++ [mkF n 0 "made in different scopes"])
    | none => match firstC chs n with
      | none => fl
      | some ch => match walkP chs ch.rows 0 0 v [] with
        | .flaw a m => queueP chs g ws (bg ++ [(n, v)]) (fl ++ [mkF n a m])
        | .ok cl => queueP chs g (ws ++ cl) (bg ++ [(n, v)]) fl := e
  cases hb : lookB bg n with
  | some v' =>
    rw [hb] at eq
    dsimp only at eq ⊢
    refine ⟨kw, g, by omega, ?_⟩
    refine eq.trans ?_
    split <;> rfl
  | none =>
    rw [hb] at eq
    dsimp only at eq ⊢
    obtain ⟨ch, hc⟩ := Option.ne_none_iff_exists'.mp (kn _ (List.mem_cons_self ..))
    rw [hc] at eq
    dsimp only at eq
    have ls := left_less (v := v) hb hc
    refine ⟨ch, hc, ?_⟩
    cases hw : walkP chs ch.rows 0 0 v [] with
    | flaw a m =>
      rw [hw] at eq
      have t2 : todo chs ws (bg ++ [(n, v)]) < todo chs ((n, v) :: ws) bg := by unfold todo; rw [List.length_cons]; omega
      exact ⟨⟨kw, g, by omega, eq⟩, t2⟩
    | ok cl =>
      rw [hw] at eq
      intro hl
      obtain ⟨wl, wk⟩ := walk_ok hw (fun _ m => by cases m)
      have t2 : todo chs (ws ++ cl) (bg ++ [(n, v)]) < todo chs ((n, v) :: ws) bg := by
        unfold todo
        rw [List.length_append, List.length_cons]
        have : cl.length ≤ 22 := by simpa using Nat.le_trans wl (by simpa using hl)
        omega
      exact ⟨⟨fun q m => (List.mem_append.mp m).elim (kw q) (wk q), g, by omega, eq⟩, by simpa using Nat.le_trans wl (by simpa using hl), t2⟩
theorem todo_le (chs : List Ch) : todo chs [(0, 0)] [] ≤ 1 + 23 * chs.length := by
  have := List.length_filter_le (fun ch : Ch => (lookB [] ch.n).isNone) chs
  unfold todo leftB
  rw [List.length_singleton]
  omega

section
variable {P : Program} {w : World} {K : PySem.W.Frag} {mg : Str → Option Value} {base : Heap} {c : Cs}
def IsFl (H : Hp) (v : V) (q : Fl) : Prop := ∃ a, v = .ref a ∧ H a = some (.tup [.int q.1, .int q.2.1, .str q.2.2])
theorem IsFl.same {H H' : Hp} {v : V} {q : Fl} (h : IsFl H v q) (s : Same H H') : IsFl H' v q := by
  obtain ⟨a, e, h⟩ := h; exact ⟨a, e, s _ _ h⟩
theorem IsFl.upd {H : Hp} {v : V} {q : Fl} {p : Addr} {o o2 : HO} (h : IsFl H v q) (e : H p = some o2) (ne : ∀ xs, o2 ≠ .tup xs) : IsFl (L2.upd H p o) v q := by
  obtain ⟨a, rfl, h1⟩ := h
  exact ⟨a, rfl, by rw [upd_ne (fun z => by rw [z, e] at h1; exact ne _ (Option.some.inj h1))]; exact h1⟩
def bgK (bg : List (Int × Int)) : List (Key × V) := bg.map fun q => (.inl q.1, .int q.2)
theorem bgK_get : ∀ (bg : List (Int × Int)) (n : Int), valV (bgK bg) (.inl n : Key) = (lookB bg n).map V.int
  | [], _ => rfl
  | (a, b) :: bg, n => by
    have i := bgK_get bg n
    unfold valV lookB at i ⊢
    unfold bgK at i ⊢
    rw [List.map_cons]
    by_cases e : a = n
    · rw [List.find?_cons_of_pos (by simpa using e), List.find?_cons_of_pos (by simpa using e)]; rfl
    · rw [List.find?_cons_of_neg (by simpa using e), List.find?_cons_of_neg (by simpa using e)]; exact i
theorem bgK_put {bg : List (Int × Int)} {n v : Int} (h : lookB bg n = none) : putK (bgK bg) (.inl n : Key) (.int v) = bgK (bg ++ [(n, v)]) := by
  unfold putK
  rw [if_neg]
  · unfold bgK; rw [List.map_append]; rfl
  · intro z
    obtain ⟨kv, m, e⟩ := List.any_eq_true.mp z
    obtain ⟨q, mq, rfl⟩ := List.mem_map.mp m
    unfold lookB at h
    have h := List.find?_eq_none.mp (Option.map_eq_none_iff.mp h) q mq
    simp at h e
    exact h e
structure AS (H0 H : Hp) (F B wl : Addr) (ws bg : List (Int × Int)) (fl : List Fl) : Prop where
  sm : Same H0 H
  n1 : H0 F = none
  n2 : H0 B = none
  n3 : H0 wl = none
  ne : F ≠ wl
  f : ∃ fs, H F = some (.lst fs) ∧ Paired (IsFl H) fs fl
  b : H B = some (.dK (bgK bg))
  w : ∃ vs, H wl = some (.lst vs) ∧ Paired (IsPr H) vs ws
theorem AS.same {H0 H H' : Hp} {F B wl : Addr} {ws bg : List (Int × Int)} {fl : List Fl} (A : AS H0 H F B wl ws bg fl) (s : Same H H') : AS H0 H' F B wl ws bg fl := by
  obtain ⟨h1, h2, h3, h4, h5, ⟨fs, h6, h7⟩, h8, ⟨vs, h9, h10⟩⟩ := A
  exact ⟨h1.trans s, h2, h3, h4, h5, ⟨fs, s _ _ h6, Paired.mapP h7 fun _ _ h => h.same s⟩, s _ _ h8, ⟨vs, s _ _ h9, Paired.mapP h10 fun _ _ h => h.same s⟩⟩
theorem AS.addF {H0 H : Hp} {F B wl : Addr} {ws bg : List (Int × Int)} {fl : List Fl} {fs : List V} {v : V} {q : Fl} (A : AS H0 H F B wl ws bg fl) (e : H F = some (.lst fs)) (hv : IsFl H v q) : AS H0 (upd H F (.lst (fs ++ [v]))) F B wl ws bg (fl ++ [q]) := by
  obtain ⟨h1, h2, h3, h4, h5, ⟨fs', h6, h7⟩, h8, ⟨vs, h9, h10⟩⟩ := A
  cases e.symm.trans h6
  refine ⟨sm_upd h1 h2, h2, h3, h4, h5, ⟨_, upd_same, paired_snoc (Paired.mapP h7 fun _ _ h => h.upd e (fun _ z => by cases z)) (hv.upd e (fun _ z => by cases z))⟩, by rw [upd_ne (fun z => by rw [z, e] at h8; cases h8)]; exact h8, ⟨vs, by rw [upd_ne (fun z => h5 z.symm)]; exact h9, Paired.mapP h10 fun _ _ h => h.upd e (fun _ z => by cases z)⟩⟩
theorem AS.addB {H0 H : Hp} {F B wl : Addr} {ws bg bg' : List (Int × Int)} {fl : List Fl} (A : AS H0 H F B wl ws bg fl) : AS H0 (upd H B (.dK (bgK bg'))) F B wl ws bg' fl := by
  obtain ⟨h1, h2, h3, h4, h5, ⟨fs, h6, h7⟩, h8, ⟨vs, h9, h10⟩⟩ := A
  exact ⟨sm_upd h1 h3, h2, h3, h4, h5, ⟨fs, by rw [upd_ne (fun z => by rw [z, h8] at h6; cases h6)]; exact h6, Paired.mapP h7 fun _ _ h => h.upd h8 (fun _ z => by cases z)⟩, upd_same, ⟨vs, by rw [upd_ne (fun z => by rw [z, h8] at h9; cases h9)]; exact h9, Paired.mapP h10 fun _ _ h => h.upd h8 (fun _ z => by cases z)⟩⟩
theorem paired_app {α β : Type} {F : α → β → Prop} {xs2 : List α} {ys2 : List β} : ∀ {xs : List α} {ys : List β}, Paired F xs ys → Paired F xs2 ys2 → Paired F (xs ++ xs2) (ys ++ ys2)
  | _, _, .nil, h => h
  | _, _, .cons a t, h => .cons a (paired_app t h)
theorem AS.addW {H0 H : Hp} {F B wl : Addr} {ws bg cl : List (Int × Int)} {fl : List Fl} {vs qs : List V} (A : AS H0 H F B wl ws bg fl) (e : H wl = some (.lst vs)) (hq : Paired (IsPr H) qs cl) : AS H0 (upd H wl (.lst (vs ++ qs))) F B wl (ws ++ cl) bg fl := by
  obtain ⟨h1, h2, h3, h4, h5, ⟨fs, h6, h7⟩, h8, ⟨vs', h9, h10⟩⟩ := A
  cases e.symm.trans h9
  refine ⟨sm_upd h1 h4, h2, h3, h4, h5, ⟨fs, by rw [upd_ne h5]; exact h6, Paired.mapP h7 fun _ _ h => h.upd e (fun _ z => by cases z)⟩, by rw [upd_ne (fun z => by rw [z, e] at h8; cases h8)]; exact h8, ⟨_, upd_same, Paired.mapP (paired_app h10 hq) fun _ _ h => h.upd e (fun _ z => by cases z)⟩⟩
/-- a new list in the place of the waiting one -/
theorem AS.newW {H0 H : Hp} {F B wl wl' : Addr} {ws ws' bg : List (Int × Int)} {fl : List Fl} {vs : List V} (A : AS H0 H F B wl ws bg fl) (n : H0 wl' = none) (ne : F ≠ wl') (e : H wl' = some (.lst vs)) (hp : Paired (IsPr H) vs ws') : AS H0 H F B wl' ws' bg fl :=
  ⟨A.sm, A.n1, A.n2, n, ne, A.f, A.b, ⟨vs, e, hp⟩⟩
theorem cut1 (x : V) (xs : List V) : cutV (x :: xs) (some 1) none = xs := by
  unfold cutV HT.sIx
  simp
def spAll (c : Cs) : Sp := fun vs H Q _ => match vs with
  | [.ref cl] => ∃ xs chs, H cl = some (.lst xs) ∧ Paired (IsCh c H) xs chs ∧ chs.length ≤ 6 ∧ (∀ ch ∈ chs, ch.rows.length ≤ 22) ∧ firstC chs 0 ≠ none ∧ ∀ p H' fs, H p = none → Same H H' → H' p = some (.lst fs) → Paired (IsFl H') fs (flawsQ chs) → Q (.ref p) H'
  | _ => False
def AllW (H0 : Hp) (cl F B : Addr) (chs : List Ch) (R : List Fl) (m : Nat) (σ : L2.St) (H : Hp) : Prop := ∃ wl ws bg fl v4 v5 v6 v7, σ = [some (.ref cl), some (.ref F), some (.ref B), some (.ref wl), v4, v5, v6, v7] ∧ AS H0 H F B wl ws bg fl ∧ QI chs ws bg fl R ∧ m = todo chs ws bg ∧ fl.length + todo chs ws bg ≤ 139 ∧ bg.length + todo chs ws bg ≤ 139
set_option maxHeartbeats 4000000 in
theorem ok_all (A : At K mg "check_all" "check_all" s_check_all ["chunks"]) (T : Txt K mg c) (H_first_chunk : Has P w K mg base CX0 "first_chunk" 1 ["chunks", "number"] (spFirst c)) (M_Check : HasC P w K mg base CX0 c.Check "Check" 3 ["self", "chunks", "chunk", "variables"] (spMkCheck c)) (M_Check_run : HasM P w K mg base CX0 c.Check "run" 6 ["self"] (spRun c)) : Has P w K mg base CX0 "check_all" 7 ["chunks"] (spAll c) := by
  have Sc := sc_check_all
  refine has_of A Sc (fun vs H Q E h => ?_) (fun cdv f A outer s H vs Q E hr h => ?_)
  · unfold spAll at h; split at h; rfl; cases h
  · unfold spAll at h
    split at h
    · rename_i cl
      obtain ⟨xs, chs, hcl, hxs, hc6, hr22, h0, h⟩ := h
      refine ⟨_, (pss_cons (ps_set (i := 1) Sc.nd rfl (.inl rfl) (fe_lst pa_nil))
      (pss_cons (ps_set (i := 2) Sc.nd rfl (.inl rfl) fe_dnew)
      (pss_cons (ps_set (i := 3) Sc.nd rfl (.inl rfl) (fe_lst (pa_cons (fe_tup (pa_cons pe_int (pa_cons pe_int pa_nil))) pa_nil)))
      (pss_cons (ps_while PassesOwn.never (pt_fTru (fe_var 3) (fun _ => rfl)) (pss_cons (ps_asg (pe_ix ix_fx (fe_var 3) pe_int (fun _ _ => rfl)) (pg_tup (n := 2) rfl (pgs_cons (pg_name (i := 4) Sc.nd rfl (.inl rfl)) (pgs_cons (pg_name (i := 5) Sc.nd rfl (.inl rfl)) pgs_nil))))
      (pss_cons (ps_set (i := 3) Sc.nd rfl (.inl rfl) (pe_slice sl_fx (fe_var 3) (po_some pe_int) po_none))
      (pss_cons (ps_if (pt_cmp (pc_din (hu_of hr) (fe_var 4) (fe_var 2))) (pss_cons (ps_if (pt_cmpR (op_fNe hr.units) (pe_dget (hu_of hr) (fe_var 2) (fe_var 4) (fun _ _ => rfl)) (fe_var 5) (nomark _)) (pss_one (ps_expr (fe_bm PySem.F.plainAttrs_list PySem.F.slot_list_append PySem.F.type_list_append isLst_ty mt_fAppend (fe_var 1) (pa_cons (fe_tup (pa_cons (fe_var 4) (pa_cons pe_int (pa_cons pe_str pa_nil)))) pa_nil)))) pss_nil)
      (pss_one ps_continue)) pss_nil)
      (pss_cons (ps_dput (hu_of hr) (fe_var 2) (fe_var 4) (fe_var 5) rfl)
      (pss_cons (ps_set (i := 6) Sc.nd rfl (.inl rfl) (fe_make (k := _) M_Check (hr.mono (by walk_at "rm")) (by rfl) pass0 (pa_cons (fe_var 0) (pa_cons (fe_call H_first_chunk (hr.mono (by walk_at "rm")) (by rfl) pass0 (pa_cons (fe_var 0) (pa_cons (fe_var 4) pa_nil))) (pa_cons (fe_var 5) pa_nil)))))
      (pss_cons (ps_set (i := 7) Sc.nd rfl (.inl rfl) (fe_meth0 M_Check_run T.cl_Check (hr.mono (by walk_at "rm")) pass0 (fe_var 6)))
      (pss_one (ps_if (pt_cmpR op_fIsN (fe_var 7) pe_non (nomark _)) (pss_one (ps_expr (fe_bm PySem.F.plainAttrs_list PySem.F.slot_list_extend PySem.F.type_list_extend isLst_ty mt_fExtend (fe_var 3) (pa_cons (fe_fld (fe_var 6) T.pl_closures rfl) pa_nil)))) (pss_one (ps_expr (fe_bm PySem.F.plainAttrs_list PySem.F.slot_list_append PySem.F.type_list_append isLst_ty mt_fAppend (fe_var 1) (pa_cons (fe_tup (pa_cons (fe_var 4) (pa_cons (pe_ix ix_fx (fe_var 7) pe_int (fun _ _ => rfl)) (pa_cons (pe_ix ix_fx (fe_var 7) pe_int (fun _ _ => rfl)) pa_nil)))) pa_nil)))))))))))))
      (pss_one (ps_ret (fe_var 1))))))), ?_⟩
      walk_at "fx0"
      simp only [tSeq]
      refine cut_ fun N hN => ?_
      repeat (walk_at "oxs")
      intro F H1 nF s1 eF
      refine hN _ _ ?_
      clear hN N
      simp only [tSeq]
      refine cut_ fun N hN => ?_
      repeat (walk_at "oxs")
      intro B H2 nB s2 eB
      refine hN _ _ ?_
      clear hN N
      simp only [tSeq]
      refine cut_ fun N hN => ?_
      repeat (walk_at "oxs")
      intro pr H3 npr s3 epr wl H4 nwl s4 ewl
      refine hN _ _ ?_
      clear hN N
      have A0 : AS H H4 F B wl [(0, 0)] [] [] := by
        have s34 := s3.trans s4
        refine ⟨(s1.trans s2).trans s34, nF, s1.free nB, (s1.trans (s2.trans s3)).free nwl, fun z => ?_, ⟨[], s34 _ _ (s2 _ _ eF), .nil⟩, s34 _ _ eB, ⟨_, ewl, .cons ⟨pr, rfl, s4 _ _ epr⟩ .nil⟩⟩
        rw [← z, s3 _ _ (s2 _ _ eF)] at nwl; cases nwl
      simp only [tSeq]
      refine cut_ fun N hN => ?_
      have t0 := todo_le chs
      generalize hR : flawsQ chs = R at h
      refine ⟨AllW H cl F B chs R, ⟨_, wl, _, _, _, _, _, _, _, rfl, A0, ⟨fun q m => ?_, 400, by omega, hR.symm⟩, rfl, by simp; omega, by simp; omega⟩, ?_⟩
      · rw [List.mem_singleton.mp m]; exact h0
      rintro m σ H5 ⟨wl, ws, bg, fl, v4, v5, v6, v7, rfl, A5, QQ, rfl, l1, l2⟩
      obtain ⟨vs, hvs, hws⟩ := id A5.w
      repeat (first | walk_at "oxs" | simp only [hvs])
      refine ⟨_, rl_l hvs, ?_⟩
      cases hws with
      | nil =>
        rw [if_neg (by decide)]
        obtain ⟨fs, hf, hfs⟩ := A5.f
        refine hN _ _ ?_
        repeat (first | walk_at "oxs")
        rw [QQ.done] at h
        exact h F H5 fs nF A5.sm hf hfs
      | cons hx ht =>
        rename_i x q vs ws
        rw [if_pos (by rfl)]
        obtain ⟨n, v⟩ := q
        obtain ⟨xa, rfl, hxa⟩ := id hx
        have st := QQ.step
        refine ⟨fun σ' H' => ∃ m', m' < todo chs ((n, v) :: ws) bg ∧ AllW H cl F B chs R m' σ' H', fun _ _ h => h, ?_⟩
        repeat (first | walk_at "oxs" | simp only [hvs])
        refine ⟨_, rl_l hvs, _, at0, _, rfl, _, SqT.of hxa, rfl, _, _, rfl, _, _, rfl, rfl, _, SqL.of hvs, fun wl2 H6 nw2 s6 ew2 => ?_⟩
        rw [cut1] at ew2
        obtain ⟨fs5, hf5, hfs5⟩ := A5.f
        have A6 := (A5.same s6).newW (A5.sm.free nw2) (fun z => by rw [← z, hf5] at nw2; cases nw2) ew2 (Paired.mapP ht fun _ _ h => h.same s6)
        have hg : DGet H6 B (.int n) ((lookB bg n).map V.int) := .inl ⟨bgK bg, .inl n, .inl A6.b, rfl, (bgK_get bg n).symm⟩
        repeat (first | walk_at "oxs" | simp only [tDIn, tDGet])
        cases hb : lookB bg n with
        | some v' =>
          rw [hb] at st hg
          dsimp only at st
          refine ⟨_, hg, ?_⟩
          rw [if_pos (by rfl)]
          repeat (first | walk_at "oxs" | simp only [tDIn, tDGet])
          refine ⟨.int v', hg, ?_⟩
          repeat (first | walk_at "oxs" | simp only [tDIn, tDGet])
          have tt : todo chs ((n, v) :: ws) bg = todo chs ws bg + 1 := by unfold todo; rw [List.length_cons]; omega
          by_cases ev : v' = v
          · rw [if_neg (fun z => z ev)]
            rw [if_pos ev] at st
            exact ⟨_, by omega, wl2, ws, bg, fl, _, _, _, _, rfl, A6, st, rfl, by omega, by omega⟩
          · rw [if_pos ev]
            rw [if_neg ev] at st
            obtain ⟨fs, hf, hfs⟩ := A6.f
            have lf : fs.length = fl.length := Paired.length hfs
            repeat (first | walk_at "oxs" | simp only [hf])
            intro q H7 nq s7 eq
            have hf7 := s7 _ _ hf
            repeat (first | walk_at "oxs" | simp only [hf7])
            refine ⟨by rw [sizeLine_eq]; omega, _, ?_, wl2, ws, bg, fl ++ [mkF n 0 "made in different scopes"], _, _, _, _, rfl, (A6.same s7).addF hf7 ⟨q, rfl, eq⟩, st, rfl, ?_, by omega⟩
            · omega
            · rw [List.length_append, List.length_singleton]; omega
        | none =>
          rw [hb] at st hg
          dsimp only at st
          obtain ⟨ch, hc, st⟩ := st
          refine ⟨_, hg, ?_⟩
          rw [if_neg (by decide)]
          repeat (first | walk_at "oxs" | simp only [tDIn, tDGet])
          repeat (first | walk_at "oxs" | simp only [sDPut])
          have lbg : (bgK bg).length = bg.length := List.length_map ..
          refine ⟨_, .inl ⟨bgK bg, .inl n, A6.b, rfl, by rw [sizeLine_eq]; omega, rfl⟩, ?_⟩
          rw [bgK_put hb]
          have A7 := A6.addB (bg' := bg ++ [(n, v)])
          generalize upd H6 B (.dK (bgK (bg ++ [(n, v)]))) = H7 at A7 ⊢
          repeat (first | walk_at "oxs")
          refine ⟨xs, chs, A7.sm _ _ hcl, Paired.mapP hxs fun _ _ h => IsCh.same h A7.sm, fun H8 s8 => ?_⟩
          have A8 := A7.same s8
          rw [hc]
          dsimp only
          intro cv hcv y sd cq rl p0 v0 H9 C9 hp0 hv0
          obtain ⟨dx9, hy9⟩ := C9.ck
          repeat (first | walk_at "oxs" | simp only [hy9])
          refine ⟨H8, cl, cv, sd, cq, rl, xs, chs, ch, v, p0, v0, C9, A8.sm _ _ hcl, Paired.mapP hxs fun _ _ h => IsCh.same h A8.sm, hcv, hp0, hv0, by have := hr22 ch (List.mem_of_find?_eq_some hc); omega, ?_⟩
          have lcc : (bg ++ [(n, v)]).length = bg.length + 1 := by rw [List.length_append]; rfl
          cases hw : walkP chs ch.rows 0 0 v [] with
          | flaw a m =>
            rw [hw] at st
            dsimp only at st ⊢
            obtain ⟨Q2, tt⟩ := st
            intro p H10 s10 ep
            have A10 := A8.same s10
            obtain ⟨fs, hf, hfs⟩ := A10.f
            have lf : fs.length = fl.length := Paired.length hfs
            repeat (first | walk_at "oxs" | simp only [hf])
            refine ⟨_, rl_t ep, _, rfl, _, rl_t ep, _, rfl, ?_⟩
            intro q H11 nq s11 eq
            have hf11 := s11 _ _ hf
            repeat (first | walk_at "oxs" | simp only [hf11])
            refine ⟨by rw [sizeLine_eq]; omega, _, ?_, wl2, ws, bg ++ [(n, v)], fl ++ [mkF n a m], _, _, _, _, rfl, (A10.same s11).addF hf11 ⟨q, rfl, eq⟩, Q2, rfl, ?_, by omega⟩
            · omega
            · rw [List.length_append, List.length_singleton]; omega
          | ok cl2 =>
            rw [hw] at st
            dsimp only at st ⊢
            obtain ⟨Q2, lcl, tt⟩ := st (hr22 ch (List.mem_of_find?_eq_some hc))
            intro H10 qs ⟨dx10, hy10⟩ s10 hq hqs
            have A10 := A8.same s10
            obtain ⟨vs10, hv10, hws10⟩ := A10.w
            have lw : vs10.length = ws.length := Paired.length hws10
            have lq : qs.length = cl2.length := Paired.length hqs
            have tws : ws.length ≤ todo chs ((n, v) :: ws) bg := by unfold todo; rw [List.length_cons]; omega
            repeat (first | walk_at "oxs" | simp only [hv10, hy10, hq])
            refine ⟨by rw [sizeLine_eq]; omega, _, ?_, wl2, ws ++ cl2, bg ++ [(n, v)], fl, _, _, _, _, rfl, A10.addW hv10 hqs, Q2, rfl, by omega, by omega⟩
            omega
    · cases h
end

section
variable {P : Program} {w : World} {K : PySem.W.Frag} {mg : Str → Option Value} {base : Heap} {c : Cs}
def dupsP : List Ch → List Int → List Fl
  | [], _ => []
  | ch :: r, kn => (if ch.n ∈ kn then [mkF ch.n 0 "two functions have this number"] else []) ++ dupsP r (kn ++ [ch.n])
def restP (chs : List Ch) : List Fl := match firstC chs 0 with
  | none => [mkF 0 0 "no such function"]
  | some ch => if ch.w = 0 then flawsQ chs else [mkF 0 0 "another number of parameters"]
def flawsP (chs : List Ch) : List Fl := dupsP chs [] ++ restP chs
theorem dups_len : ∀ (chs : List Ch) (kn : List Int), (dupsP chs kn).length ≤ chs.length
  | [], _ => Nat.le_refl _
  | ch :: r, kn => by
    have i := dups_len r (kn ++ [ch.n])
    unfold dupsP
    rw [List.length_append, List.length_cons]
    split <;> simp <;> omega
theorem valV_put (kvs : List (Key × V)) (k k' : Key) (v : V) : (valV (putK kvs k v) k').isSome = (decide (k = k') || (valV kvs k').isSome) := by
  unfold valV putK
  simp only [Option.isSome_map]
  split
  · rename_i h
    induction kvs with
    | nil => simp at h
    | cons x kvs ih =>
      rw [List.map_cons, List.find?_cons, List.find?_cons]
      by_cases e : x.1 = k
      · by_cases e2 : x.1 = k'
        · subst e
          simp [e2]
        · have hkv : ¬ k = k' := fun z => e2 (e.trans z)
          simp only [e, if_true, hkv, decide_false, Bool.false_or]
          by_cases hh : (kvs.any fun kv => decide (kv.1 = k)) = true
          · have i := ih hh
            simp only [hkv, decide_false, Bool.false_or] at i
            exact i
          · have hm : (kvs.map fun kv => if kv.1 = k then (kv.1, v) else kv) = kvs := by
              have : ∀ kv ∈ kvs, (if kv.1 = k then (kv.1, v) else kv) = kv := fun kv m => by
                rw [if_neg (fun z => hh (List.any_eq_true.mpr ⟨kv, m, by simpa using z⟩))]
              rw [List.map_congr_left (g := fun x => x) this]
              simp
            rw [hm]
      · have hh : (kvs.any fun kv => decide (kv.1 = k)) = true := by simpa [e] using h
        have i := ih hh
        simp only [e, if_false]
        by_cases e2 : x.1 = k'
        · simp [e2]
        · simp only [e2, decide_false]
          exact i
  · rw [List.find?_append]
    cases kvs.find? fun kv => decide (kv.1 = k') with
    | some x => simp
    | none => by_cases e : k = k' <;> simp [e]
theorem put_len (kvs : List (Key × V)) (k : Key) (v : V) : (putK kvs k v).length ≤ kvs.length + 1 := by
  unfold putK
  split
  · rw [List.length_map]; omega
  · rw [List.length_append]; exact Nat.le_refl _
theorem queue_len (chs : List Ch) : ∀ (f : Nat) (ws bg : List (Int × Int)) (fl : List Fl), (queueP chs f ws bg fl).length ≤ fl.length + f
  | 0, _, _, _ => Nat.le_refl _
  | _ + 1, [], _, _ => by unfold queueP; omega
  | f + 1, (n, v) :: ws, bg, fl => by
    unfold queueP
    split
    · split
      · have := queue_len chs f ws bg fl; omega
      · have := queue_len chs f ws bg (fl ++ [mkF n 0 "made in different scopes"]); rw [List.length_append, List.length_singleton] at this; omega
    · split
      · omega
      · split
        · have := queue_len chs f ws (bg ++ [(n, v)]) (fl ++ [mkF n ‹Nat› ‹Str›]); rw [List.length_append, List.length_singleton] at this; omega
        · rename_i cl _
          have := queue_len chs f (ws ++ cl) (bg ++ [(n, v)]) fl; omega
def spFlaws (c : Cs) : Sp := fun vs H Q _ => match vs with
  | [.ref cl] => ∃ xs chs, H cl = some (.lst xs) ∧ Paired (IsCh c H) xs chs ∧ chs.length ≤ 6 ∧ (∀ ch ∈ chs, ch.rows.length ≤ 22) ∧ ∀ p H' fs, H p = none → Same H H' → H' p = some (.lst fs) → Paired (IsFl H') fs (flawsP chs) → Q (.ref p) H'
  | _ => False
def DupI (H0 : Hp) (cl F D : Addr) (chs : List Ch) (i : Nat) (σ : L2.St) (H : Hp) : Prop := ∃ fs fl kvs kn v3 v4, σ = [some (.ref cl), some (.ref F), some (.ref D), v3, v4] ∧ Same H0 H ∧ H0 F = none ∧ H0 D = none ∧ H F = some (.lst fs) ∧ Paired (IsFl H) fs fl ∧ H D = some (.dK kvs) ∧ kvs.length ≤ i ∧ (∀ n : Int, (valV kvs (.inl n : Key)).isSome = decide (n ∈ kn)) ∧ dupsP chs [] = fl ++ dupsP (chs.drop i) kn ∧ fl.length ≤ i
set_option maxHeartbeats 4000000 in
theorem ok_flaws (A : At K mg "flaws_of" "flaws_of" s_flaws_of ["chunks"]) (T : Txt K mg c) (H_first_chunk : Has P w K mg base CX0 "first_chunk" 1 ["chunks", "number"] (spFirst c)) (H_check_all : Has P w K mg base CX0 "check_all" 7 ["chunks"] (spAll c)) : Has P w K mg base CX0 "flaws_of" 8 ["chunks"] (spFlaws c) := by
  have Sc := sc_flaws_of
  refine has_of A Sc (fun vs H Q E h => ?_) (fun cdv f A outer s H vs Q E hr h => ?_)
  · unfold spFlaws at h; split at h; rfl; cases h
  · unfold spFlaws at h
    split at h
    · rename_i cl
      obtain ⟨xs, chs, hcl, hxs, hc6, hr22, h⟩ := h
      have lx : xs.length = chs.length := Paired.length hxs
      refine ⟨_, (pss_cons (ps_set (i := 1) Sc.nd rfl (.inl rfl) (fe_lst pa_nil))
      (pss_cons (ps_set (i := 2) Sc.nd rfl (.inl rfl) fe_dnew)
      (pss_cons (ps_for PassesOwn.never rfl (pi_list (fe_var 0)) (pg_name (i := 3) Sc.nd rfl (.inl rfl)) (pss_cons (ps_if (pt_cmp (pc_din (hu_of hr) (fe_fld (fe_var 3) T.pl_number rfl) (fe_var 2))) (pss_one (ps_expr (fe_bm PySem.F.plainAttrs_list PySem.F.slot_list_append PySem.F.type_list_append isLst_ty mt_fAppend (fe_var 1) (pa_cons (fe_tup (pa_cons (fe_fld (fe_var 3) T.pl_number rfl) (pa_cons pe_int (pa_cons pe_str pa_nil)))) pa_nil)))) pss_nil)
      (pss_one (ps_dput (hu_of hr) (fe_var 2) (fe_fld (fe_var 3) T.pl_number rfl) pe_bl rfl))))
      (pss_cons (ps_set (i := 4) Sc.nd rfl (.inl rfl) (fe_call H_first_chunk (hr.mono (by walk_at "rm")) (by rfl) pass0 (pa_cons (fe_var 0) (pa_cons pe_int pa_nil))))
      (pss_cons (ps_if (pt_cmpR op_fIsN (fe_var 4) pe_non (nomark _)) (pss_one (ps_expr (fe_bm PySem.F.plainAttrs_list PySem.F.slot_list_append PySem.F.type_list_append isLst_ty mt_fAppend (fe_var 1) (pa_cons (fe_tup (pa_cons pe_int (pa_cons pe_int (pa_cons pe_str pa_nil)))) pa_nil)))) (pss_one (ps_if (pt_cmpR (op_fNe hr.units) (fe_fld (fe_var 4) T.pl_wanted rfl) pe_int (nomark _)) (pss_one (ps_expr (fe_bm PySem.F.plainAttrs_list PySem.F.slot_list_append PySem.F.type_list_append isLst_ty mt_fAppend (fe_var 1) (pa_cons (fe_tup (pa_cons pe_int (pa_cons pe_int (pa_cons pe_str pa_nil)))) pa_nil)))) (pss_one (ps_expr (fe_bm PySem.F.plainAttrs_list PySem.F.slot_list_extend PySem.F.type_list_extend isLst_ty mt_fExtend (fe_var 1) (pa_cons (fe_call H_check_all (hr.mono (by walk_at "rm")) (by rfl) pass0 (pa_cons (fe_var 0) pa_nil)) pa_nil)))))))
      (pss_one (ps_ret (fe_var 1)))))))), ?_⟩
      walk_at "fx0"
      simp only [tSeq]
      refine cut_ fun N hN => ?_
      repeat (walk_at "oxs")
      intro F H1 nF s1 eF
      refine hN _ _ ?_
      clear hN N
      simp only [tSeq]
      refine cut_ fun N hN => ?_
      repeat (walk_at "oxs")
      intro D H2 nD s2 eD
      refine hN _ _ ?_
      clear hN N
      simp only [tSeq]
      refine cut_ fun N hN => for_ ?_
      repeat (walk_at "oxs")
      have hcl2 := s2 _ _ (s1 _ _ hcl)
      refine ⟨⟨_, SqL.of hcl2⟩, ?_⟩
      refine loop_list xs (DupI H cl F D chs) ⟨[], [], [], [], _, _, rfl, s1.trans s2, nF, s1.free nD, s2 _ _ eF, .nil, eD, Nat.le_refl _, fun n => rfl, rfl, Nat.le_refl _⟩ (fun i σ H' _ h => ?_) (fun i x σ H' hx h' => ?_) fun σ H' h' => ?_
      · obtain ⟨_, _, _, _, _, _, rfl, s3, _⟩ := h
        exact SqL.of (s3 _ _ hcl)
      · obtain ⟨fs, fl, kvs, kn, v3, v4, rfl, s3, n1, n2, hF, hfs, hD, hk, hkn, hd, hl⟩ := h'
        obtain ⟨ch, ec, hch⟩ := paired_get hxs hx
        obtain ⟨y, dx, p, q, vs, rfl, g1, g2, g3⟩ := hch.same s3
        have hdr : chs.drop i = ch :: chs.drop (i + 1) := by rw [List.drop_eq_getElem?_toList_append, ec]; rfl
        have hdu : dupsP (chs.drop i) kn = (if ch.n ∈ kn then [mkF ch.n 0 "two functions have this number"] else []) ++ dupsP (chs.drop (i + 1)) (kn ++ [ch.n]) := by rw [hdr]; rfl
        rw [hdu] at hd
        have lf : fs.length = fl.length := Paired.length hfs
        have hi : i < xs.length := (List.getElem?_eq_some_iff.mp hx).1
        simp only [gName, List.set_cons_succ, List.set_cons_zero]
        simp only [tSeq]
        refine cut_ fun N1 hN1 => ?_
        have rest : ∀ H9 fs9 fl9, Same H H9 → H9 F = some (.lst fs9) → Paired (IsFl H9) fs9 fl9 → H9 D = some (.dK kvs) → H9 y = some (.ins c.Chunk dx [("number", .int ch.n), ("wanted", .int ch.w), ("rows", .ref p), ("scopes", .ref q)]) → dupsP chs [] = fl9 ++ dupsP (chs.drop (i + 1)) (kn ++ [ch.n]) → fl9.length ≤ i + 1 → N1 [some (.ref cl), some (.ref F), some (.ref D), some (.ref y), v4] H9 := by
          intro H9 fs9 fl9 s9 hF9 hfs9 hD9 g9 hd9 hl9
          refine hN1 _ _ ?_
          repeat (first | walk_at "oxs" | simp only [g9] | simp only [sDPut])
          refine ⟨_, .inl ⟨kvs, .inl ch.n, hD9, rfl, by rw [sizeLine_eq]; omega, rfl⟩, ?_⟩
          have nFD : F ≠ D := fun z => by rw [z, hD9] at hF9; cases hF9
          have pl := put_len kvs (.inl ch.n) (.bl true)
          refine ⟨fs9, fl9, _, kn ++ [ch.n], _, _, rfl, sm_upd s9 n2, n1, n2, by rw [upd_ne nFD]; exact hF9, Paired.mapP hfs9 fun _ _ h => h.upd hD9 (fun _ z => by cases z), upd_same, by omega, fun n => ?_, hd9, hl9⟩
          rw [valV_put, hkn]
          by_cases e : ch.n = n
          · simp [e]
          · have e2 : ¬ n = ch.n := fun z => e z.symm
            simp [e, e2]
        have hg : DGet H' D (.int ch.n) (valV kvs (.inl ch.n : Key)) := .inl ⟨kvs, .inl ch.n, .inl hD, rfl, rfl⟩
        repeat (first | walk_at "oxs" | simp only [g1] | simp only [tDIn])
        refine ⟨_, hg, ?_⟩
        rw [hkn]
        by_cases hm : ch.n ∈ kn
        · rw [if_pos (by simpa using hm)]
          rw [if_pos hm] at hd
          simp only [hF, true_and]
          intro q2 H4 nq s4 eq
          have hF4 := s4 _ _ hF
          simp only [hF4]
          refine ⟨by rw [sizeLine_eq]; omega, ?_⟩
          refine rest _ _ (fl ++ [mkF ch.n 0 "two functions have this number"]) (sm_upd (s3.trans s4) n1) upd_same ?_ (by rw [upd_ne (fun z => by rw [z, hF] at hD; cases hD)]; exact s4 _ _ hD) (by rw [upd_ne (fun z => by rw [z, hF] at g1; cases g1)]; exact s4 _ _ g1) (by rw [hd, List.append_assoc]) (by rw [List.length_append, List.length_singleton]; omega)
          exact paired_snoc (Paired.mapP hfs fun _ _ h => (h.same s4).upd hF4 (fun _ z => by cases z)) (IsFl.upd ⟨q2, rfl, eq⟩ hF4 (fun _ z => by cases z))
        · rw [if_neg (by simpa using hm)]
          rw [if_neg hm, List.nil_append] at hd
          exact rest H' fs fl s3 hF hfs hD g1 hd (by omega)
      · obtain ⟨fs, fl, kvs, kn, v3, v4, rfl, s3, n1, n2, hF, hfs, hD, hk, hkn, hd, hl⟩ := h'
        refine hN _ _ ?_
        clear hN N
        repeat (walk_at "oxs")
        have hdn : dupsP chs [] = fl := by
          rw [hd, lx, List.drop_eq_nil_of_le (Nat.le_refl _)]
          exact List.append_nil _
        have lf : fs.length = fl.length := Paired.length hfs
        have out : ∀ H4 q2 (f : Fl), Same H' H4 → IsFl H4 (.ref q2) f → flawsP chs = fl ++ [f] → Q (.ref F) (upd H4 F (.lst (fs ++ [.ref q2]))) := fun H4 q2 f s4 hf e => by
          have hF4 := s4 _ _ hF
          refine h F _ (fs ++ [.ref q2]) n1 (sm_upd (s3.trans s4) n1) upd_same ?_
          rw [e]
          exact paired_snoc (Paired.mapP hfs fun _ _ h => (h.same s4).upd hF4 (fun _ z => by cases z)) (hf.upd hF4 (fun _ z => by cases z))
        refine ⟨xs, chs, s3 _ _ hcl, Paired.mapP hxs fun _ _ h => h.same s3, fun H3 s4 => ?_⟩
        have hF3 := s4 _ _ hF
        cases e0 : firstC chs 0 with
        | none =>
          have e1 : flawsP chs = fl ++ [mkF 0 0 "no such function"] := by unfold flawsP restP; rw [e0, hdn]
          dsimp only
          repeat (first | walk_at "oxs" | simp only [hF3])
          intro q2 H4 nq s5 eq
          simp only [s5 _ _ hF3]
          exact ⟨by rw [sizeLine_eq]; omega, out _ q2 _ (s4.trans s5) ⟨q2, rfl, eq⟩ e1⟩
        | some ch =>
          dsimp only
          intro v hv
          obtain ⟨y, dx, p, q, vs, rfl, g1, g2, g3⟩ := hv
          repeat (first | walk_at "oxs" | simp only [hF3, g1])
          by_cases ew : ch.w = 0
          · have e1 : flawsP chs = fl ++ flawsQ chs := by unfold flawsP restP; rw [e0, hdn]; dsimp only; rw [if_pos ew]
            rw [if_neg (fun z => z ew)]
            have s34 := s3.trans s4
            refine ⟨xs, chs, s34 _ _ hcl, Paired.mapP hxs fun _ _ h => h.same s34, hc6, hr22, by rw [e0]; simp, fun p2 H5 fs5 np2 s5 ep2 hfs5 => ?_⟩
            have hF5 := s5 _ _ hF3
            repeat (first | walk_at "oxs" | simp only [hF5, ep2])
            have lq : fs5.length = (flawsQ chs).length := Paired.length hfs5
            refine ⟨?_, ?_⟩
            · have l4 := queue_len chs 400 [(0, 0)] [] []
              have l5 : (flawsQ chs).length ≤ 400 := by unfold flawsQ; simpa using l4
              rw [sizeLine_eq]; omega
            · refine h F _ (fs ++ fs5) n1 (sm_upd (s34.trans s5) n1) upd_same ?_
              rw [e1]
              exact Paired.mapP (paired_app (Paired.mapP hfs fun _ _ h => h.same (s4.trans s5)) hfs5) fun _ _ h => h.upd hF5 (fun _ z => by cases z)
          · have e1 : flawsP chs = fl ++ [mkF 0 0 "another number of parameters"] := by unfold flawsP restP; rw [e0, hdn]; dsimp only; rw [if_neg ew]
            rw [if_pos ew]
            intro q2 H4 nq s5 eq
            simp only [s5 _ _ hF3]
            exact ⟨by rw [sizeLine_eq]; omega, out _ q2 _ (s4.trans s5) ⟨q2, rfl, eq⟩ e1⟩
    · cases h
end

section
variable {P : Program} {w : World} {K : PySem.W.Frag} {mg : Str → Option Value} {base : Heap} {c : Cs}
theorem no_leave (r : Rw37) (h : r ≠ .leave) : r.word ≠ "leave" := by cases r <;> first | exact absurd rfl h | (dsimp only [Rw37.word]; decide)
def spLLacks (c : Cs) : Sp := fun vs H Q _ => match vs with
  | [.ref cl, rv, .int s, .int v] => ∃ xs chs r, H cl = some (.lst xs) ∧ Paired (IsCh c H) xs chs ∧ IsRw H rv r ∧ ∀ H', Same H H' → Q (flawV (lookR chs r s v)) H'
  | _ => False
def LckI (c : Cs) (H : Hp) (cl : Addr) (rv : V) (s v : Int) (r : Rw37) (f g : Nat) (xs : List V) (chs : List Ch) (i : Nat) (σ : L2.St) (H' : Hp) : Prop := ∃ v6, σ = [some (.ref cl), some rv, some (.int s), some (.int v), some (.str r.word), some (.int (r.need : Nat)), v6] ∧ Same H H' ∧ firstC chs f = firstC (chs.drop i) f
set_option maxHeartbeats 8000000 in
theorem ok_llacks (A : At K mg "_law_lacks" "_law_lacks" s_law_lacks ["chunks", "row", "stack", "variables"]) (T : Txt K mg c) (H_law_takes : Has P w K mg base CX0 "_law_takes" 1 ["row"] (spRwI fun r => r.takes)) : Has P w K mg base CX0 "_law_lacks" 2 ["chunks", "row", "stack", "variables"] (spLLacks c) := by
  have Sc := sc_law_lacks
  refine has_of A Sc (fun vs H Q E h => ?_) (fun cdv f A outer s H vs Q E hr h => ?_)
  · unfold spLLacks at h; split at h; rfl; cases h
  · unfold spLLacks at h
    split at h
    · rename_i cl rv s v
      obtain ⟨xs, chs, r, hcl, hxs, ⟨a, rfl, eh⟩, h⟩ := h
      refine ⟨_, (pss_cons (ps_set (i := 4) Sc.nd rfl (.inl rfl) (pe_ix ix_fx (fe_var 1) pe_int (fun _ _ => rfl)))
      (pss_cons (ps_if (PW.pt (pw_and (pt_cmpR (op_fEq hr.units) (fe_var 4) pe_str (nomark _)) (pw_and1 (pt_cmpR (op_fNe hr.units) (pe_op op_fMul (pe_op op_fDiv (pe_ix ix_fx (fe_var 1) pe_int (fun _ _ => rfl)) pe_int) pe_int) (pe_ix ix_fx (fe_var 1) pe_int (fun _ _ => rfl)) (nomark _))))) (pss_one (ps_ret pe_str)) pss_nil)
      (pss_cons (ps_if (pt_cmpR op_fGt (fe_call H_law_takes (hr.mono (by walk_at "rm")) (by rfl) pass0 (pa_cons (fe_var 1) pa_nil)) (fe_var 2) (nomark _)) (pss_one (ps_ret pe_str)) pss_nil)
      (pss_cons (ps_if (pt_cmpR (op_fEq hr.units) (fe_var 4) pe_str (nomark _)) (pss_one (ps_ret pe_str)) pss_nil)
      (pss_cons (ps_set (i := 5) Sc.nd rfl (.inl rfl) pe_int)
      (pss_cons (ps_if (pt_cmpR op_fIn (fe_var 4) (fe_tup (pa_cons pe_str (pa_cons pe_str pa_nil))) (by with_unfolding_all rfl)) (pss_one (ps_set (i := 5) Sc.nd rfl (.inl rfl) (pe_op op_fAdd (pe_ix ix_fx (fe_var 1) pe_int (fun _ _ => rfl)) pe_int))) (pss_one (ps_if (pt_cmpR (op_fEq hr.units) (fe_var 4) pe_str (nomark _)) (pss_one (ps_set (i := 5) Sc.nd rfl (.inl rfl) (pe_ix ix_fx (fe_var 1) pe_int (fun _ _ => rfl)))) (pss_one (ps_if (pt_cmpR (op_fEq hr.units) (fe_var 4) pe_str (nomark _)) (pss_one (ps_set (i := 5) Sc.nd rfl (.inl rfl) pe_int)) pss_nil)))))
      (pss_cons (ps_if (pt_cmpR op_fGt (fe_var 5) (fe_var 3) (nomark _)) (pss_one (ps_ret pe_str)) pss_nil)
      (pss_cons (ps_if (pt_cmpR (op_fEq hr.units) (fe_var 4) pe_str (nomark _)) (pss_cons (ps_for PassesOwn.never rfl (pi_list (fe_var 0)) (pg_name (i := 6) Sc.nd rfl (.inl rfl)) (pss_one (ps_if (pt_cmpR (op_fEq hr.units) (fe_fld (fe_var 6) T.pl_number rfl) (pe_ix ix_fx (fe_var 1) pe_int (fun _ _ => rfl)) (nomark _)) (pss_cons (ps_if (pt_cmpR (op_fNe hr.units) (fe_fld (fe_var 6) T.pl_wanted rfl) (pe_ix ix_fx (fe_var 1) pe_int (fun _ _ => rfl)) (nomark _)) (pss_one (ps_ret pe_str)) pss_nil)
      (pss_one (ps_ret pe_non))) pss_nil)))
      (pss_one (ps_ret pe_str))) pss_nil)
      (pss_one (ps_ret pe_non)))))))))), ?_⟩
      walk_at "fx0"
      simp only [tSeq]
      refine cut_ fun N hN => ?_
      repeat (walk_at "oxs")
      refine ⟨_, rl_t eh, _, by rw [vs_cons]; exact at0, ?_⟩
      refine hN _ _ ?_
      clear hN N
      simp only [tSeq]
      refine cut_ fun N hN => ?_
      have rest : ∀ H2, Same H H2 → oddM r = false → N [some (.ref cl), some (.ref a), some (.int s), some (.int v), some (.str r.word), none, none] H2 := by
        intro H2 s2 hodd
        refine hN _ _ ?_
        clear hN N
        have eh2 := s2 _ _ eh
        simp only [tSeq]
        refine cut_ fun N hN => ?_
        repeat (walk_at "oxs")
        refine ⟨r, ⟨a, rfl, eh2⟩, fun H3 s3 => ?_⟩
        have s03 := s2.trans s3
        have eh3 := s3 _ _ eh2
        have hl : ∀ H', Same H3 H' → Q (flawV (lookR chs r s v)) H' := fun H' q => h H' (s03.trans q)
        have s33 : Same H3 H3 := fun _ _ h => h
        repeat (walk_at "oxs")
        by_cases g1 : s < (r.takes : Int)
        · rw [if_pos g1]
          have e : lookR chs r s v = some (Str.ofString "too few values") := by unfold lookR lacks; rw [hodd, if_neg (by decide), if_pos g1]
          rw [e] at hl
          exact hl _ s33
        rw [if_neg g1]
        refine hN _ _ ?_
        clear hN N
        simp only [tSeq]
        refine cut_ fun N hN => ?_
        repeat (walk_at "oxs")
        by_cases g2 : r = .leave
        · have e : lookR chs r s v = some (Str.ofString "too few handlers") := by unfold lookR lacks; rw [hodd, if_neg (by decide), if_neg g1, if_pos g2]
          rw [if_pos (by rw [g2]; rfl)]
          rw [e] at hl
          exact hl _ s33
        rw [if_neg (no_leave r g2)]
        refine hN _ _ ?_
        clear hN N
        simp only [tSeq]
        refine cut_ fun N hN => ?_
        repeat (walk_at "oxs")
        refine hN _ _ ?_
        clear hN N
        simp only [tSeq]
        refine cut_ fun N hN => ?_
        have rest2 : ∀ H4, Same H3 H4 → N [some (.ref cl), some (.ref a), some (.int s), some (.int v), some (.str r.word), some (.int (r.need : Nat)), none] H4 := by
          intro H4 s4
          have eh4 := s4 _ _ eh3
          have s44 : Same H4 H4 := fun _ _ h => h
          refine hN _ _ ?_
          clear hN N
          simp only [tSeq]
          refine cut_ fun N hN => ?_
          repeat (walk_at "oxs")
          by_cases g3 : v < (r.need : Int)
          · rw [if_pos g3]
            have e : lookR chs r s v = some (Str.ofString "too few variables") := by unfold lookR lacks; rw [hodd, if_neg (by decide), if_neg g1, if_neg g2, if_pos g3]
            rw [e] at hl
            exact hl _ s4
          rw [if_neg g3]
          have el : lacks r s v = none := by unfold lacks; rw [hodd, if_neg (by decide), if_neg g1, if_neg g2, if_neg g3]
          refine hN _ _ ?_
          clear hN N
          simp only [tSeq]
          refine cut_ fun N hN => ?_
          repeat (walk_at "oxs")
          by_cases hc : ∃ f g, r = .clos f g
          · obtain ⟨f1, gg, rfl⟩ := hc
            have eq : lookR chs (.clos f1 gg) s v = missC chs f1 gg := by unfold lookR; rw [el]
            rw [eq] at hl
            rw [if_pos (by rfl)]
            refine for_ ?_
            repeat (walk_at "oxs")
            have hcl4 := s4 _ _ (s03 _ _ hcl)
            refine ⟨⟨_, SqL.of hcl4⟩, ?_⟩
            have hxs4 := Paired.mapP hxs fun _ _ h => IsCh.same h (s03.trans s4)
            refine loop_list xs (LckI c H4 cl (.ref a) s v (.clos f1 gg) f1 gg xs chs) ⟨_, rfl, s44, rfl⟩ (fun i σ H' _ h => ?_) (fun i x σ H' hx h' => ?_) fun σ H' h' => ?_
            · obtain ⟨_, rfl, s1, _⟩ := h
              exact SqL.of (s1 _ _ hcl4)
            · obtain ⟨v6, rfl, s1, hf⟩ := h'
              obtain ⟨ch, ec, hch⟩ := paired_get hxs4 hx
              obtain ⟨y, dx, p, q, vs, rfl, h1, h2, h3⟩ := hch.same s1
              simp only [gName, List.set_cons_succ, List.set_cons_zero]
              have hd : chs.drop i = ch :: chs.drop (i + 1) := by rw [List.drop_eq_getElem?_toList_append, ec]; rfl
              rw [hd] at hf
              have eh5 := s1 _ _ eh4
              repeat (first | walk_at "oxs" | simp only [h1])
              refine ⟨_, rl_t eh5, _, rfl, ?_⟩
              repeat (first | walk_at "oxs" | simp only [h1])
              by_cases hn : ch.n = (f1 : Int)
              · rw [if_pos hn]
                have hf1 : firstC chs f1 = some ch := by rw [hf]; unfold firstC; rw [List.find?_cons_of_pos (by simpa using hn)]
                have hl := hl H' (s4.trans s1)
                unfold missC at hl
                rw [hf1] at hl
                dsimp only at hl
                refine ⟨_, rl_t eh5, _, rfl, ?_⟩
                repeat (first | walk_at "oxs" | simp only [h1])
                by_cases e : ch.w = (gg : Int)
                · rw [if_pos e] at hl
                  rw [if_neg (fun z => z e)]
                  exact hl
                · rw [if_neg e] at hl
                  rw [if_pos e]
                  exact hl
              · rw [if_neg hn]
                refine ⟨_, rfl, s1, ?_⟩
                rw [hf]; unfold firstC; rw [List.find?_cons_of_neg (by simpa using hn)]
            · obtain ⟨v6, rfl, s1, hf⟩ := h'
              repeat (walk_at "oxs")
              have hl := hl H' (s4.trans s1)
              unfold missC at hl
              rw [hf, Paired.length hxs4, List.drop_eq_nil_of_le (Nat.le_refl _)] at hl
              exact hl
          · have hw := no_clos r fun f g z => hc ⟨f, g, z⟩
            have e : lookR chs r s v = none := by
              unfold lookR; rw [el]
              dsimp only
              split
              · exact absurd ⟨_, _, rfl⟩ hc
              · rfl
            rw [e] at hl
            rw [if_neg hw]
            refine hN _ _ ?_
            repeat (walk_at "oxs")
            exact hl _ s4
        clear hN
        have s0 := s33
        replace eh := eh3
        clear hl hodd s2 eh2 s03 eh3 h s33
        dsimp only
        cases r <;> ((repeat walk_at "rs"); exact rest2 _ s0)
      clear hN
      have s0 : Same H H := fun _ _ h => h
      dsimp only
      cases r <;> ((repeat walk_at "rs"); first | exact rest _ s0 rfl | skip)
      rename_i n
      have hn := n.isLt
      refine ⟨small_div (by decide) (by decide), mul_left (by omega) (by omega), _, rl_t eh, _, rfl, ?_⟩
      repeat walk_at "rs"
      by_cases e : (n.val : Int) / 2 * 2 = (n.val : Nat)
      · rw [if_neg (fun z => z e)]
        exact rest _ s0 (by show decide _ = false; simpa using e)
      · rw [if_pos e]
        have h := h _ s0
        have ho : oddM (.map n) = true := by show decide _ = true; simpa using e
        unfold lookR lacks at h
        rw [ho, if_pos rfl] at h
        exact h
    · cases h
end

section
variable {P : Program} {w : World} {K : PySem.W.Frag} {mg : Str → Option Value} {base : Heap} {c : Cs}
def spLWalk (c : Cs) : Sp := fun vs H Q _ => match vs with
  | [.ref cl, cv, .int v] => ∃ xs chs ch, H cl = some (.lst xs) ∧ Paired (IsCh c H) xs chs ∧ IsCh c H cv ch ∧ ch.rows.length ≤ 1000 ∧ match walkP chs ch.rows 0 0 v [] with
    | .flaw a m => ∀ p q H', Same H H' → H' p = some (.tup [.int (a : Nat), .str m, .ref q]) → Q (.ref p) H'
    | .ok clos => ∀ p q qs H', Same H H' → H' p = some (.tup [.non, .non, .ref q]) → H q = none → H' q = some (.lst qs) → Paired (IsPr H') qs clos → Q (.ref p) H'
  | _ => False
def WlkI (H0 : Hp) (cl : Addr) (cv : V) (C : Addr) (chs : List Ch) (ch : Ch) (R : WRes) (i : Nat) (σ : L2.St) (H : Hp) : Prop := ∃ s v clos qs v5 v6 v7, σ = [some (.ref cl), some cv, some (.int v), some (.int s), some (.ref C), v5, v6, v7] ∧ Same H0 H ∧ H0 C = none ∧ H C = some (.lst qs) ∧ Paired (IsPr H) qs clos ∧ R = walkP chs (ch.rows.drop i) i s v clos ∧ clos.length ≤ i
def isDecl : Rw37 → Bool
  | .decl | .blank => true
  | _ => false
theorem decl_in (r : Rw37) : inV (.str r.word) [.str "declare", .str "blank"] = isDecl r := by cases r <;> (dsimp only [Rw37.word, isDecl]; decide)
theorem no_drop (r : Rw37) (h : ∀ n, r ≠ .drop n) : r.word ≠ "drop" := by cases r <;> first | exact absurd rfl (h _) | (dsimp only [Rw37.word]; decide)
set_option maxHeartbeats 8000000 in
theorem vars_if (T : Txt K mg c) {N B1 C1 : L2.St → Hp → Prop} {R1 : VK} {a1 a2 a4 a5 a7 : Option V} {v s : Int} {r : Rw37} {ra : Addr} {H : Hp} (rest : ∀ H', Same H H' → N [a1, a2, some (.int (r.vars v)), some (.int s), a4, a5, some (.ref ra), a7] H') (eh : H ra = some (.tup r.vs)) (s0 : Same H H) : tIfS (tTest (tOp (fIn K false) (tOp (fIx K) (fVar 6) (tC (V.int 0))) (fTup (tCons (tC (V.str (Str.ofString "declare"))) (tCons (tC (V.str (Str.ofString "blank"))) tNil))))) (tAsg (tOp (fAdd K) (fVar 2) (tC (V.int 1))) (gName 2)) (tIfS (tTest (tOp (fEq K false) (tOp (fIx K) (fVar 6) (tC (V.int 0))) (tC (V.str (Str.ofString "drop"))))) (tAsg (tOp fSub (fVar 2) (tOp (fIx K) (fVar 6) (tC (V.int 1)))) (gName 2)) tNext) { nx := N, rt := R1, bk := B1, ct := C1 } [a1, a2, some (.int v), some (.int s), a4, a5, some (.ref ra), a7] H := by
  repeat (walk_at "oxs")
  refine ⟨_, rl_t eh, _, by rw [vs_cons]; exact at0, fun p2 H2 np2 s2 ep2 => ⟨_, rl_t ep2, ?_⟩⟩
  have eh2 := s2 _ _ eh
  repeat (walk_at "oxs")
  refine ⟨rfl, ?_⟩
  rw [decl_in]
  by_cases hd : isDecl r = true
  · rw [if_pos hd]
    have e : r.vars v = v + 1 := by cases r <;> first | rfl | cases hd
    rw [e] at rest
    exact rest _ s2
  · rw [if_neg hd]
    refine ⟨_, rl_t eh2, _, by rw [vs_cons]; exact at0, ?_⟩
    repeat (walk_at "oxs")
    by_cases hc : ∃ n, r = .drop n
    · obtain ⟨n, rfl⟩ := hc
      rw [if_pos (by rfl)]
      refine ⟨_, rl_t eh2, _, rfl, ?_⟩
      repeat (walk_at "oxs")
      exact rest _ s2
    · rw [if_neg (no_drop r fun n z => hc ⟨n, z⟩)]
      have e : r.vars v = v := by cases r <;> first | rfl | exact absurd rfl hd | exact absurd ⟨_, rfl⟩ hc
      rw [e] at rest
      exact rest _ s2
set_option maxHeartbeats 8000000 in
theorem ok_lwalk (A : At K mg "_law_walk" "_law_walk" s_law_walk ["chunks", "chunk", "variables"]) (T : Txt K mg c) (H_law_lacks : Has P w K mg base CX0 "_law_lacks" 2 ["chunks", "row", "stack", "variables"] (spLLacks c)) (H_law_takes : Has P w K mg base CX0 "_law_takes" 1 ["row"] (spRwI fun r => r.takes)) (H_law_gives : Has P w K mg base CX0 "_law_gives" 1 ["row"] (spRwI fun r => r.gives)) : Has P w K mg base CX0 "_law_walk" 3 ["chunks", "chunk", "variables"] (spLWalk c) := by
  have Sc := sc_law_walk
  refine has_of A Sc (fun vs H Q E h => ?_) (fun cdv f A outer s H vs Q E hr h => ?_)
  · unfold spLWalk at h; split at h; rfl; cases h
  · unfold spLWalk at h
    split at h
    · rename_i cl cv v0
      obtain ⟨xs, chs, ch, hcl, hxs, hch, hlen, h⟩ := h
      refine ⟨_, (pss_cons (ps_set (i := 3) Sc.nd rfl (.inl rfl) pe_int)
      (pss_cons (ps_set (i := 4) Sc.nd rfl (.inl rfl) (fe_lst pa_nil))
      (pss_cons (ps_for PassesOwn.never rfl (pi_range1 (by rfl) T.no_range (pa_cons (pe_callB call_fLen (by rfl) T.no_len (by decide +kernel) (pa_cons (fe_fld (fe_var 1) T.pl_rows rfl) pa_nil)) pa_nil)) (pg_name (i := 5) Sc.nd rfl (.inl rfl)) (pss_cons (ps_set (i := 6) Sc.nd rfl (.inl rfl) (pe_ix ix_fx (fe_fld (fe_var 1) T.pl_rows rfl) (fe_var 5) (fun _ _ => rfl)))
      (pss_cons (ps_set (i := 7) Sc.nd rfl (.inl rfl) (fe_call H_law_lacks (hr.mono (by walk_at "rm")) (by rfl) pass0 (pa_cons (fe_var 0) (pa_cons (fe_var 6) (pa_cons (fe_var 3) (pa_cons (fe_var 2) pa_nil))))))
      (pss_cons (ps_if (pt_cmpR op_fNotN (fe_var 7) pe_non (nomark _)) (pss_one (ps_ret (fe_tup (pa_cons (fe_var 5) (pa_cons (fe_var 7) (pa_cons (fe_var 4) pa_nil)))))) pss_nil)
      (pss_cons (ps_if (pt_cmpR (op_fEq hr.units) (pe_ix ix_fx (fe_var 6) pe_int (fun _ _ => rfl)) pe_str (nomark _)) (pss_one (ps_expr (fe_bm PySem.F.plainAttrs_list PySem.F.slot_list_append PySem.F.type_list_append isLst_ty mt_fAppend (fe_var 4) (pa_cons (fe_tup (pa_cons (pe_ix ix_fx (fe_var 6) pe_int (fun _ _ => rfl)) (pa_cons (pe_op op_fAdd (pe_ix ix_fx (fe_var 6) pe_int (fun _ _ => rfl)) (fe_var 2)) pa_nil))) pa_nil)))) pss_nil)
      (pss_cons (ps_set (i := 3) Sc.nd rfl (.inl rfl) (pe_op op_fAdd (pe_op op_fSub (fe_var 3) (fe_call H_law_takes (hr.mono (by walk_at "rm")) (by rfl) pass0 (pa_cons (fe_var 6) pa_nil))) (fe_call H_law_gives (hr.mono (by walk_at "rm")) (by rfl) pass0 (pa_cons (fe_var 6) pa_nil))))
      (pss_cons (ps_if (pt_cmpR op_fIn (pe_ix ix_fx (fe_var 6) pe_int (fun _ _ => rfl)) (fe_tup (pa_cons pe_str (pa_cons pe_str pa_nil))) (by with_unfolding_all rfl)) (pss_one (ps_set (i := 2) Sc.nd rfl (.inl rfl) (pe_op op_fAdd (fe_var 2) pe_int))) (pss_one (ps_if (pt_cmpR (op_fEq hr.units) (pe_ix ix_fx (fe_var 6) pe_int (fun _ _ => rfl)) pe_str (nomark _)) (pss_one (ps_set (i := 2) Sc.nd rfl (.inl rfl) (pe_op op_fSub (fe_var 2) (pe_ix ix_fx (fe_var 6) pe_int (fun _ _ => rfl))))) pss_nil)))
      (pss_one (ps_if (pt_cmpR op_fIn (pe_ix ix_fx (fe_var 6) pe_int (fun _ _ => rfl)) (fe_tup (pa_cons pe_str (pa_cons pe_str pa_nil))) (by with_unfolding_all rfl)) (pss_one (ps_ret (fe_tup (pa_cons pe_non (pa_cons pe_non (pa_cons (fe_var 4) pa_nil)))))) pss_nil)))))))))
      (pss_one (ps_ret (fe_tup (pa_cons (pe_callB call_fLen (by rfl) T.no_len (by decide +kernel) (pa_cons (fe_fld (fe_var 1) T.pl_rows rfl) pa_nil)) (pa_cons pe_str (pa_cons (fe_var 4) pa_nil))))))))), ?_⟩
      obtain ⟨yc, dxc, pc, qc, rws, rfl, hc1, hc2, hc3⟩ := id hch
      have lr : rws.length = ch.rows.length := Paired.length hc3
      walk_at "fx0"
      simp only [tSeq]
      refine cut_ fun N hN => ?_
      repeat (walk_at "oxs")
      refine hN _ _ ?_
      clear hN N
      simp only [tSeq]
      refine cut_ fun N hN => ?_
      repeat (walk_at "oxs")
      intro C H1 nC s1 eC
      refine hN _ _ ?_
      clear hN N
      simp only [tSeq]
      refine cut_ fun N hN => for_ ?_
      have hc11 := s1 _ _ hc1
      have hc21 := s1 _ _ hc2
      repeat (first | walk_at "oxs" | simp only [hc11])
      refine ⟨_, rl_l hc21, ?_⟩
      repeat (first | walk_at "oxs" | simp only [hc11])
      refine ⟨by omega, by omega, ?_⟩
      generalize hR : walkP chs ch.rows 0 0 v0 [] = R at h
      refine loop_range (WlkI H cl (.ref yc) C chs ch R) ⟨0, v0, [], [], _, _, _, rfl, s1, nC, eC, .nil, by rw [List.drop_zero]; exact hR.symm, Nat.le_refl _⟩ ?_ ?_
      · rintro i σ H2 hi ⟨s, v, clos, qs, v5, v6, v7, rfl, s2, _, hC, hqs, eR, hcn⟩
        have hi2 : i < ch.rows.length := by omega
        obtain ⟨r, er⟩ : ∃ r, ch.rows[i]? = some r := ⟨_, List.getElem?_eq_getElem hi2⟩
        have hd : ch.rows.drop i = r :: ch.rows.drop (i + 1) := by rw [List.drop_eq_getElem?_toList_append, er]; rfl
        have hw : walkP chs (ch.rows.drop i) i s v clos = match lookR chs r s v with
          | some m => .flaw i m
          | none => if stopR r = true then .ok (closR r v clos) else walkP chs (ch.rows.drop (i + 1)) (i + 1) (s - r.takes + r.gives) (r.vars v) (closR r v clos) := by rw [hd]; rfl
        have cl1 := closR_len r v clos
        rw [hw] at eR
        have hc12 := s2 _ _ hc1
        have hc22 := s2 _ _ hc2
        obtain ⟨rv, erv⟩ : ∃ v, rws[i]? = some v := ⟨_, List.getElem?_eq_getElem (by omega)⟩
        obtain ⟨r', er', hrv⟩ := paired_get hc3 erv
        cases er.symm.trans er'
        obtain ⟨ra, rfl, eh⟩ := hrv.same s2
        simp only [gName, List.set_cons_succ, List.set_cons_zero]
        try dsimp only
        refine seq_ fun N1 hN1 => ?_
        try dsimp only
        repeat (first | walk_at "oxs" | simp only [hc12])
        refine ⟨_, rl_l hc22, _, atI_nat erv, ?_⟩
        refine hN1 _ _ ?_
        clear hN1 N1
        try dsimp only
        refine seq_ fun N1 hN1 => ?_
        try dsimp only
        repeat (first | walk_at "oxs" | simp only [hc12])
        refine ⟨xs, chs, r, s2 _ _ hcl, Paired.mapP hxs fun _ _ h => IsCh.same h s2, ⟨ra, rfl, eh⟩, fun H3 s3 => ?_⟩
        refine hN1 _ _ ?_
        clear hN1 N1
        have s03 := s2.trans s3
        have eh3 := s3 _ _ eh
        have hC3 := s3 _ _ hC
        try dsimp only
        refine seq_ fun N1 hN1 => ?_
        try dsimp only
        cases el : lookR chs r s v with
        | some m =>
          rw [el] at eR
          subst eR
          dsimp only [flawV]
          repeat (walk_at "oxs")
          intro p H4 np s4 ep
          exact h p C H4 (s03.trans s4) ep
        | none =>
          rw [el] at eR
          dsimp only [flawV] at eR ⊢
          repeat (walk_at "oxs")
          refine hN1 _ _ ?_
          clear hN1 N1
          try dsimp only
          refine seq_ fun N1 hN1 => ?_
          try dsimp only
          have rest : ∀ H4 qs4, Same H H4 → H4 C = some (.lst qs4) → Paired (IsPr H4) qs4 (closR r v clos) → H4 ra = some (.tup r.vs) → N1 [some (.ref cl), some (.ref yc), some (.int v), some (.int s), some (.ref C), some (.int (i : Nat)), some (.ref ra), some .non] H4 := by
            intro H4 qs4 s4 hC4 hq4 eh4
            refine hN1 _ _ ?_
            clear hN1 N1
            try dsimp only
            refine seq_ fun N1 hN1 => ?_
            try dsimp only
            repeat (walk_at "oxs")
            refine ⟨r, ⟨ra, rfl, eh4⟩, fun H5 s5 => ?_⟩
            dsimp only
            refine ⟨r, ⟨ra, rfl, s5 _ _ eh4⟩, fun H6 s6 => ?_⟩
            refine hN1 _ _ ?_
            clear hN1 N1
            have s46 := s5.trans s6
            have eh := s46 _ _ eh4
            try dsimp only
            refine seq_ fun N1 hN1 => ?_
            try dsimp only
            have rest2 : ∀ H7, Same H6 H7 → N1 [some (.ref cl), some (.ref yc), some (.int (r.vars v)), some (.int (s - r.takes + r.gives)), some (.ref C), some (.int (i : Nat)), some (.ref ra), some .non] H7 := by
              intro H7 s7
              have s47 := s46.trans s7
              have eh7 := s7 _ _ eh
              refine hN1 _ _ ?_
              clear hN1 N1
              repeat (walk_at "oxs")
              refine ⟨_, rl_t eh7, _, by rw [vs_cons]; exact at0, fun p8 H8 np8 s8 ep8 => ⟨_, rl_t ep8, ?_⟩⟩
              repeat (walk_at "oxs")
              refine ⟨rfl, ?_⟩
              rw [over_in]
              have s48 := s47.trans s8
              by_cases hst : stopR r = true
              · rw [if_pos hst]
                rw [if_pos hst] at eR
                subst eR
                intro p H9 np s9 ep
                exact h p C qs4 H9 ((s4.trans s48).trans s9) ep nC (s9 _ _ (s48 _ _ hC4)) (Paired.mapP hq4 fun _ _ h => (IsPr.same h s48).same s9)
              · rw [if_neg hst]
                rw [if_neg hst] at eR
                exact ⟨_, _, _, qs4, _, _, _, rfl, s4.trans s48, nC, s48 _ _ hC4, Paired.mapP hq4 fun _ _ h => IsPr.same h s48, eR, by omega⟩
            clear hN1
            have s0 : Same H6 H6 := fun _ _ h => h
            exact vars_if T rest2 eh s0
          repeat (walk_at "oxs")
          refine ⟨_, rl_t eh3, _, by rw [vs_cons]; exact at0, ?_⟩
          repeat (walk_at "oxs")
          by_cases hc : ∃ f g, r = .clos f g
          · obtain ⟨f1, gg, rfl⟩ := hc
            rw [if_pos (by rfl)]
            repeat (first | walk_at "oxs" | simp only [hC3])
            refine ⟨_, rl_t eh3, _, rfl, _, rl_t eh3, _, rfl, ?_⟩
            repeat (first | walk_at "oxs" | simp only [hC3])
            intro p H4 np s4 ep
            have hC4 := s4 _ _ hC3
            have lq : qs.length = clos.length := Paired.length hqs
            repeat (first | walk_at "oxs" | simp only [hC4])
            refine ⟨by rw [sizeLine_eq]; omega, rest _ (qs ++ [.ref p]) (sm_upd (s03.trans s4) nC) upd_same ?_ (by rw [upd_ne (fun z => by rw [z, hC3] at eh3; cases eh3)]; exact s4 _ _ eh3)⟩
            exact paired_snoc (Paired.mapP hqs fun _ _ h => (IsPr.same h (s3.trans s4)).upd hC4 (fun _ z => by cases z)) (IsPr.upd ⟨p, rfl, ep⟩ hC4 (fun _ z => by cases z))
          · have hw := no_clos r fun f g z => hc ⟨f, g, z⟩
            rw [if_neg hw]
            refine rest H3 qs s03 hC3 ?_ eh3
            have e : closR r v clos = clos := by
              unfold closR; split
              · exact absurd ⟨_, _, rfl⟩ hc
              · rfl
            rw [e]
            exact Paired.mapP hqs fun _ _ h => IsPr.same h s3
      · rintro σ H2 ⟨s, v, clos, qs, v5, v6, v7, rfl, s2, _, hC, hqs, eR, hcn⟩
        refine hN _ _ ?_
        clear hN N
        have hc12 := s2 _ _ hc1
        have hc22 := s2 _ _ hc2
        repeat (first | walk_at "oxs" | simp only [hc12])
        refine ⟨_, rl_l hc22, ?_⟩
        rw [List.drop_eq_nil_of_le (by omega)] at eR
        subst eR
        intro p H3 np s3 ep
        refine h p C H3 (s2.trans s3) ?_
        rw [ep, lr]
    · cases h
end

section
variable {P : Program} {w : World} {K : PySem.W.Frag} {mg : Str → Option Value} {base : Heap} {c : Cs}
/-- [chunk for chunk in chunks if chunk.number == n] up to a place -/
def FilI (c : Cs) (H0 : Hp) (D : Addr) (xs : List V) (chs : List Ch) (n : Int) (i : Nat) (H : Hp) : Prop := Same H0 H ∧ ∃ acc, H D = some (.lst acc) ∧ acc.length ≤ i ∧ ((firstC (chs.take i) n = none ∧ acc = []) ∨ ∃ ch v tl, firstC (chs.take i) n = some ch ∧ acc = v :: tl ∧ v ∈ xs ∧ IsCh c H0 v ch)
theorem first_take {chs : List Ch} {n : Int} {i : Nat} {ch : Ch} (e : chs[i]? = some ch) : firstC (chs.take (i + 1)) n = match firstC (chs.take i) n with
    | some x => some x
    | none => if ch.n = n then some ch else none := by
  unfold firstC
  rw [List.take_succ, e, List.find?_append]
  cases (chs.take i).find? fun ch => decide (ch.n = n) with
  | some x => rfl
  | none =>
    rw [Option.none_or]
    show [ch].find? _ = _
    by_cases h : ch.n = n
    · rw [if_pos h, List.find?_cons_of_pos (by simpa using h)]
    · rw [if_neg h, List.find?_cons_of_neg (by simpa using h)]; rfl
theorem fil_no {H0 H : Hp} {D : Addr} {xs : List V} {chs : List Ch} {n : Int} {i : Nat} {ch : Ch} (h : FilI c H0 D xs chs n i H) (e : chs[i]? = some ch) (hn : ¬ ch.n = n) : FilI c H0 D xs chs n (i + 1) H := by
  obtain ⟨s, acc, ea, hl, h⟩ := h
  refine ⟨s, acc, ea, by omega, ?_⟩
  rcases h with ⟨h1, h2⟩ | ⟨ch', v, tl, h1, h2, h3, h4⟩
  · exact .inl ⟨by rw [first_take e, h1]; exact if_neg hn, h2⟩
  · exact .inr ⟨ch', v, tl, by rw [first_take e, h1], h2, h3, h4⟩
theorem fil_yes {H0 H : Hp} {D : Addr} {xs : List V} {chs : List Ch} {n : Int} {i : Nat} {ch : Ch} {v : V} (nD : H0 D = none) (h : FilI c H0 D xs chs n i H) (e : chs[i]? = some ch) (hn : ch.n = n) (hm : v ∈ xs) (hv : IsCh c H0 v ch) : ∃ acc, H D = some (.lst acc) ∧ acc.length ≤ i ∧ FilI c H0 D xs chs n (i + 1) (upd H D (.lst (acc ++ [v]))) := by
  obtain ⟨s, acc, ea, hl, h⟩ := h
  refine ⟨acc, ea, hl, sm_upd s nD, _, upd_same, by rw [List.length_append, List.length_singleton]; omega, ?_⟩
  rcases h with ⟨h1, h2⟩ | ⟨ch', v', tl, h1, h2, h3, h4⟩
  · exact .inr ⟨ch, v, [], by rw [first_take e, h1]; exact if_pos hn, by rw [h2]; rfl, hm, hv⟩
  · exact .inr ⟨ch', v', tl ++ [v], by rw [first_take e, h1], by rw [h2]; rfl, h3, h4⟩
def QueI (H0 : Hp) (cl F wl B : Addr) (chs : List Ch) (R : List Fl) (k : Nat) (σ : L2.St) (H : Hp) : Prop := ∃ all bg fl v4 v5 v6 v7 v8 v9 v10, σ = [some (.ref cl), some (.ref F), some (.ref wl), some (.ref B), v4, v5, v6, v7, v8, v9, v10] ∧ AS H0 H F B wl all bg fl ∧ QI chs (all.drop k) bg fl R ∧ fl.length + todo chs (all.drop k) bg ≤ 139 ∧ bg.length + todo chs (all.drop k) bg ≤ 139 ∧ k + todo chs (all.drop k) bg ≤ 139 ∧ k ≤ all.length
set_option maxHeartbeats 8000000 in
theorem ok_lqueue (A : At K mg "_law_queue" "_law_queue" s_law_queue ["chunks"]) (T : Txt K mg c) (H_law_walk : Has P w K mg base CX0 "_law_walk" 3 ["chunks", "chunk", "variables"] (spLWalk c)) : Has P w K mg base CX0 "_law_queue" 4 ["chunks"] (spAll c) := by
  have Sc := sc_law_queue
  refine has_of A Sc (fun vs H Q E h => ?_) (fun cdv f A outer s H vs Q E hr h => ?_)
  · unfold spAll at h; split at h; rfl; cases h
  · unfold spAll at h
    split at h
    · rename_i cl
      obtain ⟨xs, chs, hcl, hxs, hc6, hr22, h0, h⟩ := h
      refine ⟨_, (pss_cons (ps_set (i := 1) Sc.nd rfl (.inl rfl) (fe_lst pa_nil))
      (pss_cons (ps_set (i := 2) Sc.nd rfl (.inl rfl) (fe_lst (pa_cons (fe_tup (pa_cons pe_int (pa_cons pe_int pa_nil))) pa_nil)))
      (pss_cons (ps_set (i := 3) Sc.nd rfl (.inl rfl) fe_dnew)
      (pss_cons (ps_for PassesOwn.never rfl (pi_range1 (by rfl) T.no_range (pa_cons pe_int pa_nil)) (pg_name (i := 4) Sc.nd rfl (.inl rfl)) (pss_cons (ps_if (pt_cmpR op_fGe (fe_var 4) (pe_callB call_fLen (by rfl) T.no_len (by decide +kernel) (pa_cons (fe_var 2) pa_nil)) (nomark _)) (pss_one ps_break) pss_nil)
      (pss_cons (ps_asg (pe_ix ix_fx (fe_var 2) (fe_var 4) (fun _ _ => rfl)) (pg_tup (n := 2) rfl (pgs_cons (pg_name (i := 5) Sc.nd rfl (.inr rfl)) (pgs_cons (pg_name (i := 6) Sc.nd rfl (.inl rfl)) pgs_nil))))
      (pss_cons (ps_if (pt_cmp (pc_din (hu_of hr) (fe_var 5) (fe_var 3))) (pss_cons (ps_if (pt_cmpR (op_fNe hr.units) (pe_dget (hu_of hr) (fe_var 3) (fe_var 5) (fun _ _ => rfl)) (fe_var 6) (nomark _)) (pss_one (ps_expr (fe_bm PySem.F.plainAttrs_list PySem.F.slot_list_append PySem.F.type_list_append isLst_ty mt_fAppend (fe_var 1) (pa_cons (fe_tup (pa_cons (fe_var 5) (pa_cons pe_int (pa_cons pe_str pa_nil)))) pa_nil)))) pss_nil)
      (pss_one ps_continue)) pss_nil)
      (pss_cons (ps_dput (hu_of hr) (fe_var 3) (fe_var 5) (fe_var 6) rfl)
      (pss_cons (ps_set (i := 7) Sc.nd rfl (.inl rfl) (pe_ix ix_fx (pe_lc (own := [("chunk", 7)]) (by rfl) Sc.nd (pi_list (fe_var 0)) (blkOk_by (own := [("chunk", 7)]) (N := ["chunks", "flaws", "waiting", "begun", "k", "number", "variables", "chunk", "at", "flaw", "closures"]) (sc := defScope s_law_queue) (by decide +kernel)) (fun _ _ _ _ _ => (pg_name (i := 7) Sc.nd rfl (.inl rfl))) (fun _ _ _ _ _ => (pts_one (pt_cmpR (op_fEqK (K := K) hr.units rfl) (fe_fld (fe_var 7) T.pl_number rfl) (fe_var 5) (nomark _)))) (fun _ _ _ _ _ => (fe_var 7))) pe_int (fun _ _ => rfl)))
      (pss_cons (ps_asg (fe_call H_law_walk (hr.mono (by walk_at "rm")) (by rfl) pass0 (pa_cons (fe_var 0) (pa_cons (fe_var 7) (pa_cons (fe_var 6) pa_nil)))) (pg_tup (n := 3) rfl (pgs_cons (pg_name (i := 8) Sc.nd rfl (.inl rfl)) (pgs_cons (pg_name (i := 9) Sc.nd rfl (.inl rfl)) (pgs_cons (pg_name (i := 10) Sc.nd rfl (.inl rfl)) pgs_nil)))))
      (pss_one (ps_if (pt_cmpR op_fIsN (fe_var 9) pe_non (nomark _)) (pss_one (ps_expr (fe_bm PySem.F.plainAttrs_list PySem.F.slot_list_extend PySem.F.type_list_extend isLst_ty mt_fExtend (fe_var 2) (pa_cons (fe_var 10) pa_nil)))) (pss_one (ps_expr (fe_bm PySem.F.plainAttrs_list PySem.F.slot_list_append PySem.F.type_list_append isLst_ty mt_fAppend (fe_var 1) (pa_cons (fe_tup (pa_cons (fe_var 5) (pa_cons (fe_var 8) (pa_cons (fe_var 9) pa_nil)))) pa_nil)))))))))))))
      (pss_one (ps_ret (fe_var 1))))))), ?_⟩
      walk_at "fx0"
      refine seq_ fun N hN => ?_
      repeat (walk_at "oxs")
      intro F H1 nF s1 eF
      refine hN _ _ ?_
      clear hN N
      refine seq_ fun N hN => ?_
      repeat (walk_at "oxs")
      intro pr H3 npr s3 epr wl H4 nwl s4 ewl
      refine hN _ _ ?_
      clear hN N
      refine seq_ fun N hN => ?_
      repeat (walk_at "oxs")
      intro B H5 nB s5 eB
      refine hN _ _ ?_
      clear hN N
      have s34 := s3.trans s4
      have A0 : AS H H5 F B wl [(0, 0)] [] [] := by
        refine ⟨(s1.trans s34).trans s5, nF, (s1.trans s34).free nB, (s1.trans s3).free nwl, fun z => ?_, ⟨[], s5 _ _ (s34 _ _ eF), .nil⟩, eB, ⟨_, s5 _ _ ewl, .cons ⟨pr, rfl, s5 _ _ (s4 _ _ epr)⟩ .nil⟩⟩
        rw [← z, s3 _ _ eF] at nwl; cases nwl
      refine seq_ fun N hN => for_ ?_
      have t0 := todo_le chs
      generalize hR : flawsQ chs = R at h
      repeat (walk_at "oxs")
      refine ⟨by decide, by decide, ?_⟩
      refine loop_range (QueI H cl F wl B chs R) ⟨[(0, 0)], [], [], _, _, _, _, _, _, _, rfl, A0, ⟨fun q m => ?_, 400, by rw [List.drop_zero]; omega, hR.symm⟩, by rw [List.drop_zero]; simp; omega, by rw [List.drop_zero]; simp; omega, by rw [List.drop_zero]; simp; omega, Nat.zero_le _⟩ ?_ ?_
      · rw [List.mem_singleton.mp m]; exact h0
      · rintro k σ H6 hk ⟨all, bg, fl, v4, v5, v6, v7, v8, v9, v10, rfl, A6, QQ, l1, l2, l3, l4⟩
        obtain ⟨vs, hvs, hws⟩ := id A6.w
        have lw : vs.length = all.length := Paired.length hws
        simp only [gName, List.set_cons_succ, List.set_cons_zero]
        try dsimp only
        refine seq_ fun N1 hN1 => ?_
        try dsimp only
        repeat (walk_at "oxs")
        refine ⟨_, rl_l hvs, ?_⟩
        by_cases hend : (vs.length : Int) ≤ (k : Nat)
        · rw [if_pos hend]
          have ed : all.drop k = [] := List.drop_eq_nil_of_le (by omega)
          rw [ed] at QQ
          obtain ⟨fs, hf, hfs⟩ := A6.f
          refine hN _ _ ?_
          repeat (walk_at "oxs")
          rw [QQ.done] at h
          exact h F H6 fs nF A6.sm hf hfs
        rw [if_neg hend]
        refine hN1 _ _ ?_
        clear hN1 N1
        obtain ⟨qv, eqv⟩ : ∃ v, vs[k]? = some v := ⟨_, List.getElem?_eq_getElem (by omega)⟩
        obtain ⟨⟨n, v⟩, eq, hqv⟩ := paired_get hws eqv
        obtain ⟨qa, rfl, hqa⟩ := id hqv
        have hd : all.drop k = (n, v) :: all.drop (k + 1) := by rw [List.drop_eq_getElem?_toList_append, eq]; rfl
        rw [hd] at QQ l1 l2 l3
        have st := QQ.step
        have tt : todo chs ((n, v) :: all.drop (k + 1)) bg = todo chs (all.drop (k + 1)) bg + 1 := by unfold todo; rw [List.length_cons]; omega
        refine seq_ fun N1 hN1 => ?_
        try dsimp only
        repeat (walk_at "oxs")
        refine ⟨_, rl_l hvs, _, atI_nat eqv, _, rfl, _, SqT.of hqa, rfl, _, _, rfl, _, _, rfl, rfl, ?_⟩
        refine hN1 _ _ ?_
        clear hN1 N1
        have hg : DGet H6 B (.int n) ((lookB bg n).map V.int) := .inl ⟨bgK bg, .inl n, .inl A6.b, rfl, (bgK_get bg n).symm⟩
        refine seq_ fun N1 hN1 => ?_
        try dsimp only
        repeat (first | walk_at "oxs" | simp only [tDIn, tDGet])
        cases hb : lookB bg n with
        | some v' =>
          rw [hb] at st hg
          dsimp only at st
          refine ⟨_, hg, ?_⟩
          rw [if_pos (by rfl)]
          repeat (first | walk_at "oxs" | simp only [tDIn, tDGet])
          refine ⟨.int v', hg, ?_⟩
          repeat (first | walk_at "oxs" | simp only [tDIn, tDGet])
          by_cases ev : v' = v
          · rw [if_neg (fun z => z ev)]
            rw [if_pos ev] at st
            exact ⟨all, bg, fl, _, _, _, _, _, _, _, rfl, A6, st, by omega, by omega, by omega, by omega⟩
          · rw [if_pos ev]
            rw [if_neg ev] at st
            obtain ⟨fs, hf, hfs⟩ := A6.f
            have lf : fs.length = fl.length := Paired.length hfs
            repeat (first | walk_at "oxs" | simp only [hf])
            intro q H7 nq s7 eq
            have hf7 := s7 _ _ hf
            repeat (first | walk_at "oxs" | simp only [hf7])
            refine ⟨by rw [sizeLine_eq]; omega, all, bg, fl ++ [mkF n 0 "made in different scopes"], _, _, _, _, _, _, _, rfl, (A6.same s7).addF hf7 ⟨q, rfl, eq⟩, st, ?_, by omega, by omega, by omega⟩
            rw [List.length_append, List.length_singleton]; omega
        | none =>
          rw [hb] at st hg
          dsimp only at st
          obtain ⟨ch, hc, st⟩ := st
          refine ⟨_, hg, ?_⟩
          rw [if_neg (by decide)]
          refine hN1 _ _ ?_
          clear hN1 N1
          refine seq_ fun N1 hN1 => ?_
          try dsimp only
          repeat (first | walk_at "oxs" | simp only [sDPut])
          have lbg : (bgK bg).length = bg.length := List.length_map ..
          refine ⟨_, .inl ⟨bgK bg, .inl n, A6.b, rfl, by rw [sizeLine_eq]; omega, rfl⟩, ?_⟩
          rw [bgK_put hb]
          have A7 := A6.addB (bg' := bg ++ [(n, v)])
          generalize upd H6 B (.dK (bgK (bg ++ [(n, v)]))) = H7 at A7 ⊢
          refine hN1 _ _ ?_
          clear hN1 N1
          refine seq_ fun N1 hN1 => ?_
          try dsimp only
          repeat (first | walk_at "oxs")
          have hcl7 := A7.sm _ _ hcl
          have hxs7 := Paired.mapP hxs fun _ _ h => IsCh.same h A7.sm
          refine lc_ ?_
          repeat (walk_at "oxs")
          refine ⟨⟨_, SqL.of hcl7⟩, fun D nD => ?_⟩
          refine lcx_list (xs := xs) (FilI c H7 D xs chs n) ⟨same_new nD, [], upd_same, Nat.le_refl _, .inl ⟨rfl, rfl⟩⟩ (fun i H' _ ⟨s, _⟩ => SqL.of (s _ _ hcl7)) ?_ ?_
          · intro i x H8 hx F8
            obtain ⟨ch8, ec8, hch8⟩ := paired_get hxs7 hx
            obtain ⟨y8, dx8, p8, q8, vs8, rfl, g1, g2, g3⟩ := hch8.same F8.1
            have hi8 : i < xs.length := (List.getElem?_eq_some_iff.mp hx).1
            have lx : xs.length = chs.length := Paired.length hxs
            walk_at "ox"
            repeat (first | walk_at "oxs" | simp only [g1])
            by_cases hn : ch8.n = n
            · rw [if_pos hn]
              obtain ⟨acc, ea, la, F9⟩ := fil_yes nD F8 ec8 hn (List.mem_of_getElem? hx) hch8
              exact ⟨acc, ea, by rw [sizeLine_eq]; omega, F9⟩
            · rw [if_neg hn]
              exact fil_no F8 ec8 hn
          · intro H8 ⟨s8, acc, eD8, hl8, hh⟩
            rw [Paired.length hxs7, List.take_length] at hh
            rcases hh with ⟨h1, _⟩ | ⟨ch', cv, tl, h1, rfl, _, hcv⟩
            · rw [hc] at h1; cases h1
            cases hc.symm.trans h1
            repeat (walk_at "oxs")
            refine ⟨_, rl_l eD8, _, at0, ?_⟩
            refine hN1 _ _ ?_
            clear hN1 N1
            have A8 := A7.same s8
            refine seq_ fun N1 hN1 => ?_
            try dsimp only
            repeat (walk_at "oxs")
            have hlen := hr22 ch (List.mem_of_find?_eq_some hc)
            refine ⟨xs, chs, ch, A8.sm _ _ hcl, Paired.mapP hxs fun _ _ h => IsCh.same h A8.sm, hcv.same s8, by omega, ?_⟩
            have lcc : (bg ++ [(n, v)]).length = bg.length + 1 := by rw [List.length_append]; rfl
            cases hw : walkP chs ch.rows 0 0 v [] with
            | flaw a m =>
              rw [hw] at st
              dsimp only at st ⊢
              obtain ⟨Q2, t2⟩ := st
              intro p q9 H10 s10 ep
              have A10 := A8.same s10
              obtain ⟨fs, hf, hfs⟩ := A10.f
              have lf : fs.length = fl.length := Paired.length hfs
              refine ⟨_, rfl, _, SqT.of ep, rfl, _, _, rfl, _, _, rfl, _, _, rfl, rfl, ?_⟩
              refine hN1 _ _ ?_
              clear hN1 N1
              repeat (first | walk_at "oxs" | simp only [hf])
              intro q H11 nq s11 eq
              have hf11 := s11 _ _ hf
              repeat (first | walk_at "oxs" | simp only [hf11])
              refine ⟨by rw [sizeLine_eq]; omega, all, bg ++ [(n, v)], fl ++ [mkF n a m], _, _, _, _, _, _, _, rfl, (A10.same s11).addF hf11 ⟨q, rfl, eq⟩, Q2, ?_, by omega, by omega, by omega⟩
              rw [List.length_append, List.length_singleton]; omega
            | ok cl2 =>
              rw [hw] at st
              dsimp only at st ⊢
              obtain ⟨Q2, lcl, t2⟩ := st hlen
              intro p q9 qs H10 s10 ep nq9 hq hqs
              have A10 := A8.same s10
              obtain ⟨vs10, hv10, hws10⟩ := A10.w
              have lw10 : vs10.length = all.length := Paired.length hws10
              have lq : qs.length = cl2.length := Paired.length hqs
              have tws : (all.drop (k + 1)).length ≤ todo chs ((n, v) :: all.drop (k + 1)) bg := by unfold todo; rw [List.length_cons]; omega
              rw [List.length_drop] at tws
              have eda : (all ++ cl2).drop (k + 1) = all.drop (k + 1) ++ cl2 := by rw [List.drop_append_of_le_length (by omega)]
              refine ⟨_, rfl, _, SqT.of ep, rfl, _, _, rfl, _, _, rfl, _, _, rfl, rfl, ?_⟩
              refine hN1 _ _ ?_
              clear hN1 N1
              repeat (first | walk_at "oxs" | simp only [hv10, hq])
              refine ⟨by rw [sizeLine_eq]; omega, all ++ cl2, bg ++ [(n, v)], fl, _, _, _, _, _, _, _, rfl, A10.addW hv10 hqs, by rw [eda]; exact Q2, by rw [eda]; omega, by rw [eda]; omega, by rw [eda]; omega, by rw [List.length_append]; omega⟩
      · rintro σ H6 ⟨all, bg, fl, v4, v5, v6, v7, v8, v9, v10, rfl, A6, QQ, l1, l2, l3, l4⟩
        omega
    · cases h
end

section
variable {P : Program} {w : World} {K : PySem.W.Frag} {mg : Str → Option Value} {base : Heap} {c : Cs}
def DueI (H0 : Hp) (cl F D : Addr) (chs : List Ch) (i : Nat) (σ : L2.St) (H : Hp) : Prop := ∃ fs fl kn v3, σ = [some (.ref cl), some (.ref F), some (.ref D), v3] ∧ Same H0 H ∧ H0 F = none ∧ H0 D = none ∧ F ≠ D ∧ H F = some (.lst fs) ∧ Paired (IsFl H) fs fl ∧ H D = some (.lst (kn.map V.int)) ∧ kn = (chs.take i).map (·.n) ∧ dupsP chs [] = fl ++ dupsP (chs.drop i) kn ∧ fl.length ≤ i
theorem inV_int {n : Int} : ∀ {kn : List Int}, inV (.int n) (kn.map V.int) = decide (n ∈ kn)
  | [] => by simp [inV]
  | y :: r => by
    have ih := inV_int (n := n) (kn := r)
    unfold inV at ih ⊢
    rw [List.map_cons, List.any_cons, ih]
    show (decide (y = n) || decide (n ∈ r)) = _
    by_cases h : y = n
    · subst h; simp
    · have h2 : ¬ n = y := fun z => h z.symm
      simp [h, h2]
theorem flat_int {kn : List Int} : (kn.map V.int).all flatV = true := by
  induction kn with
  | nil => rfl
  | cons a l ih => rw [List.map_cons, List.all_cons, ih]; rfl
set_option maxHeartbeats 8000000 in
theorem ok_ldue (A : At K mg "_law_due" "_law_due" s_law_due ["chunks"]) (T : Txt K mg c) (H_law_queue : Has P w K mg base CX0 "_law_queue" 4 ["chunks"] (spAll c)) : Has P w K mg base CX0 "_law_due" 5 ["chunks"] (spFlaws c) := by
  have Sc := sc_law_due
  refine has_of A Sc (fun vs H Q E h => ?_) (fun cdv f A outer s H vs Q E hr h => ?_)
  · unfold spFlaws at h; split at h; rfl; cases h
  · unfold spFlaws at h
    split at h
    · rename_i cl
      obtain ⟨xs, chs, hcl, hxs, hc6, hr22, h⟩ := h
      have lx : xs.length = chs.length := Paired.length hxs
      refine ⟨_, (pss_cons (ps_set (i := 1) Sc.nd rfl (.inl rfl) (fe_lst pa_nil))
      (pss_cons (ps_set (i := 2) Sc.nd rfl (.inl rfl) (fe_lst pa_nil))
      (pss_cons (ps_for PassesOwn.never rfl (pi_list (fe_var 0)) (pg_name (i := 3) Sc.nd rfl (.inl rfl)) (pss_cons (ps_if (pt_cmpR op_fIn (fe_fld (fe_var 3) T.pl_number rfl) (fe_var 2) (by with_unfolding_all rfl)) (pss_one (ps_expr (fe_bm PySem.F.plainAttrs_list PySem.F.slot_list_append PySem.F.type_list_append isLst_ty mt_fAppend (fe_var 1) (pa_cons (fe_tup (pa_cons (fe_fld (fe_var 3) T.pl_number rfl) (pa_cons pe_int (pa_cons pe_str pa_nil)))) pa_nil)))) pss_nil)
      (pss_one (ps_expr (fe_bm PySem.F.plainAttrs_list PySem.F.slot_list_append PySem.F.type_list_append isLst_ty mt_fAppend (fe_var 2) (pa_cons (fe_fld (fe_var 3) T.pl_number rfl) pa_nil))))))
      (pss_cons (ps_if (pt_cmpR op_fNotIn pe_int (fe_var 2) (by with_unfolding_all rfl)) (pss_one (ps_ret (pe_op op_fAdd (fe_var 1) (fe_lst (pa_cons (fe_tup (pa_cons pe_int (pa_cons pe_int (pa_cons pe_str pa_nil)))) pa_nil))))) pss_nil)
      (pss_cons (ps_if (pt_cmpR (op_fNe hr.units) (fe_fld (pe_ix ix_fx (pe_lc (own := [("chunk", 3)]) (by rfl) Sc.nd (pi_list (fe_var 0)) (blkOk_by (own := [("chunk", 3)]) (N := ["chunks", "flaws", "numbers", "chunk"]) (sc := defScope s_law_due) (by decide +kernel)) (fun _ _ _ _ _ => (pg_name (i := 3) Sc.nd rfl (.inl rfl))) (fun _ _ _ _ _ => (pts_one (pt_cmpR (op_fEqK (K := K) hr.units rfl) (fe_fld (fe_var 3) T.pl_number rfl) pe_int (nomark _)))) (fun _ _ _ _ _ => (fe_var 3))) pe_int (fun _ _ => rfl)) T.pl_wanted rfl) pe_int (nomark _)) (pss_one (ps_ret (pe_op op_fAdd (fe_var 1) (fe_lst (pa_cons (fe_tup (pa_cons pe_int (pa_cons pe_int (pa_cons pe_str pa_nil)))) pa_nil))))) pss_nil)
      (pss_one (ps_ret (pe_op op_fAdd (fe_var 1) (fe_call H_law_queue (hr.mono (by walk_at "rm")) (by rfl) pass0 (pa_cons (fe_var 0) pa_nil)))))))))), ?_⟩
      walk_at "fx0"
      refine seq_ fun N hN => ?_
      repeat (walk_at "oxs")
      intro F H1 nF s1 eF
      refine hN _ _ ?_
      clear hN N
      refine seq_ fun N hN => ?_
      repeat (walk_at "oxs")
      intro D H2 nD s2 eD
      refine hN _ _ ?_
      clear hN N
      have nFD : F ≠ D := fun z => by rw [← z, eF] at nD; cases nD
      refine seq_ fun N hN => for_ ?_
      repeat (walk_at "oxs")
      have hcl2 := s2 _ _ (s1 _ _ hcl)
      refine ⟨⟨_, SqL.of hcl2⟩, ?_⟩
      refine loop_list xs (DueI H cl F D chs) ⟨[], [], [], _, rfl, s1.trans s2, nF, s1.free nD, nFD, s2 _ _ eF, .nil, eD, rfl, rfl, Nat.le_refl _⟩ (fun i σ H' _ h => ?_) (fun i x σ H' hx h' => ?_) fun σ H' h' => ?_
      · obtain ⟨_, _, _, _, rfl, s3, _⟩ := h
        exact SqL.of (s3 _ _ hcl)
      · obtain ⟨fs, fl, kn, v3, rfl, s3, n1, n2, n3, hF, hfs, hD, ek, hd, hl⟩ := h'
        obtain ⟨ch, ec, hch⟩ := paired_get hxs hx
        obtain ⟨y, dx, p, q, vs, rfl, g1, g2, g3⟩ := hch.same s3
        have hdr : chs.drop i = ch :: chs.drop (i + 1) := by rw [List.drop_eq_getElem?_toList_append, ec]; rfl
        have hdu : dupsP (chs.drop i) kn = (if ch.n ∈ kn then [mkF ch.n 0 "two functions have this number"] else []) ++ dupsP (chs.drop (i + 1)) (kn ++ [ch.n]) := by rw [hdr]; rfl
        rw [hdu] at hd
        have lf : fs.length = fl.length := Paired.length hfs
        have hi : i < xs.length := (List.getElem?_eq_some_iff.mp hx).1
        have ek1 : kn ++ [ch.n] = (chs.take (i + 1)).map (·.n) := by rw [ek, List.take_succ, ec, List.map_append]; rfl
        have lkn : kn.length ≤ 6 := by rw [ek, List.length_map, List.length_take]; omega
        simp only [gName, List.set_cons_succ, List.set_cons_zero]
        try dsimp only
        refine seq_ fun N1 hN1 => ?_
        try dsimp only
        have rest : ∀ H9 fs9 fl9, Same H H9 → H9 F = some (.lst fs9) → Paired (IsFl H9) fs9 fl9 → H9 D = some (.lst (kn.map V.int)) → H9 y = some (.ins c.Chunk dx [("number", .int ch.n), ("wanted", .int ch.w), ("rows", .ref p), ("scopes", .ref q)]) → dupsP chs [] = fl9 ++ dupsP (chs.drop (i + 1)) (kn ++ [ch.n]) → fl9.length ≤ i + 1 → N1 [some (.ref cl), some (.ref F), some (.ref D), some (.ref y)] H9 := by
          intro H9 fs9 fl9 s9 hF9 hfs9 hD9 g9 hd9 hl9
          refine hN1 _ _ ?_
          repeat (first | walk_at "oxs" | simp only [g9, hD9])
          refine ⟨by rw [List.length_map, sizeLine_eq]; omega, fs9, fl9, kn ++ [ch.n], _, rfl, sm_upd s9 n2, n1, n2, n3, by rw [upd_ne n3]; exact hF9, Paired.mapP hfs9 fun _ _ h => h.upd hD9 (fun _ z => by cases z), by rw [upd_same, List.map_append]; rfl, ek1, hd9, hl9⟩
        repeat (first | walk_at "oxs" | simp only [g1])
        refine ⟨_, rl_l hD, flat_int, ?_⟩
        rw [inV_int]
        by_cases hm : ch.n ∈ kn
        · rw [if_pos (by simpa using hm)]
          rw [if_pos hm] at hd
          simp only [hF, true_and]
          intro q2 H4 nq s4 eq
          have hF4 := s4 _ _ hF
          simp only [hF4]
          refine ⟨by rw [sizeLine_eq]; omega, ?_⟩
          refine rest _ _ (fl ++ [mkF ch.n 0 "two functions have this number"]) (sm_upd (s3.trans s4) n1) upd_same ?_ (by rw [upd_ne n3.symm]; exact s4 _ _ hD) (by rw [upd_ne (fun z => by rw [z, hF] at g1; cases g1)]; exact s4 _ _ g1) (by rw [hd, List.append_assoc]) (by rw [List.length_append, List.length_singleton]; omega)
          exact paired_snoc (Paired.mapP hfs fun _ _ h => (h.same s4).upd hF4 (fun _ z => by cases z)) (IsFl.upd ⟨q2, rfl, eq⟩ hF4 (fun _ z => by cases z))
        · rw [if_neg (by simpa using hm)]
          rw [if_neg hm, List.nil_append] at hd
          exact rest H' fs fl s3 hF hfs hD g1 hd (by omega)
      · obtain ⟨fs, fl, kn, v3, rfl, s3, n1, n2, n3, hF, hfs, hD, ek, hd, hl⟩ := h'
        refine hN _ _ ?_
        clear hN N
        have hdn : dupsP chs [] = fl := by
          rw [hd, lx, List.drop_eq_nil_of_le (Nat.le_refl _)]
          exact List.append_nil _
        have lf : fs.length = fl.length := Paired.length hfs
        rw [lx, List.take_length] at ek
        refine seq_ fun N hN => ?_
        repeat (walk_at "oxs")
        refine ⟨_, rl_l hD, flat_int, ?_⟩
        have f0 : firstC chs 0 = none ↔ ¬ (0 : Int) ∈ kn := by
          rw [ek]
          unfold firstC
          rw [List.find?_eq_none]
          constructor
          · intro g m
            obtain ⟨ch, mc, e⟩ := List.mem_map.mp m
            exact g ch mc (by simpa using e)
          · intro g ch mc e
            exact g (List.mem_map.mpr ⟨ch, mc, by simpa using e⟩)
        have fin : ∀ H4 la q2 (f : Fl), Same H' H4 → IsFl H4 (.ref q2) f → H4 la = some (.lst [.ref q2]) → flawsP chs = fl ++ [f] → ∀ p H5, H4 p = none → Same H4 H5 → H5 p = some (.lst (fs ++ [.ref q2])) → Q (.ref p) H5 := fun H4 la q2 f s4 hf ela e p H5 np s5 ep => by
          have s35 := s3.trans s4
          refine h p H5 (fs ++ [.ref q2]) (s35.free np) (s35.trans s5) ep ?_
          rw [e]
          exact paired_snoc (Paired.mapP hfs fun _ _ h => h.same (s4.trans s5)) (hf.same s5)
        rw [inV_int]
        by_cases hm : (0 : Int) ∈ kn
        · rw [if_neg (by simpa using hm)]
          obtain ⟨ch, e0⟩ := Option.ne_none_iff_exists'.mp (fun z => f0.mp z hm)
          refine hN _ _ ?_
          clear hN N
          refine seq_ fun N hN => ?_
          repeat (walk_at "oxs")
          have hcl3 := s3 _ _ hcl
          have hxs3 := Paired.mapP hxs fun _ _ h => IsCh.same h s3
          refine lc_ ?_
          repeat (walk_at "oxs")
          refine ⟨⟨_, SqL.of hcl3⟩, fun D2 nD2 => ?_⟩
          refine lcx_list (xs := xs) (FilI c H' D2 xs chs 0) ⟨same_new nD2, [], upd_same, Nat.le_refl _, .inl ⟨rfl, rfl⟩⟩ (fun i H' _ ⟨s, _⟩ => SqL.of (s _ _ hcl3)) ?_ ?_
          · intro i x H8 hx F8
            obtain ⟨ch8, ec8, hch8⟩ := paired_get hxs3 hx
            obtain ⟨y8, dx8, p8, q8, vs8, rfl, g1, g2, g3⟩ := hch8.same F8.1
            have hi8 : i < xs.length := (List.getElem?_eq_some_iff.mp hx).1
            walk_at "ox"
            repeat (first | walk_at "oxs" | simp only [g1])
            by_cases hn : ch8.n = 0
            · rw [if_pos hn]
              obtain ⟨acc, ea, la, F9⟩ := fil_yes nD2 F8 ec8 hn (List.mem_of_getElem? hx) hch8
              exact ⟨acc, ea, by rw [sizeLine_eq]; omega, F9⟩
            · rw [if_neg hn]
              exact fil_no F8 ec8 hn
          · intro H8 ⟨s8, acc, eD8, hl8, hh⟩
            rw [lx, List.take_length] at hh
            rcases hh with ⟨h1, _⟩ | ⟨ch', cv, tl, h1, rfl, _, hcv⟩
            · rw [e0] at h1; cases h1
            cases e0.symm.trans h1
            obtain ⟨y, dx, p, q, vs, rfl, g1, g2, g3⟩ := hcv.same s8
            repeat (walk_at "oxs")
            refine ⟨_, rl_l eD8, _, at0, ?_⟩
            repeat (first | walk_at "oxs" | simp only [g1])
            have hF8 := s8 _ _ hF
            by_cases ew : ch.w = 0
            · have e1 : flawsP chs = fl ++ flawsQ chs := by unfold flawsP restP; rw [e0, hdn]; dsimp only; rw [if_pos ew]
              rw [if_neg (fun z => z ew)]
              refine hN _ _ ?_
              clear hN N
              repeat (walk_at "oxs")
              have s38 := s3.trans s8
              refine ⟨xs, chs, s38 _ _ hcl, Paired.mapP hxs fun _ _ h => h.same s38, hc6, hr22, by rw [e0]; simp, fun p2 H5 fs5 np2 s5 ep2 hfs5 => ?_⟩
              have hF5 := s5 _ _ hF8
              repeat (first | walk_at "oxs" | simp only [hF5, ep2])
              have lq : fs5.length = (flawsQ chs).length := Paired.length hfs5
              have l4 := queue_len chs 400 [(0, 0)] [] []
              have l5 : (flawsQ chs).length ≤ 400 := by unfold flawsQ; simpa using l4
              refine ⟨by rw [sizeLine_eq]; omega, fun p9 H9 np9 s9 ep9 => ?_⟩
              refine h p9 H9 (fs ++ fs5) ((s38.trans s5).free np9) ((s38.trans s5).trans s9) ep9 ?_
              rw [e1]
              exact Paired.mapP (paired_app (Paired.mapP hfs fun _ _ h => h.same (s8.trans s5)) hfs5) fun _ _ h => h.same s9
            · have e1 : flawsP chs = fl ++ [mkF 0 0 "another number of parameters"] := by unfold flawsP restP; rw [e0, hdn]; dsimp only; rw [if_neg ew]
              rw [if_pos ew]
              intro q2 H4 nq s5 eq la H5 nla s6 ela
              have hF5 := s6 _ _ (s5 _ _ hF8)
              simp only [hF5, ela]
              exact ⟨by simp only [List.length_singleton]; rw [sizeLine_eq]; omega, fin H5 la q2 _ ((s8.trans s5).trans s6) ⟨q2, rfl, s6 _ _ eq⟩ ela e1⟩
        · rw [if_pos (by simpa using hm)]
          have e1 : flawsP chs = fl ++ [mkF 0 0 "no such function"] := by unfold flawsP restP; rw [f0.mpr hm, hdn]
          intro q2 H4 nq s5 eq la H5 nla s6 ela
          have hF5 := s6 _ _ (s5 _ _ hF)
          simp only [hF5, ela]
          exact ⟨by simp only [List.length_singleton]; rw [sizeLine_eq]; omega, fin H5 la q2 _ (s5.trans s6) ⟨q2, rfl, s6 _ _ eq⟩ ela e1⟩
    · cases h
end

section
variable {P : Program} {w : World} {K : PySem.W.Frag} {mg : Str → Option Value} {base : Heap} {c : Cs}
theorem Dr.ne2 {H0 : Hp} {s sc : Addr} {ns : List Int} {H : Hp} (d : Dr K H0 s sc ns H) {p : Addr} (np : H p = none) : p ≠ s := fun z => by
  obtain ⟨a, j, e, _⟩ := d.st
  rw [z, e] at np; cases np
theorem Dr.neT {H0 : Hp} {s sc : Addr} {ns : List Int} {H : Hp} (d : Dr K H0 s sc ns H) {p : Addr} {xs : List V} (e : H p = some (.tup xs)) : p ∉ [s] := fun z => by
  obtain ⟨a, j, e2, _⟩ := d.st
  rw [List.mem_singleton.mp z, e2] at e; cases e
def spLRow (K : PySem.W.Frag) : Sp := fun vs H Q _ => match vs with
  | [.ref s, .int m] => ∃ H0 sc ns, Dr K H0 s sc ns H ∧ 0 ≤ m ∧ m ≤ 5 ∧ ∀ H1 v r, Keep [s] H H1 → Dr K H0 s sc ns H1 → IsRw H1 v r → Q v H1
  | _ => False
set_option maxHeartbeats 8000000 in
theorem ok_lrow (A : At K mg "_law_row" "_law_row" s_law_row ["state", "many"]) (T : Txt K mg c) (H_law_draw : Has P w K mg base CX0 "_law_draw" 2 ["state", "many"] (spDraw K)) (H_law_pick : Has P w K mg base CX0 "_law_pick" 3 ["state", "row"] (spPick2 K)) : Has P w K mg base CX0 "_law_row" 4 ["state", "many"] (spLRow K) := by
  have Sc := sc_law_row
  refine has_of A Sc (fun vs H Q E h => ?_) (fun cdv f A outer s H vs Q E hr h => ?_)
  · unfold spLRow at h; split at h; rfl; cases h
  · unfold spLRow at h
    split at h
    · rename_i s m
      obtain ⟨H0, sc, ns, D, hm0, hm5, h⟩ := h
      refine ⟨_, (pss_cons (ps_set (i := 2) Sc.nd rfl (.inl rfl) (fe_call H_law_draw (hr.mono (by walk_at "rm")) (by rfl) pass0 (pa_cons (fe_var 0) (pa_cons pe_int pa_nil))))
      (pss_cons (ps_if (pt_cmpR op_fLt (fe_var 2) pe_int (nomark _)) (pss_one (ps_ret (fe_call H_law_pick (hr.mono (by walk_at "rm")) (by rfl) pass0 (pa_cons (fe_var 0) (pa_cons (fe_tup (pa_cons (fe_tup (pa_cons pe_str (pa_cons pe_int pa_nil))) (pa_cons (fe_tup (pa_cons pe_str (pa_cons pe_str pa_nil))) (pa_cons (fe_tup (pa_cons pe_str pa_nil)) (pa_cons (fe_tup (pa_cons pe_str pa_nil)) pa_nil))))) pa_nil))))) pss_nil)
      (pss_cons (ps_if (pt_cmpR (op_fEq hr.units) (fe_var 2) pe_int (nomark _)) (pss_one (ps_ret (fe_call H_law_pick (hr.mono (by walk_at "rm")) (by rfl) pass0 (pa_cons (fe_var 0) (pa_cons (fe_tup (pa_cons (fe_tup (pa_cons pe_str (pa_cons (fe_call H_law_draw (hr.mono (by walk_at "rm")) (by rfl) pass0 (pa_cons (fe_var 0) (pa_cons pe_int pa_nil))) pa_nil))) (pa_cons (fe_tup (pa_cons pe_str (pa_cons (fe_call H_law_draw (hr.mono (by walk_at "rm")) (by rfl) pass0 (pa_cons (fe_var 0) (pa_cons pe_int pa_nil))) pa_nil))) (pa_cons (fe_tup (pa_cons pe_str (pa_cons (fe_call H_law_draw (hr.mono (by walk_at "rm")) (by rfl) pass0 (pa_cons (fe_var 0) (pa_cons pe_int pa_nil))) pa_nil))) pa_nil)))) pa_nil))))) pss_nil)
      (pss_cons (ps_if (pt_cmpR (op_fEq hr.units) (fe_var 2) pe_int (nomark _)) (pss_one (ps_ret (fe_call H_law_pick (hr.mono (by walk_at "rm")) (by rfl) pass0 (pa_cons (fe_var 0) (pa_cons (fe_tup (pa_cons (fe_tup (pa_cons pe_str pa_nil)) (pa_cons (fe_tup (pa_cons pe_str (pa_cons pe_int pa_nil))) (pa_cons (fe_tup (pa_cons pe_str (pa_cons pe_int pa_nil))) (pa_cons (fe_tup (pa_cons pe_str (pa_cons pe_int pa_nil))) (pa_cons (fe_tup (pa_cons pe_str (pa_cons pe_int pa_nil))) pa_nil)))))) pa_nil))))) pss_nil)
      (pss_cons (ps_if (pt_cmpR (op_fEq hr.units) (fe_var 2) pe_int (nomark _)) (pss_one (ps_ret (fe_call H_law_pick (hr.mono (by walk_at "rm")) (by rfl) pass0 (pa_cons (fe_var 0) (pa_cons (fe_tup (pa_cons (fe_tup (pa_cons pe_str (pa_cons (fe_call H_law_draw (hr.mono (by walk_at "rm")) (by rfl) pass0 (pa_cons (fe_var 0) (pa_cons pe_int pa_nil))) pa_nil))) (pa_cons (fe_tup (pa_cons pe_str (pa_cons (fe_call H_law_draw (hr.mono (by walk_at "rm")) (by rfl) pass0 (pa_cons (fe_var 0) (pa_cons pe_int pa_nil))) (pa_cons pe_int pa_nil)))) pa_nil))) pa_nil))))) pss_nil)
      (pss_cons (ps_if (pt_cmpR (op_fEq hr.units) (fe_var 2) pe_int (nomark _)) (pss_one (ps_ret (fe_call H_law_pick (hr.mono (by walk_at "rm")) (by rfl) pass0 (pa_cons (fe_var 0) (pa_cons (fe_tup (pa_cons (fe_tup (pa_cons pe_str (pa_cons (fe_call H_law_draw (hr.mono (by walk_at "rm")) (by rfl) pass0 (pa_cons (fe_var 0) (pa_cons pe_int pa_nil))) (pa_cons pe_int pa_nil)))) (pa_cons (fe_tup (pa_cons pe_str (pa_cons pe_str (pa_cons (fe_call H_law_draw (hr.mono (by walk_at "rm")) (by rfl) pass0 (pa_cons (fe_var 0) (pa_cons pe_int pa_nil))) (pa_cons pe_int pa_nil))))) (pa_cons (fe_tup (pa_cons pe_str (pa_cons pe_str (pa_cons pe_int (pa_cons pe_int pa_nil))))) pa_nil)))) pa_nil))))) pss_nil)
      (pss_cons (ps_if (pt_cmpR (op_fEq hr.units) (fe_var 2) pe_int (nomark _)) (pss_one (ps_ret (fe_call H_law_pick (hr.mono (by walk_at "rm")) (by rfl) pass0 (pa_cons (fe_var 0) (pa_cons (fe_tup (pa_cons (fe_tup (pa_cons pe_str (pa_cons pe_str (pa_cons pe_int pa_nil)))) (pa_cons (fe_tup (pa_cons pe_str (pa_cons pe_str pa_nil))) (pa_cons (fe_tup (pa_cons pe_str (pa_cons pe_int pa_nil))) (pa_cons (fe_tup (pa_cons pe_str (pa_cons pe_str (pa_cons pe_int pa_nil)))) (pa_cons (fe_tup (pa_cons pe_str (pa_cons pe_str (pa_cons pe_int pa_nil)))) pa_nil)))))) pa_nil))))) pss_nil)
      (pss_cons (ps_if (pt_cmpR (op_fEq hr.units) (fe_var 2) pe_int (nomark _)) (pss_one (ps_ret (fe_call H_law_pick (hr.mono (by walk_at "rm")) (by rfl) pass0 (pa_cons (fe_var 0) (pa_cons (fe_tup (pa_cons (fe_tup (pa_cons pe_str pa_nil)) (pa_cons (fe_tup (pa_cons pe_str pa_nil)) (pa_cons (fe_tup (pa_cons pe_str (pa_cons pe_int pa_nil))) (pa_cons (fe_tup (pa_cons pe_str (pa_cons pe_non pa_nil))) pa_nil))))) pa_nil))))) pss_nil)
      (pss_one (ps_ret (fe_tup (pa_cons pe_str (pa_cons (fe_call H_law_draw (hr.mono (by walk_at "rm")) (by rfl) pass0 (pa_cons (fe_var 0) (pa_cons (pe_op op_fAdd (fe_var 1) pe_int) pa_nil))) (pa_cons (fe_call H_law_draw (hr.mono (by walk_at "rm")) (by rfl) pass0 (pa_cons (fe_var 0) (pa_cons pe_int pa_nil))) pa_nil)))))))))))))), ?_⟩
      walk_at "fx0"
      refine seq_ fun N hN => ?_
      repeat (walk_at "oxs")
      refine ⟨H0, sc, ns, D, by omega, by omega, fun H1 kd k1 D1 d0 d1 => ?_⟩
      refine hN _ _ ?_
      clear hN N
      have pick : ∀ (xs : List V) (p : Addr) (H2 : Hp), Keep [s] H H2 → Dr K H0 s sc ns H2 → H2 p = some (.tup xs) → 0 < xs.length → xs.length ≤ 1000 → (∀ v ∈ xs, ∃ r, IsRw H2 v r) → spPick2 K [.ref s, .ref p] H2 Q E0 := fun xs p H2 k2 D2 ep l0 l1 hx => by
        refine ⟨H0, sc, ns, xs, D2, fun H3 k3 => rl_t (k3 _ _ (D2.neT ep) ep), l0, l1, fun H3 v k3 D3 hv => ?_⟩
        obtain ⟨r, a, rfl, ea⟩ := hx v hv
        exact h H3 _ r (k2.trans k3) D3 ⟨a, rfl, k3 _ _ (D2.neT ea) ea⟩
      refine seq_ fun N hN => ?_
      repeat (walk_at "oxs")
      by_cases h4 : kd < 4
      · rw [if_pos h4]
        intro p1 H2 n1 s2 e1 p2 H3 n2 s3 e2 p3 H4 n3 s4 e3 p4 H5 n4 s5 e4 p5 H6 n5 s6 e5
        refine pick _ p5 H6 (k1.trans (Keep.of (s2.trans (s3.trans (s4.trans (s5.trans s6)))))) (D1.same (s2.trans (s3.trans (s4.trans (s5.trans s6))))) e5 (by simp) (by simp) fun v hv => ?_
        simp only [List.mem_cons, List.not_mem_nil, or_false] at hv
        rcases hv with rfl | rfl | rfl | rfl
        · exact ⟨.con 1, p1, rfl, s6 _ _ (s5 _ _ (s4 _ _ (s3 _ _ e1)))⟩
        · exact ⟨.conA, p2, rfl, s6 _ _ (s5 _ _ (s4 _ _ e2))⟩
        · exact ⟨.decl, p3, rfl, s6 _ _ (s5 _ _ e3)⟩
        · exact ⟨.blank, p4, rfl, s6 _ _ e4⟩
      rw [if_neg h4]
      refine hN _ _ ?_
      clear hN N
      refine seq_ fun N hN => ?_
      repeat (walk_at "oxs")
      by_cases hk4 : kd = 4
      · rw [if_pos hk4]
        refine ⟨H0, sc, ns, D1, by omega, by omega, fun H2 x2 k2 D2 a0 a1 => ?_⟩
        obtain ⟨x, rfl⟩ := Int.eq_ofNat_of_zero_le a0
        intro p1 H3 n3 s3 e3
        have D3 := D2.same s3
        refine ⟨H0, sc, ns, D3, by omega, by omega, fun H4 x4 k4 D4 b0 b1 => ?_⟩
        obtain ⟨y, rfl⟩ := Int.eq_ofNat_of_zero_le b0
        have e34 := k4 _ _ (D3.neT e3) e3
        intro p2 H5 n5 s5 e5
        have D5 := D4.same s5
        have e35 := s5 _ _ e34
        refine ⟨H0, sc, ns, D5, by omega, by omega, fun H6 x6 k6 D6 c0 c1 => ?_⟩
        obtain ⟨z, rfl⟩ := Int.eq_ofNat_of_zero_le c0
        have e36 := k6 _ _ (D5.neT e35) e35
        have e56 := k6 _ _ (D5.neT e5) e5
        intro p3 H7 n7 s7 e7 p4 H8 n8 s8 e8
        have kk := k1.trans (k2.trans ((Keep.of s3).trans (k4.trans ((Keep.of s5).trans (k6.trans (Keep.of (s7.trans s8)))))))
        refine pick _ p4 H8 kk (D6.same (s7.trans s8)) e8 (by simp) (by simp) fun v hv => ?_
        simp only [List.mem_cons, List.not_mem_nil, or_false] at hv
        rcases hv with rfl | rfl | rfl
        · exact ⟨.load x, p1, rfl, s8 _ _ (s7 _ _ e36)⟩
        · exact ⟨.save y, p2, rfl, s8 _ _ (s7 _ _ e56)⟩
        · exact ⟨.drop z, p3, rfl, s8 _ _ e7⟩
      rw [if_neg hk4]
      refine hN _ _ ?_
      clear hN N
      refine seq_ fun N hN => ?_
      repeat (walk_at "oxs")
      by_cases hk5 : kd = 5
      · rw [if_pos hk5]
        intro p1 H2 n1 s2 e1 p2 H3 n2 s3 e2 p3 H4 n3 s4 e3 p4 H5 n4 s5 e4 p5 H6 n5 s6 e5 p6 H7 n6 s7 e6
        refine pick _ p6 H7 (k1.trans (Keep.of (s2.trans (s3.trans (s4.trans (s5.trans (s6.trans s7))))))) (D1.same (s2.trans (s3.trans (s4.trans (s5.trans (s6.trans s7)))))) e6 (by simp) (by simp) fun v hv => ?_
        simp only [List.mem_cons, List.not_mem_nil, or_false] at hv
        rcases hv with rfl | rfl | rfl | rfl | rfl
        · exact ⟨.pop, p1, rfl, s7 _ _ (s6 _ _ (s5 _ _ (s4 _ _ (s3 _ _ e1))))⟩
        · exact ⟨.not, p2, rfl, s7 _ _ (s6 _ _ (s5 _ _ (s4 _ _ e2)))⟩
        · exact ⟨.add, p3, rfl, s7 _ _ (s6 _ _ (s5 _ _ e3))⟩
        · exact ⟨.item, p4, rfl, s7 _ _ (s6 _ _ e4)⟩
        · exact ⟨.setI, p5, rfl, s7 _ _ e5⟩
      rw [if_neg hk5]
      refine hN _ _ ?_
      clear hN N
      refine seq_ fun N hN => ?_
      repeat (walk_at "oxs")
      by_cases hk6 : kd = 6
      · rw [if_pos hk6]
        refine ⟨H0, sc, ns, D1, by omega, by omega, fun H2 x2 k2 D2 a0 a1 => ?_⟩
        obtain ⟨x, rfl⟩ := Int.eq_ofNat_of_zero_le a0
        intro p1 H3 n3 s3 e3
        have D3 := D2.same s3
        refine ⟨H0, sc, ns, D3, by omega, by omega, fun H4 x4 k4 D4 b0 b1 => ?_⟩
        obtain ⟨y, rfl⟩ := Int.eq_ofNat_of_zero_le b0
        have e34 := k4 _ _ (D3.neT e3) e3
        intro p2 H5 n5 s5 e5 p3 H6 n6 s6 e6
        have kk := k1.trans (k2.trans ((Keep.of s3).trans (k4.trans (Keep.of (s5.trans s6)))))
        refine pick _ p3 H6 kk (D4.same (s5.trans s6)) e6 (by simp) (by simp) fun v hv => ?_
        simp only [List.mem_cons, List.not_mem_nil, or_false] at hv
        rcases hv with rfl | rfl
        · exact ⟨.list x, p1, rfl, s6 _ _ (s5 _ _ e34)⟩
        · exact ⟨.map ⟨y, by omega⟩, p2, rfl, s6 _ _ e5⟩
      rw [if_neg hk6]
      refine hN _ _ ?_
      clear hN N
      refine seq_ fun N hN => ?_
      repeat (walk_at "oxs")
      by_cases hk7 : kd = 7
      · rw [if_pos hk7]
        refine ⟨H0, sc, ns, D1, by omega, by omega, fun H2 x2 k2 D2 a0 a1 => ?_⟩
        obtain ⟨x, rfl⟩ := Int.eq_ofNat_of_zero_le a0
        intro p1 H3 n3 s3 e3
        have D3 := D2.same s3
        refine ⟨H0, sc, ns, D3, by omega, by omega, fun H4 x4 k4 D4 b0 b1 => ?_⟩
        obtain ⟨y, rfl⟩ := Int.eq_ofNat_of_zero_le b0
        have e34 := k4 _ _ (D3.neT e3) e3
        intro p2 H5 n5 s5 e5 p3 H6 n6 s6 e6 p4 H7 n7 s7 e7
        have kk := k1.trans (k2.trans ((Keep.of s3).trans (k4.trans (Keep.of (s5.trans (s6.trans s7))))))
        refine pick _ p4 H7 kk (D4.same (s5.trans (s6.trans s7))) e7 (by simp) (by simp) fun v hv => ?_
        simp only [List.mem_cons, List.not_mem_nil, or_false] at hv
        rcases hv with rfl | rfl | rfl
        · exact ⟨.call x, p1, rfl, s7 _ _ (s6 _ _ (s5 _ _ e34))⟩
        · exact ⟨.invoke y, p2, rfl, s7 _ _ (s6 _ _ e5)⟩
        · exact ⟨.super, p3, rfl, s7 _ _ e6⟩
      rw [if_neg hk7]
      refine hN _ _ ?_
      clear hN N
      refine seq_ fun N hN => ?_
      repeat (walk_at "oxs")
      by_cases hk8 : kd = 8
      · rw [if_pos hk8]
        intro p1 H2 n1 s2 e1 p2 H3 n2 s3 e2 p3 H4 n3 s4 e3 p4 H5 n4 s5 e4 p5 H6 n5 s6 e5 p6 H7 n6 s7 e6
        refine pick _ p6 H7 (k1.trans (Keep.of (s2.trans (s3.trans (s4.trans (s5.trans (s6.trans s7))))))) (D1.same (s2.trans (s3.trans (s4.trans (s5.trans (s6.trans s7)))))) e6 (by simp) (by simp) fun v hv => ?_
        simp only [List.mem_cons, List.not_mem_nil, or_false] at hv
        rcases hv with rfl | rfl | rfl | rfl | rfl
        · exact ⟨.klass, p1, rfl, s7 _ _ (s6 _ _ (s5 _ _ (s4 _ _ (s3 _ _ e1))))⟩
        · exact ⟨.meth, p2, rfl, s7 _ _ (s6 _ _ (s5 _ _ (s4 _ _ e2)))⟩
        · exact ⟨.iter, p3, rfl, s7 _ _ (s6 _ _ (s5 _ _ e3))⟩
        · exact ⟨.fld, p4, rfl, s7 _ _ (s6 _ _ e4)⟩
        · exact ⟨.setF, p5, rfl, s7 _ _ e5⟩
      rw [if_neg hk8]
      refine hN _ _ ?_
      clear hN N
      refine seq_ fun N hN => ?_
      repeat (walk_at "oxs")
      by_cases hk9 : kd = 9
      · rw [if_pos hk9]
        intro p1 H2 n1 s2 e1 p2 H3 n2 s3 e2 p3 H4 n3 s4 e3 p4 H5 n4 s5 e4 p5 H6 n5 s6 e5
        refine pick _ p5 H6 (k1.trans (Keep.of (s2.trans (s3.trans (s4.trans (s5.trans s6)))))) (D1.same (s2.trans (s3.trans (s4.trans (s5.trans s6))))) e5 (by simp) (by simp) fun v hv => ?_
        simp only [List.mem_cons, List.not_mem_nil, or_false] at hv
        rcases hv with rfl | rfl | rfl | rfl
        · exact ⟨.leave, p1, rfl, s6 _ _ (s5 _ _ (s4 _ _ (s3 _ _ e1)))⟩
        · exact ⟨.blank, p2, rfl, s6 _ _ (s5 _ _ (s4 _ _ e2))⟩
        · exact ⟨.con 3, p3, rfl, s6 _ _ (s5 _ _ e3)⟩
        · exact ⟨.conN, p4, rfl, s6 _ _ e4⟩
      rw [if_neg hk9]
      refine hN _ _ ?_
      clear hN N
      repeat (walk_at "oxs")
      refine ⟨H0, sc, ns, D1, by omega, by omega, fun H2 x2 k2 D2 a0 a1 => ?_⟩
      obtain ⟨x, rfl⟩ := Int.eq_ofNat_of_zero_le a0
      refine ⟨H0, sc, ns, D2, by omega, by omega, fun H4 x4 k4 D4 b0 b1 => ?_⟩
      obtain ⟨y, rfl⟩ := Int.eq_ofNat_of_zero_le b0
      intro p H5 n5 s5 e5
      exact h H5 _ (.clos x y) (k1.trans (k2.trans (k4.trans (Keep.of s5)))) (D4.same s5) ⟨p, rfl, e5⟩
    · cases h
end

section
variable {P : Program} {w : World} {K : PySem.W.Frag} {mg : Str → Option Value} {base : Heap} {c : Cs}
/-! ### chunks -/
def spMkChunk (K : PySem.W.Frag) (c : Cs) : Sp := fun vs H Q _ => match vs with
  | [v1, v2, .ref r] => ∃ rs, Rl K H r rs ∧ ∀ y dx p q H1, H y = none → Same H H1 → H1 y = some (.ins c.Chunk dx [("number", v1), ("wanted", v2), ("rows", .ref p), ("scopes", .ref q)]) → H p = none → H1 p = some (.lst rs) → H q = none → H1 q = some (.lst []) → p ≠ y → q ≠ y → q ≠ p → Q (.ref y) H1
  | _ => False
theorem mk_Chunk (A : AtD K c.Chunk "__init__" "Chunk.__init__" s_Chunk___init__ ["self", "number", "wanted", "rows", "scopes"]) (T : Txt K mg c) : HasCD P w K mg base CX0 c.Chunk "Chunk" 1 ["self", "number", "wanted", "rows", "scopes"] (spMkChunk K c) := by
  have Sc := sc_Chunk___init__
  refine hasCD_of T.mk_Chunk A Sc (fun vs H Q E h => ?_) (fun cdv A outer s f H vs Q E y dx e H0 hr h hy hs h0 hE => ?_)
  · unfold spMkChunk at h; split at h; rfl; cases h
  · unfold spMkChunk at h
    split at h
    · rename_i v1 v2 r
      obtain ⟨rs, hrs, h⟩ := h
      refine ⟨_, (pss_cons (fs_fld (fe_var 0) (fe_var 1) T.pl_number rfl)
      (pss_cons (fs_fld (fe_var 0) (fe_var 2) T.pl_wanted rfl)
      (pss_cons (fs_fld (fe_var 0) (pe_callTy call_fListOf (by rfl) T.no_list (by decide +kernel) (pa_cons (fe_var 3) pa_nil)) T.pl_rows rfl)
      (pss_one (fs_fld (fe_var 0) (pe_callTy call_fListOf (by rfl) T.no_list (by decide +kernel) (pa_cons (fe_var 4) pa_nil)) T.pl_scopes rfl))))), ?_⟩
      walk_at "fx0"
      repeat (first | walk_at "oxs" | simp only [h0])
      refine ⟨rs, rl_keep (mk_same hs hy) hrs, fun p H1 np sp ep => ?_⟩
      have ey1 := sp _ _ upd_same
      have npy : p ≠ y := fun z => by rw [z, upd_same] at np; cases np
      have np0 : H p = none := (mk_same hs hy).free np
      have sm1 : Same H H1 := (mk_same hs hy).trans sp
      repeat (first | walk_at "oxs" | simp only [ey1])
      refine ⟨[], .inr (hE _), fun q H2 nq s2 eq => ?_⟩
      have sm2 : ∀ o, Same H (upd H1 y o) := fun o => mk_same sm1 hy
      have ey2 := s2 _ _ upd_same
      have nqy : q ≠ y := fun z => by rw [z, upd_same] at nq; cases nq
      have ep1 : ∀ o, upd H1 y o p = some (.lst rs) := fun o => by rw [upd_ne npy]; exact ep
      have nqp : q ≠ p := fun z => by rw [z, ep1] at nq; cases nq
      repeat (first | walk_at "oxs" | simp only [ey2])
      refine h y dx p q _ hy (mk_same ((sm2 _).trans s2) hy) upd_same np0 ?_ ((sm2 _).free nq) ?_ npy nqy nqp
      · rw [upd_ne npy]; exact s2 _ _ (ep1 _)
      · rw [upd_ne nqy]; exact eq
    · cases h
end

section
variable {P : Program} {w : World} {K : PySem.W.Frag} {mg : Str → Option Value} {base : Heap} {c : Cs}
def spLInt : Sp := fun vs H Q _ => match vs with
  | [.int _] => Q (.bl true) H
  | _ => False
theorem ok_lint (A : At K mg "_law_is_integer" "_law_is_integer" s_law_is_integer ["told"]) (T : Txt K mg c) : Has P w K mg base CX0 "_law_is_integer" 1 ["told"] spLInt := by
  have Sc := sc_law_is_integer
  refine has_of A Sc (fun vs H Q E h => ?_) (fun cdv f A outer s H vs Q E hr h => ?_)
  · unfold spLInt at h; split at h; rfl; cases h
  · unfold spLInt at h
    split at h
    · refine ⟨_, (pss_one (ps_ret (pe_and (pe_callB (call_fIsiA T.kit) (by rfl) T.no_isinstance (by decide +kernel) (pa_cons (fe_var 0) (pa_cons (fe_ty (n := "int") (by rfl) T.no_int (by decide +kernel)) pa_nil))) (pe_one (pe_not (pe_callB (call_fIsiA T.kit) (by rfl) T.no_isinstance (by decide +kernel) (pa_cons (fe_var 0) (pa_cons (fe_ty (n := "bool") (by rfl) T.no_bool (by decide +kernel)) pa_nil)))))))), ?_⟩
      walk_at "fx0"
      repeat (walk_at "oxs")
      exact h
    · cases h
def spLaw (K : PySem.W.Frag) : Sp := fun vs H Q _ => ∃ (a : Addr) (ns : List Int), vs = [.ref a] ∧ SqL K H a (ns.map V.int) ∧ ns.length ≤ 63 ∧ ∀ H', Q (.bl true) H'
def LawI (H0 : Hp) (sc : Addr) (σ : L2.St) (H : Hp) : Prop := ∃ v1 v2 v3 v4 v5 v6 v7 v8 v9 v10 v11, σ = [some (.ref sc), v1, v2, v3, v4, v5, v6, v7, v8, v9, v10, v11] ∧ Same H0 H
theorem paired_rep {α β : Type} {F : α → β → Prop} {xs : List α} {ys : List β} (h : Paired F xs ys) : ∀ n : Nat, Paired F (List.replicate n xs).flatten (List.replicate n ys).flatten
  | 0 => .nil
  | n + 1 => by
    rw [List.replicate_succ, List.replicate_succ, List.flatten_cons, List.flatten_cons]
    exact paired_app h (paired_rep h n)
theorem rep_len {α : Type} {xs : List α} (n : Nat) (h : xs.length = 3) : ((List.replicate n xs).flatten).length = 3 * n := by
  induction n with
  | zero => rfl
  | succ n ih => rw [List.replicate_succ, List.flatten_cons, List.length_append, ih, h]; omega
def IsChS (c : Cs) (H : Hp) (s CL : Addr) (v : V) (ch : Ch) : Prop := ∃ y dx p q vs, v = .ref y ∧ H y = some (.ins c.Chunk dx [("number", .int ch.n), ("wanted", .int ch.w), ("rows", .ref p), ("scopes", .ref q)]) ∧ H p = some (.lst vs) ∧ Paired (IsRw H) vs ch.rows ∧ p ≠ s ∧ p ≠ CL
theorem IsRw.keep {H H' : Hp} {ps : List Addr} {v : V} {r : Rw37} (h : IsRw H v r) (k : Keep ps H H') (hp : ∀ p ∈ ps, ∀ xs, H p ≠ some (.tup xs)) : IsRw H' v r := by
  obtain ⟨a, e, h⟩ := h
  exact ⟨a, e, k _ _ (fun m => hp a m _ h) h⟩
theorem IsChS.keep {H H' : Hp} {s CL : Addr} {v : V} {ch : Ch} {l1 l2 : List V} (h : IsChS c H s CL v ch) (k : Keep [s, CL] H H') (e1 : H s = some (.lst l1)) (e2 : H CL = some (.lst l2)) : IsChS c H' s CL v ch := by
  obtain ⟨y, dx, p, q, vs, e, h1, h2, h3, h4, h5⟩ := h
  refine ⟨y, dx, p, q, vs, e, k _ _ ?_ h1, k _ _ (by simp [h4, h5]) h2, Paired.mapP h3 fun _ _ h => IsRw.keep h k ?_, h4, h5⟩
  · intro m
    simp only [List.mem_cons, List.not_mem_nil, or_false] at m
    rcases m with rfl | rfl
    · rw [e1] at h1; cases h1
    · rw [e2] at h1; cases h1
  · intro a m xs ea
    simp only [List.mem_cons, List.not_mem_nil, or_false] at m
    rcases m with rfl | rfl
    · rw [e1] at ea; cases ea
    · rw [e2] at ea; cases ea
theorem IsChS.ch {H : Hp} {s CL : Addr} {v : V} {ch : Ch} (h : IsChS c H s CL v ch) : IsCh c H v ch := by
  obtain ⟨y, dx, p, q, vs, e, h1, h2, h3, h4, h5⟩ := h
  exact ⟨y, dx, p, q, vs, e, h1, h2, h3⟩
def ChkI (K : PySem.W.Frag) (c : Cs) (H0 : Hp) (s sc CL : Addr) (ns : List Int) (k : Nat) (many : Nat) (j : Nat) (σ : L2.St) (H : Hp) : Prop := ∃ xs chs v5 v6 v7 v8 v9 v10 v11, σ = [some (.ref sc), some (.int k), some (.ref s), some (.int many), some (.ref CL), v5, v6, v7, v8, v9, v10, v11] ∧ Dr K H0 s sc ns H ∧ H0 CL = none ∧ CL ≠ s ∧ H CL = some (.lst xs) ∧ Paired (IsChS c H s CL) xs chs ∧ chs.length = j ∧ ∀ ch ∈ chs, ch.rows.length ≤ 22
def RwsI (K : PySem.W.Frag) (H0 H1 : Hp) (s sc D : Addr) (ns : List Int) (i : Nat) (H : Hp) : Prop := Dr K H0 s sc ns H ∧ Keep [s] H1 H ∧ ∃ acc rws, H D = some (.lst acc) ∧ Paired (IsRw H) acc rws ∧ rws.length = i
set_option maxHeartbeats 8000000 in
theorem law_has {fa : Addr} {fd : FuncData} (F : Fun K "law" "law" s_law fa fd) (T : Txt K mg c) (H_law_begin : Has P w K mg base CX0 "_law_begin" 1 ["script", "k"] (spBegin K)) (H_law_draw : Has P w K mg base CX0 "_law_draw" 2 ["state", "many"] (spDraw K)) (H_law_pick : Has P w K mg base CX0 "_law_pick" 3 ["state", "row"] (spPick2 K)) (H_law_row : Has P w K mg base CX0 "_law_row" 4 ["state", "many"] (spLRow K)) (M_Chunk : HasCD P w K mg base CX0 c.Chunk "Chunk" 1 ["self", "number", "wanted", "rows", "scopes"] (spMkChunk K c)) (H_flaws_of : Has P w K mg base CX0 "flaws_of" 8 ["chunks"] (spFlaws c)) (H_law_due : Has P w K mg base CX0 "_law_due" 5 ["chunks"] (spFlaws c)) (H_law_is_integer : Has P w K mg base CX0 "_law_is_integer" 1 ["told"] spLInt) : FnOk P w K mg base CX0 9 fa fd ["script"] (spLaw K) := by
  have Sc := sc_law
  refine F.ok Sc (fun vs H Q E h => ?_) (fun cdv A outer s H vs Q E hr h => ?_)
  · obtain ⟨a, ns, rfl, _⟩ := h; rfl
  · obtain ⟨sc, ns, rfl, hS, hn, hq⟩ := h
    refine ⟨_, (pss_cons (ps_for PassesOwn.never rfl (pi_range1 (by rfl) T.no_range (pa_cons (pe_callB (call_fMin rfl) (by rfl) T.no_min (by decide +kernel) (pa_cons pe_int (pa_cons (pe_callB (call_fMax rfl) (by rfl) T.no_max (by decide +kernel) (pa_cons pe_int (pa_cons (pe_callB call_fLen (by rfl) T.no_len (by decide +kernel) (pa_cons (fe_var 0) pa_nil)) pa_nil))) pa_nil))) pa_nil)) (pg_name (i := 1) Sc.nd rfl (.inl rfl)) (pss_cons (ps_set (i := 2) Sc.nd rfl (.inr rfl) (fe_call H_law_begin (hr.mono (by walk_at "rm")) (by rfl) pass0 (pa_cons (fe_var 0) (pa_cons (pe_op op_fMul pe_int (fe_var 1)) pa_nil))))
      (pss_cons (ps_set (i := 3) Sc.nd rfl (.inr rfl) (fe_call H_law_draw (hr.mono (by walk_at "rm")) (by rfl) pass0 (pa_cons (fe_var 2) (pa_cons pe_int pa_nil))))
      (pss_cons (ps_set (i := 4) Sc.nd rfl (.inl rfl) (fe_lst pa_nil))
      (pss_cons (ps_for PassesOwn.never rfl (pi_range1 (by rfl) T.no_range (pa_cons (fe_var 3) pa_nil)) (pg_name (i := 5) Sc.nd rfl (.inl rfl)) (pss_cons (ps_set (i := 6) Sc.nd rfl (.inl rfl) (fe_var 5))
      (pss_cons (ps_if (pt_cmpR (op_fEq hr.units) (fe_call H_law_draw (hr.mono (by walk_at "rm")) (by rfl) pass0 (pa_cons (fe_var 2) (pa_cons pe_int pa_nil))) pe_int (nomark _)) (pss_one (ps_set (i := 6) Sc.nd rfl (.inl rfl) (fe_call H_law_draw (hr.mono (by walk_at "rm")) (by rfl) pass0 (pa_cons (fe_var 2) (pa_cons (fe_var 3) pa_nil))))) pss_nil)
      (pss_cons (ps_setLc (i := 7) (own := [("i", 11)]) (by rfl) Sc.nd rfl rfl (sw_true rfl rfl rfl (by decide +kernel)) (pi_range1 (by rfl) T.no_range (pa_cons (fe_call H_law_draw (hr.mono (by walk_at "rm")) (by rfl) pass0 (pa_cons (fe_var 2) (pa_cons pe_int pa_nil))) pa_nil)) (blkOk_by (own := [("i", 11)]) (N := ["script", "k", "state", "many", "chunks", "j", "number", "rows", "wanted", "told", "due", "i"]) (sc := defScope s_law) (by decide +kernel)) (fun _ _ _ _ _ => (pg_name (i := 11) Sc.nd rfl (.inl rfl))) (fun _ _ _ _ _ => pts_nil) (fun _ _ _ _ _ => (fe_call H_law_row (hr.mono (by walk_at "rm")) (by rfl) pass0 (pa_cons (fe_var 2) (pa_cons (fe_var 3) pa_nil)))))
      (pss_cons (ps_set (i := 7) Sc.nd rfl (.inl rfl) (pe_op op_fAdd (pe_op op_fMul (fe_lst (pa_cons (fe_tup (pa_cons pe_str (pa_cons pe_int pa_nil))) (pa_cons (fe_tup (pa_cons pe_str (pa_cons pe_int pa_nil))) (pa_cons (fe_tup (pa_cons pe_str pa_nil)) pa_nil)))) (fe_call H_law_draw (hr.mono (by walk_at "rm")) (by rfl) pass0 (pa_cons (fe_var 2) (pa_cons pe_int pa_nil)))) (fe_var 7)))
      (pss_cons (ps_set (i := 7) Sc.nd rfl (.inl rfl) (pe_op op_fAdd (fe_var 7) (fe_call H_law_pick (hr.mono (by walk_at "rm")) (by rfl) pass0 (pa_cons (fe_var 2) (pa_cons (fe_tup (pa_cons (fe_lst (pa_cons (fe_tup (pa_cons pe_str (pa_cons pe_int pa_nil))) (pa_cons (fe_tup (pa_cons pe_str pa_nil)) pa_nil))) (pa_cons (fe_lst (pa_cons (fe_tup (pa_cons pe_str (pa_cons pe_int pa_nil))) (pa_cons (fe_tup (pa_cons pe_str (pa_cons pe_int pa_nil))) pa_nil))) (pa_cons (fe_lst (pa_cons (fe_tup (pa_cons pe_str pa_nil)) pa_nil)) (pa_cons (fe_lst pa_nil) pa_nil))))) pa_nil)))))
      (pss_cons (ps_set (i := 8) Sc.nd rfl (.inl rfl) pe_int)
      (pss_cons (ps_if (pt_cmpR op_fGt (fe_var 6) pe_int (nomark _)) (pss_one (ps_set (i := 8) Sc.nd rfl (.inl rfl) (fe_call H_law_draw (hr.mono (by walk_at "rm")) (by rfl) pass0 (pa_cons (fe_var 2) (pa_cons pe_int pa_nil))))) pss_nil)
      (pss_cons (ps_if (pt_cmpR (op_fEq hr.units) (fe_call H_law_draw (hr.mono (by walk_at "rm")) (by rfl) pass0 (pa_cons (fe_var 2) (pa_cons pe_int pa_nil))) pe_int (nomark _)) (pss_one (ps_set (i := 8) Sc.nd rfl (.inl rfl) pe_int)) pss_nil)
      (pss_one (ps_expr (fe_bm PySem.F.plainAttrs_list PySem.F.slot_list_append PySem.F.type_list_append isLst_ty mt_fAppend (fe_var 4) (pa_cons (fe_makeD (k := _) M_Chunk (hr.mono (by walk_at "rm")) (by rfl) pass0 (pa_cons (fe_var 6) (pa_cons (fe_var 8) (pa_cons (fe_var 7) pa_nil)))) pa_nil)))))))))))))
      (pss_cons (ps_set (i := 9) Sc.nd rfl (.inl rfl) (fe_call H_flaws_of (hr.mono (by walk_at "rm")) (by rfl) pass0 (pa_cons (fe_var 4) pa_nil)))
      (pss_cons (ps_set (i := 10) Sc.nd rfl (.inl rfl) (fe_call H_law_due (hr.mono (by walk_at "rm")) (by rfl) pass0 (pa_cons (fe_var 4) pa_nil)))
      (pss_cons (ps_if (PW.pt (pw_or (pt_not (pt_val (pe_callB (call_fIsiA T.kit) (by rfl) T.no_isinstance (by decide +kernel) (pa_cons (fe_var 9) (pa_cons (fe_ty (n := "list") (by rfl) T.no_list (by decide +kernel)) pa_nil))))) (pw_or1 (pt_cmpR (op_fNe hr.units) (pe_callB call_fLen (by rfl) T.no_len (by decide +kernel) (pa_cons (fe_var 9) pa_nil)) (pe_callB call_fLen (by rfl) T.no_len (by decide +kernel) (pa_cons (fe_var 10) pa_nil)) (nomark _))))) (pss_one (ps_ret pe_bl)) pss_nil)
      (pss_one (ps_for PassesOwn.never rfl (pi_range1 (by rfl) T.no_range (pa_cons (pe_callB call_fLen (by rfl) T.no_len (by decide +kernel) (pa_cons (fe_var 10) pa_nil)) pa_nil)) (pg_name (i := 5) Sc.nd rfl (.inl rfl)) (pss_one (ps_if (PW.pt (pw_or (pt_not (pt_val (pe_callB (call_fIsiA T.kit) (by rfl) T.no_isinstance (by decide +kernel) (pa_cons (pe_ix ix_fx (fe_var 9) (fe_var 5) (fun _ _ => rfl)) (pa_cons (fe_ty (n := "tuple") (by rfl) T.no_tuple (by decide +kernel)) pa_nil))))) (pw_or (pt_cmpR (op_fNe hr.units) (pe_ix ix_fx (fe_var 9) (fe_var 5) (fun _ _ => rfl)) (pe_ix ix_fx (fe_var 10) (fe_var 5) (fun _ _ => rfl)) (nomark _)) (pw_or1 (pt_not (pt_val (fe_call H_law_is_integer (hr.mono (by walk_at "rm")) (by rfl) pass0 (pa_cons (pe_ix ix_fx (pe_ix ix_fx (fe_var 9) (fe_var 5) (fun _ _ => rfl)) pe_int (fun _ _ => rfl)) pa_nil)))))))) (pss_one (ps_ret pe_bl)) pss_nil))))))))))))
      (pss_one (ps_ret pe_bl))), ?_⟩
    walk_at "fx0"
    refine seq_ fun N hN => for_ ?_
    repeat (walk_at "oxs")
    refine ⟨_, .inl hS, ?_⟩
    rw [List.length_map]
    generalize hm : (if (if (ns.length : Int) > 2 then (ns.length : Int) else 2) < 5 then (if (ns.length : Int) > 2 then (ns.length : Int) else 2) else 5) = m
    have hm9 : 0 ≤ m ∧ m ≤ 5 := by
      rw [← hm]
      split <;> split <;> omega
    refine ⟨by omega, by omega, ?_⟩
    refine loop_range (fun _ => LawI H sc) ⟨_, _, _, _, _, _, _, _, _, _, _, rfl, fun _ _ h => h⟩ ?_ ?_
    · rintro k σ H1 hk ⟨v1, v2, v3, v4, v5, v6, v7, v8, v9, v10, v11, rfl, s1⟩
      simp only [gName, List.set_cons_succ, List.set_cons_zero]
      try dsimp only
      refine seq_ fun N1 hN1 => ?_
      try dsimp only
      repeat (walk_at "oxs")
      refine ⟨mul_left (by decide) (by decide), by omega, fun s H2 ns2 s2 es => hN1 _ _ ?_⟩
      clear hN1 N1
      have D2 : Dr K H s sc ns H2 := ⟨⟨0, _, es, by decide, by omega⟩, hS, s1.trans s2, s1.free ns2, hn⟩
      refine seq_ fun N1 hN1 => ?_
      try dsimp only
      repeat (walk_at "oxs")
      refine ⟨H, sc, ns, D2, by omega, by omega, fun H3 d3 k3 D3 d30 d31 => hN1 _ _ ?_⟩
      clear hN1 N1
      obtain ⟨many, rfl⟩ := Int.eq_ofNat_of_zero_le d30
      refine seq_ fun N1 hN1 => ?_
      try dsimp only
      repeat (walk_at "oxs")
      intro CL H4 nCL s4 eCL
      refine hN1 _ _ ?_
      clear hN1 N1
      have nCs := D3.ne2 nCL
      have D4 := D3.same s4
      refine seq_ fun N1 hN1 => for_ ?_
      try dsimp only
      repeat (walk_at "oxs")
      refine ⟨by omega, by omega, ?_⟩
      refine loop_range (ChkI K c H s sc CL ns k many) ⟨[], [], _, _, _, _, _, _, _, rfl, D4, D3.sm.free nCL, nCs, eCL, .nil, rfl, fun _ m => by cases m⟩ ?_ ?_
      · rintro j σ H5 hj ⟨xs, chs, v5, v6, v7, v8, v9, v10, v11, rfl, D5, n0, _, hCL, hxs, hcl, hrows⟩
        obtain ⟨sa, sj, esl, _⟩ := D5.st
        have lx : xs.length = chs.length := Paired.length hxs
        simp only [gName, List.set_cons_succ, List.set_cons_zero]
        try dsimp only
        refine seq_ fun N2 hN2 => ?_
        try dsimp only
        repeat (walk_at "oxs")
        refine hN2 _ _ ?_
        clear hN2 N2
        refine seq_ fun N2 hN2 => ?_
        try dsimp only
        have rest : ∀ (num : Int) H6, Keep [s] H5 H6 → Dr K H s sc ns H6 → N2 [some (.ref sc), some (.int k), some (.ref s), some (.int many), some (.ref CL), some (.int j), some (.int num), v7, v8, v9, v10, v11] H6 := by
          intro num H6 k6 D6
          refine hN2 _ _ ?_
          clear hN2 N2
          refine seq_ fun N2 hN2 => ?_
          try dsimp only
          repeat (walk_at "oxs")
          refine lc_ ?_
          repeat (walk_at "oxs")
          refine ⟨H, sc, ns, D6, by omega, by omega, fun H7 x7 k7 D7 c0 c1 => ?_⟩
          obtain ⟨cnt, rfl⟩ := Int.eq_ofNat_of_zero_le c0
          refine ⟨_, rfl, by omega, by omega, fun D nD => ?_⟩
          have nDs := D7.ne2 nD
          rw [Int.toNat_natCast]
          refine lcx_range (RwsI K H H7 s sc D ns) ⟨D7.same (same_new nD), Keep.of (same_new nD), [], [], upd_same, .nil, rfl⟩ ?_ ?_
          · rintro i H8 hi ⟨D8, k8, acc, rws, eD8, hac, hlen⟩
            walk_at "ox"
            repeat (walk_at "oxs")
            refine ⟨H, sc, ns, D8, by omega, by omega, fun H9 v r k9 D9 hv => ?_⟩
            have la : acc.length = rws.length := Paired.length hac
            have eD9 := k9 _ _ (by simpa using nDs) eD8
            refine ⟨acc, eD9, by rw [sizeLine_eq]; omega, D9.keep (ps := [D]) (Keep.upd Keep.refl (by simp)) (by simpa using fun z : s = D => nDs z.symm) (fun q m => by rw [List.mem_singleton.mp m]; exact D7.sm.free nD), Keep.updN (k8.trans k9) nD, _, rws ++ [r], upd_same, ?_, by rw [List.length_append, List.length_singleton, hlen]⟩
            have st8 := D8.st
            obtain ⟨b1, b2, es8, _⟩ := st8
            have kD : Keep [D] H9 (upd H9 D (.lst (acc ++ [v]))) := Keep.upd Keep.refl (by simp)
            have nt : ∀ p ∈ [D], ∀ xs, H9 p ≠ some (.tup xs) := fun p m xs z => by rw [List.mem_singleton.mp m, eD9] at z; cases z
            refine paired_snoc (Paired.mapP hac fun _ _ h => IsRw.keep (IsRw.keep h k9 fun p m xs z => by rw [List.mem_singleton.mp m, es8] at z; cases z) kD nt) (hv.keep kD nt)
          · rintro H8 ⟨D8, k8, acc, rws, eD8, hac, hlen⟩
            have la : acc.length = rws.length := Paired.length hac
            refine hN2 _ _ ?_
            clear hN2 N2
            refine seq_ fun N2 hN2 => ?_
            try dsimp only
            repeat (walk_at "oxs")
            intro p1 Ha n1 sa e1 p2 Hb n2 sb e2 p3 Hc n3 sc3 e3 L Hd nL sd eL
            have D9 := D8.same (sa.trans (sb.trans (sc3.trans sd)))
            refine ⟨H, sc, ns, D9, by omega, by omega, fun He xe ke De d0 d1 => ?_⟩
            dsimp only
            obtain ⟨ex, rfl⟩ := Int.eq_ofNat_of_zero_le d0
            have nLs : L ≠ s := (D8.same (sa.trans (sb.trans sc3))).ne2 nL
            have eLe := ke _ _ (by simpa using nLs) eL
            have sae := sa.trans (sb.trans (sc3.trans sd))
            have eDe := ke _ _ (by simpa using nDs) (sae _ _ eD8)
            have st9 := D9.st
            obtain ⟨b1, b2, es9, _⟩ := st9
            have nt9 : ∀ p ∈ [s], ∀ xs, Hd p ≠ some (.tup xs) := fun p m xs z => by rw [List.mem_singleton.mp m, es9] at z; cases z
            have hacE : Paired (IsRw He) acc rws := Paired.mapP hac fun _ _ h => IsRw.keep (IsRw.same h sae) ke nt9
            have hpE : Paired (IsRw He) [.ref p1, .ref p2, .ref p3] [.con 1, .con 2, .blank] := .cons (IsRw.keep ⟨p1, rfl, sd _ _ (sc3 _ _ (sb _ _ e1))⟩ ke nt9) (.cons (IsRw.keep ⟨p2, rfl, sd _ _ (sc3 _ _ e2)⟩ ke nt9) (.cons (IsRw.keep ⟨p3, rfl, sd _ _ e3⟩ ke nt9) .nil))
            refine ⟨L, ex, _, rfl, rfl, eLe, by omega, by omega, by simp only [List.length_cons, List.length_nil, Int.toNat_natCast]; rw [sizeLine_eq]; omega, fun pr npr => ?_⟩
            have nDp : D ≠ pr := fun z => by rw [← z, eDe] at npr; cases npr
            dsimp only
            rw [upd_same, upd_ne nDp, eDe, Int.toNat_natCast]
            dsimp only
            have hrep := paired_rep hpE ex
            have lrep : ((List.replicate ex [V.ref p1, V.ref p2, V.ref p3]).flatten).length = 3 * ex := rep_len ex rfl
            have lrep2 : ((List.replicate ex [Rw37.con 1, Rw37.con 2, Rw37.blank]).flatten).length = 3 * ex := rep_len ex rfl
            generalize (List.replicate ex [V.ref p1, V.ref p2, V.ref p3]).flatten = reps at *
            generalize (List.replicate ex [Rw37.con 1, Rw37.con 2, Rw37.blank]).flatten = repr at *
            refine ⟨by rw [sizeLine_eq]; omega, fun pq Hg npq sg epq => ?_⟩
            have seg : Same He Hg := fun b o e => sg _ _ (by rw [upd_ne (fun z => by rw [z, npr] at e; cases e)]; exact e)
            have Dg := De.same seg
            have hrowsG : Paired (IsRw Hg) (reps ++ acc) (repr ++ rws) := Paired.mapP (paired_app hrep hacE) fun _ _ h => IsRw.same h seg
            refine hN2 _ _ ?_
            clear hN2 N2
            refine seq_ fun N2 hN2 => ?_
            try dsimp only
            repeat (walk_at "oxs")
            intro a1 Ka m1 t1 x1 b1' Kb m2 t2 x2 l1 Kc m3 t3 x3 a2 Kd m4 t4 x4 b2' Ke m5 t5 x5 l2 Kf m6 t6 x6' a3 Kg m7 t7 x7' l3 Kh m8 t8 x8 l4 Ki m9 t9 x9 pt Kj m10 t10 x10
            have u10 := t10
            have u9 := t9.trans u10
            have u8 := t8.trans u9
            have u7 := t7.trans u8
            have u6 := t6.trans u7
            have u5 := t5.trans u6
            have u4 := t4.trans u5
            have u3 := t3.trans u4
            have u2 := t2.trans u3
            have u1 := t1.trans u2
            have Dj := Dg.same u1
            have epj := u1 _ _ epq
            have npqs : pq ≠ s := by
              obtain ⟨b1, b2, es, _⟩ := De.st
              intro z
              rw [z, upd_ne (fun z => by rw [← z, es] at npr; cases npr), es] at npq
              cases npq
            have hrowsJ := Paired.mapP hrowsG fun _ _ h => IsRw.same h u1
            obtain ⟨c1, c2, esj, _⟩ := Dj.st
            have ntj : ∀ p ∈ [s], ∀ xs, Kj p ≠ some (.tup xs) := fun p m xs z => by rw [List.mem_singleton.mp m, esj] at z; cases z
            have hrl : (repr ++ rws).length ≤ 20 := by rw [List.length_append]; omega
            refine ⟨H, sc, ns, _, Dj, fun H9 k9 => rl_t (k9 _ _ (Dj.neT x10) x10), by simp, by simp, fun Hh v kh Dh hv => ?_⟩
            have eqh := kh _ _ (by simpa using npqs) epj
            have hrowsH := Paired.mapP hrowsJ fun _ _ h => IsRw.keep h kh ntj
            have fin : ∀ l xs2 rs2, Hh l = some (.lst xs2) → Paired (IsRw Hh) xs2 rs2 → rs2.length ≤ 2 → (match Hh pq, Hh l with
                | some (HO.lst xs), some (HO.lst zs) => xs.length + zs.length ≤ sizeLine ∧ ∀ (p : Addr) (H1 : Hp), Hh p = none → Same Hh H1 → H1 p = some (HO.lst (xs ++ zs)) → N2 [some (.ref sc), some (.int k), some (.ref s), some (.int many), some (.ref CL), some (.int j), some (.int num), some (.ref p), v8, v9, v10, v11] H1
                | _, _ => False) := by
              intro l xs2 rs2 el hx2 hl2
              rw [eqh, el]
              have lx2 : xs2.length = rs2.length := Paired.length hx2
              have lxr : (reps ++ acc).length = (repr ++ rws).length := Paired.length hrowsH
              refine ⟨by rw [sizeLine_eq]; omega, fun pz Hz npz sz epz => ?_⟩
              have Dz := Dh.same sz
              have npzs : pz ≠ s := Dh.ne2 npz
              have hrz : Paired (IsRw Hz) ((reps ++ acc) ++ xs2) ((repr ++ rws) ++ rs2) := Paired.mapP (paired_app hrowsH hx2) fun _ _ h => IsRw.same h sz
              have hlz : ((repr ++ rws) ++ rs2).length ≤ 22 := by rw [List.length_append]; omega
              have kz : Keep [s] H5 Hz := k6.trans (k7.trans (k8.trans ((Keep.of sae).trans (ke.trans ((Keep.of seg).trans ((Keep.of u1).trans (kh.trans (Keep.of sz))))))))
              obtain ⟨z1, z2, esz, _⟩ := Dz.st
              have ntz : ∀ p ∈ [s], ∀ xs, Hz p ≠ some (.tup xs) := fun p m xs z => by rw [List.mem_singleton.mp m, esz] at z; cases z
              refine hN2 _ _ ?_
              clear hN2 N2
              refine seq_ fun N2 hN2 => ?_
              try dsimp only
              repeat (walk_at "oxs")
              refine hN2 _ _ ?_
              clear hN2 N2
              refine seq_ fun N2 hN2 => ?_
              try dsimp only
              have rest3 : ∀ (wv : Int) Hx, Keep [s] Hz Hx → Dr K H s sc ns Hx → N2 [some (.ref sc), some (.int k), some (.ref s), some (.int many), some (.ref CL), some (.int j), some (.int num), some (.ref pz), some (.int wv), v9, v10, v11] Hx := by
                intro wv Hx kx Dx
                refine hN2 _ _ ?_
                clear hN2 N2
                refine seq_ fun N2 hN2 => ?_
                try dsimp only
                have rest4 : ∀ (wv : Int) Hx, Keep [s] Hz Hx → Dr K H s sc ns Hx → N2 [some (.ref sc), some (.int k), some (.ref s), some (.int many), some (.ref CL), some (.int j), some (.int num), some (.ref pz), some (.int wv), v9, v10, v11] Hx := by
                  intro wv Hx kx Dx
                  refine hN2 _ _ ?_
                  clear hN2 N2
                  have eCx := (kz.trans kx) _ _ (by simpa using nCs) hCL
                  have epx := kx _ _ (by simpa using npzs) epz
                  repeat (first | walk_at "oxs" | simp only [eCx])
                  refine ⟨_, rl_l epx, fun y dx p q Hy ny sy ey np ep nq eq npy nqy nqp => ?_⟩
                  have eCy := sy _ _ eCx
                  repeat (first | walk_at "oxs" | simp only [eCy])
                  have hrx : Paired (IsRw Hx) ((reps ++ acc) ++ xs2) ((repr ++ rws) ++ rs2) := Paired.mapP hrz fun _ _ h => IsRw.keep h kx ntz
                  have npC : p ≠ CL := fun z => by rw [z, eCx] at np; cases np
                  have nps : p ≠ s := Dx.ne2 np
                  have nyC : y ≠ CL := fun z => by rw [z, eCx] at ny; cases ny
                  have kf : Keep [s, CL] H5 (upd Hy CL (.lst (xs ++ [.ref y]))) := fun a o n e => by
                    rw [upd_ne (fun z => n (by simp [z]))]
                    exact sy _ _ ((kz.trans kx) _ _ (fun z => n (by rw [List.mem_singleton.mp z]; simp)) e)
                  have kC : Keep [CL] Hy (upd Hy CL (.lst (xs ++ [.ref y]))) := Keep.upd Keep.refl (by simp)
                  refine ⟨by rw [sizeLine_eq]; omega, xs ++ [.ref y], chs ++ [⟨num, wv, (repr ++ rws) ++ rs2⟩], _, _, _, _, _, _, _, rfl, (Dx.same sy).keep (ps := [CL]) kC (by simpa using fun z : s = CL => nCs z.symm) (fun a m => by rw [List.mem_singleton.mp m]; exact n0), n0, nCs, upd_same, ?_, by rw [List.length_append, List.length_singleton, hcl], fun ch m => ?_⟩
                  · refine paired_snoc (Paired.mapP hxs fun _ _ h => IsChS.keep h kf esl hCL) ⟨y, dx, p, q, _, rfl, by rw [upd_ne nyC]; exact ey, by rw [upd_ne npC]; exact ep, (Paired.mapP hrx fun _ _ h => (IsRw.same h sy).keep kC (fun a m xs z => by rw [List.mem_singleton.mp m, eCy] at z; cases z)), nps, npC⟩
                  · rcases List.mem_append.mp m with m | m
                    · exact hrows ch m
                    · rw [List.mem_singleton.mp m]; exact hlz
                repeat (walk_at "oxs")
                refine ⟨H, sc, ns, Dx, by omega, by omega, fun Hw xw kw Dw _ _ => ?_⟩
                repeat (walk_at "oxs")
                by_cases hw0 : xw = 0
                · rw [if_pos hw0]
                  exact rest4 1 Hw (kx.trans kw) Dw
                · rw [if_neg hw0]
                  exact rest4 wv Hw (kx.trans kw) Dw
              repeat (walk_at "oxs")
              by_cases hn0 : 0 < num
              · rw [if_pos hn0]
                refine ⟨H, sc, ns, Dz, by omega, by omega, fun Hw xw kw Dw _ _ => ?_⟩
                exact rest3 xw Hw kw Dw
              · rw [if_neg hn0]
                exact rest3 0 Hz Keep.refl Dz
            simp only [List.mem_cons, List.not_mem_nil, or_false] at hv
            have n1s : ∀ {l Hq Hp}, Hq l = none → Same Hq Hp → Dr K H s sc ns Hq → l ≠ s := fun a _ d => d.ne2 a
            have rw1 : ∀ {p : Addr} {r : Rw37}, Kj p = some (.tup r.vs) → IsRw Hh (.ref p) r := fun e => IsRw.keep ⟨_, rfl, e⟩ kh ntj
            rcases hv with rfl | rfl | rfl | rfl
            · exact fin l1 _ [.con 1, .ret] (kh _ _ (by simpa using (Dg.same (t1.trans t2)).ne2 m3) (u4 _ _ x3)) (.cons (rw1 (u2 _ _ x1)) (.cons (rw1 (u3 _ _ x2)) .nil)) (by simp)
            · exact fin l2 _ [.con 1, .rais] (kh _ _ (by simpa using (Dg.same (t1.trans (t2.trans (t3.trans (t4.trans t5))))).ne2 m6) (u7 _ _ x6')) (.cons (rw1 (u5 _ _ x4)) (.cons (rw1 (u6 _ _ x5)) .nil)) (by simp)
            · exact fin l3 _ [.ret] (kh _ _ (by simpa using (Dg.same (t1.trans (t2.trans (t3.trans (t4.trans (t5.trans (t6.trans t7))))))).ne2 m8) (u9 _ _ x8)) (.cons (rw1 (u8 _ _ x7')) .nil) (by simp)
            · exact fin l4 _ [] (kh _ _ (by simpa using (Dg.same (t1.trans (t2.trans (t3.trans (t4.trans (t5.trans (t6.trans (t7.trans t8)))))))).ne2 m9) (u10 _ _ x9)) .nil (by simp)
        repeat (walk_at "oxs")
        refine ⟨H, sc, ns, D5, by omega, by omega, fun H6 x6 k6 D6 a0 a1 => ?_⟩
        repeat (walk_at "oxs")
        by_cases hx6 : x6 = 0
        · rw [if_pos hx6]
          refine ⟨H, sc, ns, D6, by omega, by omega, fun H7 x7 k7 D7 b0 b1 => ?_⟩
          exact rest x7 H7 (k6.trans k7) D7
        · rw [if_neg hx6]
          exact rest _ H6 k6 D6
      · rintro σ H5 ⟨xs, chs, v5, v6, v7, v8, v9, v10, v11, rfl, D5, n0, _, hCL, hxs, hcl, hrows⟩
        refine hN1 _ _ ?_
        clear hN1 N1
        refine seq_ fun N1 hN1 => ?_
        try dsimp only
        repeat (walk_at "oxs")
        have hxs5 : Paired (IsCh c H5) xs chs := Paired.mapP hxs fun _ _ h => h.ch
        refine ⟨xs, chs, hCL, hxs5, by omega, hrows, fun tl H6 fs6 ntl s6 etl hfs6 => ?_⟩
        refine hN1 _ _ ?_
        clear hN1 N1
        refine seq_ fun N1 hN1 => ?_
        try dsimp only
        repeat (walk_at "oxs")
        refine ⟨xs, chs, s6 _ _ hCL, Paired.mapP hxs5 fun _ _ h => h.same s6, by omega, hrows, fun du H7 fs7 ndu s7 edu hfs7 => ?_⟩
        refine hN1 _ _ ?_
        clear hN1 N1
        refine seq_ fun N1 hN1 => ?_
        try dsimp only
        have etl7 := s7 _ _ etl
        repeat (first | walk_at "oxs" | simp only [etl7])
        have lf6 : fs6.length = (flawsP chs).length := Paired.length hfs6
        have lf7 : fs7.length = (flawsP chs).length := Paired.length hfs7
        refine ⟨_, rl_l etl7, _, rl_l edu, ?_⟩
        rw [if_neg (fun z => z (by rw [lf6, lf7]))]
        refine hN1 _ _ ?_
        clear hN1 N1
        refine for_ ?_
        repeat (walk_at "oxs")
        refine ⟨_, rl_l edu, ?_⟩
        repeat (walk_at "oxs")
        have ldu : (flawsP chs).length ≤ 500 := by
          have l4 := queue_len chs 400 [(0, 0)] [] []
          have l5 := dups_len chs []
          unfold flawsP restP
          rw [List.length_append]
          have l6 : (flawsQ chs).length ≤ 400 := by unfold flawsQ; simpa using l4
          split
          · simp; omega
          · split
            · omega
            · simp; omega
        refine ⟨by omega, by omega, ?_⟩
        refine loop_range (fun i σ H8 => LawI H sc σ H8 ∧ Same H7 H8 ∧ ∃ v1 v2 v3 v4 v5 v6 v7 v8 v11, σ = [some (.ref sc), v1, v2, v3, v4, v5, v6, v7, v8, some (.ref tl), some (.ref du), v11]) ⟨⟨_, _, _, _, _, _, _, _, _, _, _, rfl, ((D5.same s6).same s7).sm⟩, fun _ _ h => h, _, _, _, _, _, _, _, _, _, rfl⟩ ?_ ?_
        · rintro i σ H8 hi ⟨_, s8, v1, v2, v3, v4, v5, v6, v7, v8, v11, rfl⟩
          have s78 := s7.trans s8
          obtain ⟨f1, ef1⟩ : ∃ v, fs6[i]? = some v := ⟨_, List.getElem?_eq_getElem (by omega)⟩
          obtain ⟨f2, ef2⟩ : ∃ v, fs7[i]? = some v := ⟨_, List.getElem?_eq_getElem (by omega)⟩
          obtain ⟨q1, eq1, a1, rfl, ea1⟩ := paired_get hfs6 ef1
          obtain ⟨q2, eq2, a2, rfl, ea2⟩ := paired_get hfs7 ef2
          cases eq1.symm.trans eq2
          have e1 := s78 _ _ ea1
          have e2 := s8 _ _ ea2
          have etl8 := s78 _ _ etl
          have edu8 := s8 _ _ edu
          simp only [gName, List.set_cons_succ, List.set_cons_zero]
          repeat (first | walk_at "oxs" | simp only [e1, e2])
          refine ⟨_, rl_l etl8, _, atI_nat ef1, ?_⟩
          repeat (first | walk_at "oxs" | simp only [e1, e2])
          refine ⟨_, rl_l etl8, _, atI_nat ef1, _, rl_l edu8, _, atI_nat ef2, ?_⟩
          repeat (first | walk_at "oxs" | simp only [e1, e2])
          refine ⟨_, .tup (SqT.of e1) (dpAll_sc rfl), _, .tup (SqT.of e2) (dpAll_sc rfl), tup_okd rfl, tup_okd rfl, ?_⟩
          rw [tup_eqv rfl, if_neg (by decide)]
          refine ⟨_, rl_l etl8, _, atI_nat ef1, ?_⟩
          dsimp only
          refine ⟨_, rl_t e1, _, rfl, ?_⟩
          refine ⟨true, rfl, ?_⟩
          rw [if_neg (by decide)]
          exact ⟨⟨_, _, _, _, _, _, _, _, _, _, _, rfl, (((D5.same s6).same s7).same s8).sm⟩, s8, _, rfl⟩
        · rintro σ H8 ⟨h8, _⟩
          exact h8
    · rintro σ H6 ⟨v1, v2, v3, v4, v5, v6, v7, v8, v9, v10, v11, rfl, s1⟩
      refine hN _ _ ?_
      clear hN N
      repeat (walk_at "oxs")
      exact hq _
end

section
variable {P : Program} {w : World} {K : PySem.W.Frag} {mg : Str → Option Value} {base : Heap} {c : Cs}
theorem law_fn {fa : Addr} {fd : FuncData} (F : Fun K "law" "law" s_law fa fd) (T : Txt K mg c) (TD : TxD w K mg)
    (a_Shape___init__ : AtM K c.Shape "__init__" "Shape.__init__" s_Shape___init__ ["self", "stack", "variables", "handlers"])
    (a_Check___init__ : AtM K c.Check "__init__" "Check.__init__" s_Check___init__ ["self", "chunks", "chunk", "variables"])
    (a_Chunk___init__ : AtD K c.Chunk "__init__" "Chunk.__init__" s_Chunk___init__ ["self", "number", "wanted", "rows", "scopes"])
    (a_taken_by : At K mg "taken_by" "taken_by" s_taken_by ["row"])
    (a_left_by : At K mg "left_by" "left_by" s_left_by ["row"])
    (a_variables_for : At K mg "variables_for" "variables_for" s_variables_for ["row"])
    (a_handlers_for : At K mg "handlers_for" "handlers_for" s_handlers_for ["row"])
    (a_shape_after : At K mg "shape_after" "shape_after" s_shape_after ["row", "shape"])
    (a_flaw_of : At K mg "flaw_of" "flaw_of" s_flaw_of ["row", "shape"])
    (a_index_at : At K mg "index_at" "index_at" s_index_at ["row"])
    (a_first_chunk : At K mg "first_chunk" "first_chunk" s_first_chunk ["chunks", "number"])
    (a_Check_missing : AtM K c.Check "missing" "Check.missing" s_Check_missing ["self", "row"])
    (a_Check_follow : AtM K c.Check "follow" "Check.follow" s_Check_follow ["self", "at", "row", "shape"])
    (a_Check_look : AtM K c.Check "look" "Check.look" s_Check_look ["self", "at", "shape"])
    (a_Check_run : AtM K c.Check "run" "Check.run" s_Check_run ["self"])
    (a_check_all : At K mg "check_all" "check_all" s_check_all ["chunks"])
    (a_flaws_of : At K mg "flaws_of" "flaws_of" s_flaws_of ["chunks"])
    (a_law_cell : At K mg "_law_cell" "_law_cell" s_law_cell ["script", "k"])
    (a_law_begin : At K mg "_law_begin" "_law_begin" s_law_begin ["script", "k"])
    (a_law_draw : At K mg "_law_draw" "_law_draw" s_law_draw ["state", "many"])
    (a_law_pick : At K mg "_law_pick" "_law_pick" s_law_pick ["state", "row"])
    (a_law_row : At K mg "_law_row" "_law_row" s_law_row ["state", "many"])
    (a_law_takes : At K mg "_law_takes" "_law_takes" s_law_takes ["row"])
    (a_law_gives : At K mg "_law_gives" "_law_gives" s_law_gives ["row"])
    (a_law_lacks : At K mg "_law_lacks" "_law_lacks" s_law_lacks ["chunks", "row", "stack", "variables"])
    (a_law_walk : At K mg "_law_walk" "_law_walk" s_law_walk ["chunks", "chunk", "variables"])
    (a_law_queue : At K mg "_law_queue" "_law_queue" s_law_queue ["chunks"])
    (a_law_due : At K mg "_law_due" "_law_due" s_law_due ["chunks"])
    (a_law_is_integer : At K mg "_law_is_integer" "_law_is_integer" s_law_is_integer ["told"]) :
    FnOk P w K mg base CX0 9 fa fd ["script"] (spLaw K) := by
  have M_Shape := mk_Shape (P := P) (w := w) (base := base) a_Shape___init__ T 
  have M_Check := mk_Check (P := P) (w := w) (base := base) a_Check___init__ T M_Shape
  have M_Chunk := mk_Chunk (P := P) (w := w) (base := base) a_Chunk___init__ T 
  have H_taken_by := ok_taken (P := P) (w := w) (base := base) a_taken_by T TD
  have H_left_by := ok_left (P := P) (w := w) (base := base) a_left_by T TD
  have H_variables_for := ok_varsfor (P := P) (w := w) (base := base) a_variables_for T 
  have H_handlers_for := ok_handfor (P := P) (w := w) (base := base) a_handlers_for T 
  have H_shape_after := ok_after (P := P) (w := w) (base := base) a_shape_after T H_taken_by H_left_by H_handlers_for M_Shape
  have H_flaw_of := ok_flaw (P := P) (w := w) (base := base) a_flaw_of T H_taken_by H_variables_for H_handlers_for
  have H_index_at := ok_index (P := P) (w := w) (base := base) a_index_at T 
  have H_first_chunk := ok_first (P := P) (w := w) (base := base) a_first_chunk T 
  have M_Check_missing := ok_missing (P := P) (w := w) (base := base) a_Check_missing T H_first_chunk
  have M_Check_follow := ok_follow (P := P) (w := w) (base := base) a_Check_follow T H_index_at H_shape_after
  have M_Check_look := ok_look (P := P) (w := w) (base := base) a_Check_look T H_flaw_of M_Check_missing M_Check_follow
  have M_Check_run := ok_run (P := P) (w := w) (base := base) a_Check_run T M_Check_look
  have H_check_all := ok_all (P := P) (w := w) (base := base) a_check_all T H_first_chunk M_Check M_Check_run
  have H_flaws_of := ok_flaws (P := P) (w := w) (base := base) a_flaws_of T H_first_chunk H_check_all
  have H_law_cell := ok_cell (P := P) (w := w) (base := base) a_law_cell T 
  have H_law_begin := ok_begin (P := P) (w := w) (base := base) a_law_begin T 
  have H_law_draw := ok_draw (P := P) (w := w) (base := base) a_law_draw T H_law_cell
  have H_law_pick := ok_pick2 (P := P) (w := w) (base := base) a_law_pick T H_law_draw
  have H_law_row := ok_lrow (P := P) (w := w) (base := base) a_law_row T H_law_draw H_law_pick
  have H_law_takes := ok_ltakes (P := P) (w := w) (base := base) a_law_takes T 
  have H_law_gives := ok_lgives (P := P) (w := w) (base := base) a_law_gives T 
  have H_law_lacks := ok_llacks (P := P) (w := w) (base := base) a_law_lacks T H_law_takes
  have H_law_walk := ok_lwalk (P := P) (w := w) (base := base) a_law_walk T H_law_lacks H_law_takes H_law_gives
  have H_law_queue := ok_lqueue (P := P) (w := w) (base := base) a_law_queue T H_law_walk
  have H_law_due := ok_ldue (P := P) (w := w) (base := base) a_law_due T H_law_queue
  have H_law_is_integer := ok_lint (P := P) (w := w) (base := base) a_law_is_integer T 
  exact law_has F T H_law_begin H_law_draw H_law_pick H_law_row M_Chunk H_flaws_of H_law_due H_law_is_integer
end
theorem all_mk {P : Program} {w : World} {K : PySem.W.Frag} {h : Heap} {mg : Str → Option Value} {fa : Addr} {C_Shape C_Check C_Chunk : Addr} (X : K.In h) (G : h.Ns mainGlobals mg) (hfa : mg "law" = some (.ref fa))
    (n_Shape : PySem.W.nsIn K mainGlobals "Shape" = some (some (.ref C_Shape)))
    (n_Check : PySem.W.nsIn K mainGlobals "Check" = some (some (.ref C_Check)))
    (n_Chunk : PySem.W.nsIn K mainGlobals "Chunk" = some (some (.ref C_Chunk)))
    (x_Shape : ClsFact K C_Shape)
    (x_Check : ClsFact K C_Check)
    (x_Chunk : ClsFact K C_Chunk)
    (ob : ObjFact K)
    (na_chunk_Check : PySem.W.findIn K (.ref C_Check) "chunk" = some none)
    (na_chunks_Check : PySem.W.findIn K (.ref C_Check) "chunks" = some none)
    (na_closures_Check : PySem.W.findIn K (.ref C_Check) "closures" = some none)
    (na_handlers_Shape : PySem.W.findIn K (.ref C_Shape) "handlers" = some none)
    (na_number_Chunk : PySem.W.findIn K (.ref C_Chunk) "number" = some none)
    (na_reached_Check : PySem.W.findIn K (.ref C_Check) "reached" = some none)
    (na_rows_Chunk : PySem.W.findIn K (.ref C_Chunk) "rows" = some none)
    (na_scopes_Chunk : PySem.W.findIn K (.ref C_Chunk) "scopes" = some none)
    (na_shapes_Check : PySem.W.findIn K (.ref C_Check) "shapes" = some none)
    (na_stack_Shape : PySem.W.findIn K (.ref C_Shape) "stack" = some none)
    (na_variables_Shape : PySem.W.findIn K (.ref C_Shape) "variables" = some none)
    (na_wanted_Chunk : PySem.W.findIn K (.ref C_Chunk) "wanted" = some none)
    (oo_Shape_Shape : PySem.W.kitOne K (.ref C_Shape) (.ref C_Shape) = some (decide (C_Shape = C_Shape)))
    (oo_Shape_Chunk : PySem.W.kitOne K (.ref C_Shape) (.ref C_Chunk) = some (decide (C_Shape = C_Chunk)))
    (oo_Check_Shape : PySem.W.kitOne K (.ref C_Check) (.ref C_Shape) = some (decide (C_Check = C_Shape)))
    (oo_Check_Chunk : PySem.W.kitOne K (.ref C_Check) (.ref C_Chunk) = some (decide (C_Check = C_Chunk)))
    (oo_Chunk_Shape : PySem.W.kitOne K (.ref C_Chunk) (.ref C_Shape) = some (decide (C_Chunk = C_Shape)))
    (oo_Chunk_Chunk : PySem.W.kitOne K (.ref C_Chunk) (.ref C_Chunk) = some (decide (C_Chunk = C_Chunk)))
    (bo_NoneType_Shape : PySem.W.kitOne K (.type "NoneType") (.ref C_Shape) = some false)
    (bo_NoneType_Chunk : PySem.W.kitOne K (.type "NoneType") (.ref C_Chunk) = some false)
    (bo_bool_Shape : PySem.W.kitOne K (.type "bool") (.ref C_Shape) = some false)
    (bo_bool_Chunk : PySem.W.kitOne K (.type "bool") (.ref C_Chunk) = some false)
    (bo_int_Shape : PySem.W.kitOne K (.type "int") (.ref C_Shape) = some false)
    (bo_int_Chunk : PySem.W.kitOne K (.type "int") (.ref C_Chunk) = some false)
    (bo_str_Shape : PySem.W.kitOne K (.type "str") (.ref C_Shape) = some false)
    (bo_str_Chunk : PySem.W.kitOne K (.type "str") (.ref C_Chunk) = some false)
    (bo_list_Shape : PySem.W.kitOne K (.type "list") (.ref C_Shape) = some false)
    (bo_list_Chunk : PySem.W.kitOne K (.type "list") (.ref C_Chunk) = some false)
    (bo_tuple_Shape : PySem.W.kitOne K (.type "tuple") (.ref C_Shape) = some false)
    (bo_tuple_Chunk : PySem.W.kitOne K (.type "tuple") (.ref C_Chunk) = some false)
    (bo_dict_Shape : PySem.W.kitOne K (.type "dict") (.ref C_Shape) = some false)
    (bo_dict_Chunk : PySem.W.kitOne K (.type "dict") (.ref C_Chunk) = some false)
    (ob_Shape_bool : PySem.W.kitOne K (.ref C_Shape) (.type "bool") = some false)
    (ob_Shape_int : PySem.W.kitOne K (.ref C_Shape) (.type "int") = some false)
    (ob_Shape_str : PySem.W.kitOne K (.ref C_Shape) (.type "str") = some false)
    (ob_Shape_list : PySem.W.kitOne K (.ref C_Shape) (.type "list") = some false)
    (ob_Shape_tuple : PySem.W.kitOne K (.ref C_Shape) (.type "tuple") = some false)
    (ob_Shape_dict : PySem.W.kitOne K (.ref C_Shape) (.type "dict") = some false)
    (ob_Check_bool : PySem.W.kitOne K (.ref C_Check) (.type "bool") = some false)
    (ob_Check_int : PySem.W.kitOne K (.ref C_Check) (.type "int") = some false)
    (ob_Check_str : PySem.W.kitOne K (.ref C_Check) (.type "str") = some false)
    (ob_Check_list : PySem.W.kitOne K (.ref C_Check) (.type "list") = some false)
    (ob_Check_tuple : PySem.W.kitOne K (.ref C_Check) (.type "tuple") = some false)
    (ob_Check_dict : PySem.W.kitOne K (.ref C_Check) (.type "dict") = some false)
    (ob_Chunk_bool : PySem.W.kitOne K (.ref C_Chunk) (.type "bool") = some false)
    (ob_Chunk_int : PySem.W.kitOne K (.ref C_Chunk) (.type "int") = some false)
    (ob_Chunk_str : PySem.W.kitOne K (.ref C_Chunk) (.type "str") = some false)
    (ob_Chunk_list : PySem.W.kitOne K (.ref C_Chunk) (.type "list") = some false)
    (ob_Chunk_tuple : PySem.W.kitOne K (.ref C_Chunk) (.type "tuple") = some false)
    (ob_Chunk_dict : PySem.W.kitOne K (.ref C_Chunk) (.type "dict") = some false)
    (ne_Shape_Check : C_Shape ≠ C_Check)
    (ne_Shape_Chunk : C_Shape ≠ C_Chunk)
    (ne_Check_Chunk : C_Check ≠ C_Chunk)
    (gd_LEFT : GDictF K w "LEFT" [("const", some (.int 1)), ("declare", none), ("blank", none), ("load", some (.int 1)), ("save", some (.int 1)), ("drop", none), ("pop", none), ("not", some (.int 1)), ("add", some (.int 1)), ("item", some (.int 1)), ("set_item", some (.int 1)), ("list", some (.int 1)), ("map", some (.int 1)), ("call", some (.int 1)), ("invoke", some (.int 1)), ("super", some (.int 1)), ("class", some (.int 1)), ("method", some (.int 1)), ("iter", some (.int 1)), ("field", some (.int 1)), ("set_field", some (.int 1)), ("leave", none), ("closure", some (.int 1)), ("raise", none), ("ret", none)]) (gd_TAKEN : GDictF K w "TAKEN" [("const", none), ("declare", some (.int 1)), ("blank", none), ("load", none), ("save", some (.int 1)), ("drop", none), ("pop", some (.int 1)), ("not", some (.int 1)), ("add", some (.int 2)), ("item", some (.int 2)), ("set_item", some (.int 3)), ("class", none), ("method", some (.int 2)), ("iter", some (.int 1)), ("field", some (.int 1)), ("set_field", some (.int 2)), ("leave", none), ("closure", none), ("raise", some (.int 1)), ("ret", some (.int 1))])
    (f0 : MFact K C_Shape "__init__" "Shape.__init__" s_Shape___init__) (f1 : MFact K C_Check "__init__" "Check.__init__" s_Check___init__) (f2 : MFactD K C_Chunk "__init__" "Chunk.__init__" s_Chunk___init__) (f3 : FnFact K "taken_by" "taken_by" s_taken_by) (f4 : FnFact K "left_by" "left_by" s_left_by) (f5 : FnFact K "variables_for" "variables_for" s_variables_for) (f6 : FnFact K "handlers_for" "handlers_for" s_handlers_for) (f7 : FnFact K "shape_after" "shape_after" s_shape_after) (f8 : FnFact K "flaw_of" "flaw_of" s_flaw_of) (f9 : FnFact K "index_at" "index_at" s_index_at) (f10 : FnFact K "first_chunk" "first_chunk" s_first_chunk) (f11 : MFact K C_Check "missing" "Check.missing" s_Check_missing) (f12 : MFact K C_Check "follow" "Check.follow" s_Check_follow) (f13 : MFact K C_Check "look" "Check.look" s_Check_look) (f14 : MFact K C_Check "run" "Check.run" s_Check_run) (f15 : FnFact K "check_all" "check_all" s_check_all) (f16 : FnFact K "flaws_of" "flaws_of" s_flaws_of) (f17 : FnFact K "_law_cell" "_law_cell" s_law_cell) (f18 : FnFact K "_law_begin" "_law_begin" s_law_begin) (f19 : FnFact K "_law_draw" "_law_draw" s_law_draw) (f20 : FnFact K "_law_pick" "_law_pick" s_law_pick) (f21 : FnFact K "_law_row" "_law_row" s_law_row) (f22 : FnFact K "_law_takes" "_law_takes" s_law_takes) (f23 : FnFact K "_law_gives" "_law_gives" s_law_gives) (f24 : FnFact K "_law_lacks" "_law_lacks" s_law_lacks) (f25 : FnFact K "_law_walk" "_law_walk" s_law_walk) (f26 : FnFact K "_law_queue" "_law_queue" s_law_queue) (f27 : FnFact K "_law_due" "_law_due" s_law_due) (f28 : FnFact K "_law_is_integer" "_law_is_integer" s_law_is_integer) (f29 : FnFact K "law" "law" s_law)
    (z_abs : PySem.W.nsIn K mainGlobals "abs" = some none) (z_bool : PySem.W.nsIn K mainGlobals "bool" = some none) (z_int : PySem.W.nsIn K mainGlobals "int" = some none) (z_isinstance : PySem.W.nsIn K mainGlobals "isinstance" = some none) (z_len : PySem.W.nsIn K mainGlobals "len" = some none) (z_list : PySem.W.nsIn K mainGlobals "list" = some none) (z_max : PySem.W.nsIn K mainGlobals "max" = some none) (z_min : PySem.W.nsIn K mainGlobals "min" = some none) (z_range : PySem.W.nsIn K mainGlobals "range" = some none) (z_str : PySem.W.nsIn K mainGlobals "str" = some none) (z_tuple : PySem.W.nsIn K mainGlobals "tuple" = some none)
    (q_ONLY_THERE : GTup K mg "ONLY_THERE" [.str "jump", .str "escape"]) (q_OVER : GTup K mg "OVER" [.str "raise", .str "ret"]) :
    ∃ fd : FuncData, (∀ (s : Shared) (v : Value), BindsTo s fd ⟨[v], []⟩ [("script", v)]) ∧ ∀ base : Heap, K.In base → base.Ns mainGlobals mg → FnOk P w K mg base CX0 9 fa fd ["script"] (spLaw K) := by
  have T : Txt K mg ⟨C_Shape, C_Check, C_Chunk⟩ := ⟨PySem.W.mg_none_of X G z_abs,
    PySem.W.mg_none_of X G z_bool,
    PySem.W.mg_none_of X G z_int,
    PySem.W.mg_none_of X G z_isinstance,
    PySem.W.mg_none_of X G z_len,
    PySem.W.mg_none_of X G z_list,
    PySem.W.mg_none_of X G z_max,
    PySem.W.mg_none_of X G z_min,
    PySem.W.mg_none_of X G z_range,
    PySem.W.mg_none_of X G z_str,
    PySem.W.mg_none_of X G z_tuple,
    q_ONLY_THERE,
    q_OVER,
    PySem.W.mg_of X G n_Shape,
    x_Shape.cls,
    ⟨x_Shape.mks, x_Shape.kp, PySem.W.mg_of X G n_Shape⟩,
    PySem.W.mg_of X G n_Check,
    x_Check.cls,
    ⟨x_Check.mks, x_Check.kp, PySem.W.mg_of X G n_Check⟩,
    PySem.W.mg_of X G n_Chunk,
    x_Chunk.cls,
    ⟨x_Chunk.mks, x_Chunk.kp, PySem.W.mg_of X G n_Chunk⟩,
    (all_cons ⟨x_Check.cls, na_chunk_Check⟩ all_nil),
    (all_cons ⟨x_Check.cls, na_chunks_Check⟩ all_nil),
    (all_cons ⟨x_Check.cls, na_closures_Check⟩ all_nil),
    (all_cons ⟨x_Shape.cls, na_handlers_Shape⟩ all_nil),
    (all_cons ⟨x_Chunk.cls, na_number_Chunk⟩ all_nil),
    (all_cons ⟨x_Check.cls, na_reached_Check⟩ all_nil),
    (all_cons ⟨x_Chunk.cls, na_rows_Chunk⟩ all_nil),
    (all_cons ⟨x_Chunk.cls, na_scopes_Chunk⟩ all_nil),
    (all_cons ⟨x_Check.cls, na_shapes_Check⟩ all_nil),
    (all_cons ⟨x_Shape.cls, na_stack_Shape⟩ all_nil),
    (all_cons ⟨x_Shape.cls, na_variables_Shape⟩ all_nil),
    (all_cons ⟨x_Chunk.cls, na_wanted_Chunk⟩ all_nil),
    ob,
    ⟨(all_cons (x_Shape.ocls ob) (all_cons (x_Check.ocls ob) (all_cons (x_Chunk.ocls ob) all_nil))), (all_cons (all_cons oo_Shape_Shape (all_cons oo_Shape_Chunk all_nil)) (all_cons (all_cons oo_Check_Shape (all_cons oo_Check_Chunk all_nil)) (all_cons (all_cons oo_Chunk_Shape (all_cons oo_Chunk_Chunk all_nil)) all_nil))), (all_cons (all_cons bo_NoneType_Shape (all_cons bo_NoneType_Chunk all_nil)) (all_cons (all_cons bo_bool_Shape (all_cons bo_bool_Chunk all_nil)) (all_cons (all_cons bo_int_Shape (all_cons bo_int_Chunk all_nil)) (all_cons (all_cons bo_str_Shape (all_cons bo_str_Chunk all_nil)) (all_cons (all_cons bo_list_Shape (all_cons bo_list_Chunk all_nil)) (all_cons (all_cons bo_tuple_Shape (all_cons bo_tuple_Chunk all_nil)) (all_cons (all_cons bo_dict_Shape (all_cons bo_dict_Chunk all_nil)) all_nil))))))), (all_cons (all_cons ob_Shape_bool (all_cons ob_Shape_int (all_cons ob_Shape_str (all_cons ob_Shape_list (all_cons ob_Shape_tuple (all_cons ob_Shape_dict all_nil)))))) (all_cons (all_cons ob_Check_bool (all_cons ob_Check_int (all_cons ob_Check_str (all_cons ob_Check_list (all_cons ob_Check_tuple (all_cons ob_Check_dict all_nil)))))) (all_cons (all_cons ob_Chunk_bool (all_cons ob_Chunk_int (all_cons ob_Chunk_str (all_cons ob_Chunk_list (all_cons ob_Chunk_tuple (all_cons ob_Chunk_dict all_nil)))))) all_nil)))⟩,
    ⟨eq_false ne_Shape_Check, eq_false ne_Shape_Chunk, eq_false (fun h => ne_Shape_Check h.symm), eq_false ne_Check_Chunk, eq_false (fun h => ne_Shape_Chunk h.symm), eq_false (fun h => ne_Check_Chunk h.symm)⟩⟩
  have TD : TxD w K mg := ⟨gd_LEFT.get X G, gd_TAKEN.get X G⟩
  have a0 : AtM K C_Shape "__init__" "Shape.__init__" s_Shape___init__ ["self", "stack", "variables", "handlers"] := AtM.of f0 fun _ _ _ _ _ _ us hl => match us, hl with | [_, _, _, _], _ => rfl
  have a1 : AtM K C_Check "__init__" "Check.__init__" s_Check___init__ ["self", "chunks", "chunk", "variables"] := AtM.of f1 fun _ _ _ _ _ _ us hl => match us, hl with | [_, _, _, _], _ => rfl
  have a2 : AtD K C_Chunk "__init__" "Chunk.__init__" s_Chunk___init__ ["self", "number", "wanted", "rows", "scopes"] := AtD.of (n := 4) f2 rfl fun T kV doc pm an cdv ct us its hl hi => match us, its, hl, hi with | [_, _, _, _], [_], _, _ => ⟨_, rfl, rfl⟩
  have a3 : At K mg "taken_by" "taken_by" s_taken_by ["row"] := At.of X G f3 fun _ _ _ _ _ _ us hl => match us, hl with | [_], _ => rfl
  have a4 : At K mg "left_by" "left_by" s_left_by ["row"] := At.of X G f4 fun _ _ _ _ _ _ us hl => match us, hl with | [_], _ => rfl
  have a5 : At K mg "variables_for" "variables_for" s_variables_for ["row"] := At.of X G f5 fun _ _ _ _ _ _ us hl => match us, hl with | [_], _ => rfl
  have a6 : At K mg "handlers_for" "handlers_for" s_handlers_for ["row"] := At.of X G f6 fun _ _ _ _ _ _ us hl => match us, hl with | [_], _ => rfl
  have a7 : At K mg "shape_after" "shape_after" s_shape_after ["row", "shape"] := At.of X G f7 fun _ _ _ _ _ _ us hl => match us, hl with | [_, _], _ => rfl
  have a8 : At K mg "flaw_of" "flaw_of" s_flaw_of ["row", "shape"] := At.of X G f8 fun _ _ _ _ _ _ us hl => match us, hl with | [_, _], _ => rfl
  have a9 : At K mg "index_at" "index_at" s_index_at ["row"] := At.of X G f9 fun _ _ _ _ _ _ us hl => match us, hl with | [_], _ => rfl
  have a10 : At K mg "first_chunk" "first_chunk" s_first_chunk ["chunks", "number"] := At.of X G f10 fun _ _ _ _ _ _ us hl => match us, hl with | [_, _], _ => rfl
  have a11 : AtM K C_Check "missing" "Check.missing" s_Check_missing ["self", "row"] := AtM.of f11 fun _ _ _ _ _ _ us hl => match us, hl with | [_, _], _ => rfl
  have a12 : AtM K C_Check "follow" "Check.follow" s_Check_follow ["self", "at", "row", "shape"] := AtM.of f12 fun _ _ _ _ _ _ us hl => match us, hl with | [_, _, _, _], _ => rfl
  have a13 : AtM K C_Check "look" "Check.look" s_Check_look ["self", "at", "shape"] := AtM.of f13 fun _ _ _ _ _ _ us hl => match us, hl with | [_, _, _], _ => rfl
  have a14 : AtM K C_Check "run" "Check.run" s_Check_run ["self"] := AtM.of f14 fun _ _ _ _ _ _ us hl => match us, hl with | [_], _ => rfl
  have a15 : At K mg "check_all" "check_all" s_check_all ["chunks"] := At.of X G f15 fun _ _ _ _ _ _ us hl => match us, hl with | [_], _ => rfl
  have a16 : At K mg "flaws_of" "flaws_of" s_flaws_of ["chunks"] := At.of X G f16 fun _ _ _ _ _ _ us hl => match us, hl with | [_], _ => rfl
  have a17 : At K mg "_law_cell" "_law_cell" s_law_cell ["script", "k"] := At.of X G f17 fun _ _ _ _ _ _ us hl => match us, hl with | [_, _], _ => rfl
  have a18 : At K mg "_law_begin" "_law_begin" s_law_begin ["script", "k"] := At.of X G f18 fun _ _ _ _ _ _ us hl => match us, hl with | [_, _], _ => rfl
  have a19 : At K mg "_law_draw" "_law_draw" s_law_draw ["state", "many"] := At.of X G f19 fun _ _ _ _ _ _ us hl => match us, hl with | [_, _], _ => rfl
  have a20 : At K mg "_law_pick" "_law_pick" s_law_pick ["state", "row"] := At.of X G f20 fun _ _ _ _ _ _ us hl => match us, hl with | [_, _], _ => rfl
  have a21 : At K mg "_law_row" "_law_row" s_law_row ["state", "many"] := At.of X G f21 fun _ _ _ _ _ _ us hl => match us, hl with | [_, _], _ => rfl
  have a22 : At K mg "_law_takes" "_law_takes" s_law_takes ["row"] := At.of X G f22 fun _ _ _ _ _ _ us hl => match us, hl with | [_], _ => rfl
  have a23 : At K mg "_law_gives" "_law_gives" s_law_gives ["row"] := At.of X G f23 fun _ _ _ _ _ _ us hl => match us, hl with | [_], _ => rfl
  have a24 : At K mg "_law_lacks" "_law_lacks" s_law_lacks ["chunks", "row", "stack", "variables"] := At.of X G f24 fun _ _ _ _ _ _ us hl => match us, hl with | [_, _, _, _], _ => rfl
  have a25 : At K mg "_law_walk" "_law_walk" s_law_walk ["chunks", "chunk", "variables"] := At.of X G f25 fun _ _ _ _ _ _ us hl => match us, hl with | [_, _, _], _ => rfl
  have a26 : At K mg "_law_queue" "_law_queue" s_law_queue ["chunks"] := At.of X G f26 fun _ _ _ _ _ _ us hl => match us, hl with | [_], _ => rfl
  have a27 : At K mg "_law_due" "_law_due" s_law_due ["chunks"] := At.of X G f27 fun _ _ _ _ _ _ us hl => match us, hl with | [_], _ => rfl
  have a28 : At K mg "_law_is_integer" "_law_is_integer" s_law_is_integer ["told"] := At.of X G f28 fun _ _ _ _ _ _ us hl => match us, hl with | [_], _ => rfl
  obtain ⟨f, oc, od, an, sl, kV, dc, pm, cd, ct, a, l, cc, k⟩ := f29.ex
  have e := hfa.symm.trans (PySem.W.mg_of X G a)
  cases e
  have F1 := fun_mk (st := s_law) l cc k
  have al : At K mg "law" "law" s_law ["script"] := ⟨_, _, F1, F1.binds fun _ _ _ _ _ _ us hl => match us, hl with | [_], _ => rfl, PySem.W.mg_of X G a⟩
  refine ⟨PySem.W.fnOf "law" "law" (defArgs s_law) (defBody s_law) (defScope s_law) .none kV dc pm an cd ct, fun s v => .of_eq rfl, fun base _ _ => ?_⟩
  exact law_fn F1 T TD a0 a1 a2 a3 a4 a5 a6 a7 a8 a9 a10 a11 a12 a13 a14 a15 a16 a17 a18 a19 a20 a21 a22 a23 a24 a25 a26 a27 a28
end My
namespace My
open PySem PySem.Spec PyProof.Rows L2 Fx
set_option maxHeartbeats 0
theorem facts {P : Program} {w : World} {K : PySem.W.Frag} {h : Heap} {mg : Str → Option Value} {f : Addr} (KX : K.In h) (G : h.Ns mainGlobals mg) (hfa : mg ("law" : Str) = some (.ref f)) (c : Hd.Says fas fns dcs w K) :
    ∃ fd : FuncData, (∀ (s : Shared) (v : Value), BindsTo s fd ⟨[v], []⟩ [("script", v)]) ∧ ∀ base : Heap, K.In base → base.Ns mainGlobals mg → FnOk P w K mg base CX0 9 f fd ["script"] (spLaw K) :=
  all_mk KX G hfa
    (Hd.glo_ (c.fact 0 rfl))
    (Hd.glo_ (c.fact 1 rfl))
    (Hd.glo_ (c.fact 2 rfl))
    (Hd.cls_ (c.fact 3 rfl))
    (Hd.cls_ (c.fact 4 rfl))
    (Hd.cls_ (c.fact 5 rfl))
    (Hd.obj_ (c.fact 6 rfl))
    (Hd.noat_ (c.fact 7 rfl))
    (Hd.noat_ (c.fact 8 rfl))
    (Hd.noat_ (c.fact 9 rfl))
    (Hd.noat_ (c.fact 10 rfl))
    (Hd.noat_ (c.fact 11 rfl))
    (Hd.noat_ (c.fact 12 rfl))
    (Hd.noat_ (c.fact 13 rfl))
    (Hd.noat_ (c.fact 14 rfl))
    (Hd.noat_ (c.fact 15 rfl))
    (Hd.noat_ (c.fact 16 rfl))
    (Hd.noat_ (c.fact 17 rfl))
    (Hd.noat_ (c.fact 18 rfl))
    (Hd.kio_ (c.fact 19 rfl))
    (Hd.kio_ (c.fact 20 rfl))
    (Hd.kio_ (c.fact 21 rfl))
    (Hd.kio_ (c.fact 22 rfl))
    (Hd.kio_ (c.fact 23 rfl))
    (Hd.kio_ (c.fact 24 rfl))
    (Hd.kib_ (c.fact 25 rfl))
    (Hd.kib_ (c.fact 26 rfl))
    (Hd.kib_ (c.fact 27 rfl))
    (Hd.kib_ (c.fact 28 rfl))
    (Hd.kib_ (c.fact 29 rfl))
    (Hd.kib_ (c.fact 30 rfl))
    (Hd.kib_ (c.fact 31 rfl))
    (Hd.kib_ (c.fact 32 rfl))
    (Hd.kib_ (c.fact 33 rfl))
    (Hd.kib_ (c.fact 34 rfl))
    (Hd.kib_ (c.fact 35 rfl))
    (Hd.kib_ (c.fact 36 rfl))
    (Hd.kib_ (c.fact 37 rfl))
    (Hd.kib_ (c.fact 38 rfl))
    (Hd.kob_ (c.fact 39 rfl))
    (Hd.kob_ (c.fact 40 rfl))
    (Hd.kob_ (c.fact 41 rfl))
    (Hd.kob_ (c.fact 42 rfl))
    (Hd.kob_ (c.fact 43 rfl))
    (Hd.kob_ (c.fact 44 rfl))
    (Hd.kob_ (c.fact 45 rfl))
    (Hd.kob_ (c.fact 46 rfl))
    (Hd.kob_ (c.fact 47 rfl))
    (Hd.kob_ (c.fact 48 rfl))
    (Hd.kob_ (c.fact 49 rfl))
    (Hd.kob_ (c.fact 50 rfl))
    (Hd.kob_ (c.fact 51 rfl))
    (Hd.kob_ (c.fact 52 rfl))
    (Hd.kob_ (c.fact 53 rfl))
    (Hd.kob_ (c.fact 54 rfl))
    (Hd.kob_ (c.fact 55 rfl))
    (Hd.kob_ (c.fact 56 rfl))
    (Hd.ne_ (c.fact 57 rfl))
    (Hd.ne_ (c.fact 58 rfl))
    (Hd.ne_ (c.fact 59 rfl))
    (Hd.dict_ c 0 60 61 rfl rfl rfl)
    (Hd.dict_ c 1 62 63 rfl rfl rfl)
    (Hd.meth_ c 0 64 rfl rfl)
    (Hd.meth_ c 1 65 rfl rfl)
    (Hd.methD_ c 2 66 rfl rfl)
    (Hd.fn_ c 3 67 68 rfl rfl rfl)
    (Hd.fn_ c 4 69 70 rfl rfl rfl)
    (Hd.fn_ c 5 71 72 rfl rfl rfl)
    (Hd.fn_ c 6 73 74 rfl rfl rfl)
    (Hd.fn_ c 7 75 76 rfl rfl rfl)
    (Hd.fn_ c 8 77 78 rfl rfl rfl)
    (Hd.fn_ c 9 79 80 rfl rfl rfl)
    (Hd.fn_ c 10 81 82 rfl rfl rfl)
    (Hd.meth_ c 11 83 rfl rfl)
    (Hd.meth_ c 12 84 rfl rfl)
    (Hd.meth_ c 13 85 rfl rfl)
    (Hd.meth_ c 14 86 rfl rfl)
    (Hd.fn_ c 15 87 88 rfl rfl rfl)
    (Hd.fn_ c 16 89 90 rfl rfl rfl)
    (Hd.fn_ c 17 91 92 rfl rfl rfl)
    (Hd.fn_ c 18 93 94 rfl rfl rfl)
    (Hd.fn_ c 19 95 96 rfl rfl rfl)
    (Hd.fn_ c 20 97 98 rfl rfl rfl)
    (Hd.fn_ c 21 99 100 rfl rfl rfl)
    (Hd.fn_ c 22 101 102 rfl rfl rfl)
    (Hd.fn_ c 23 103 104 rfl rfl rfl)
    (Hd.fn_ c 24 105 106 rfl rfl rfl)
    (Hd.fn_ c 25 107 108 rfl rfl rfl)
    (Hd.fn_ c 26 109 110 rfl rfl rfl)
    (Hd.fn_ c 27 111 112 rfl rfl rfl)
    (Hd.fn_ c 28 113 114 rfl rfl rfl)
    (Hd.fn_ c 29 115 116 rfl rfl rfl)
    (Hd.free_ (c.fact 117 rfl))
    (Hd.free_ (c.fact 118 rfl))
    (Hd.free_ (c.fact 119 rfl))
    (Hd.free_ (c.fact 120 rfl))
    (Hd.free_ (c.fact 121 rfl))
    (Hd.free_ (c.fact 122 rfl))
    (Hd.free_ (c.fact 123 rfl))
    (Hd.free_ (c.fact 124 rfl))
    (Hd.free_ (c.fact 125 rfl))
    (Hd.free_ (c.fact 126 rfl))
    (Hd.free_ (c.fact 127 rfl))
    (Hd.tup_get KX G (c.fact 128 rfl) (c.fact 129 rfl))
    (Hd.tup_get KX G (c.fact 130 rfl) (c.fact 131 rfl))
end My
open PySem PySem.W PySem.Calls PyProof.Rows
set_option maxRecDepth 100000 in
set_option maxHeartbeats 0 in
theorem PySem.Challenge.cw_livequill_k37_flaws_of_straight_code_holds : PySem.Challenge.rw_livequill_k37_flaws_of_straight_code.Holds := by
  w_on; o_law
  refine HandSHeadRun.head_any (r := OpenLaw.row PySem.Challenge.rw_livequill_k37_flaws_of_straight_code) (q := view (OpenLaw.row PySem.Challenge.rw_livequill_k37_flaws_of_straight_code).prog [37]) (H := My.hk) (ob := My.ob) (M := 300000) (loose := My.nms) (d := HandSHeadRun.topDef (OpenLaw.row PySem.Challenge.rw_livequill_k37_flaws_of_straight_code).prog 37) (kwd := []) My.ob_eq
    (by kernel_rfl) (fun s => by kernel_rfl) My.run (by kernel_rfl) (by kernel_rfl) (by kernel_rfl) (by rfl) (by first | assumption | decide +kernel) (by decide +kernel) ⟨rfl, rfl, rfl, rfl, rfl, by decide +kernel⟩ ?hw ?hc
  case hw => w_witness2
  case hc =>
    refine L2.walk_ofE (l := PySem.Challenge.rw_livequill_k37_flaws_of_straight_code) (n := 63) (k := 9) (x := "script") (CX := L2.CX0) rfl (by decide) (by kernel_rfl) ⟨rfl, by decide, by decide⟩ ?F (fun _ _ _ _ z => z)
    intro w mg fa h Y G hmg0
    obtain ⟨K, KX, c⟩ := Y
    have hmg : mg ("law" : PySem.Str) = some (.ref fa) := by
      have e : (HandSHeadRun.topDef (OpenLaw.row PySem.Challenge.rw_livequill_k37_flaws_of_straight_code).prog 37).name = ("law" : PySem.Str) := by kernel_rfl
      rw [← e]
      exact hmg0
    obtain ⟨fd, hb, hF⟩ := My.facts (P := (PySem.Challenge.rw_livequill_k37_flaws_of_straight_code).prog) (w := w) KX G hmg c
    exact ⟨K, fd, My.spLaw K, KX, hb, fun H a ns hl hO hS => ⟨a, ns, rfl, hS, hl, fun _ => rfl⟩, hF⟩
