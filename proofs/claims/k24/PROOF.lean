import PyProof.Rows.All
import Wide.All
import OpenK.AllK
import Wide.FinOn
import HandS.ForMost
import HandS.StrMore
import HandS.Wide
import HandS.IsInst
import HandS.Flow
import HandS.Codes
import HandS.Deep
import HandS.EndBits
import HandS.Walk
import KE.DataEq
import HandS.OwnEq
import HandS.Comp
import HandS.Property
import KE.KIsAll
import KE.KExcIs
import HandS.Exc
import HandS.ExcOwn
import HandS.ExcInit
import HandS.ExcField
import HandS.ExcIs
import HandS.TryOnly
import HandS.TryMany
import HandS.CallSlots
import HandS.WordsExc
import HandS.Small
import HandS.FStr
import HandS.More
import KE.KeyNested
import KE.KDictKeyed
import HandS.TupLen
import HandS.Iter
import HandS.DictComp
import HandS.List
import KE.GoesZip
import KE.GoesMore
import HandS.Zip
import HandS.Style
import KE.KStateDown
import HandS.Head0
import HandS.Head1
import HandS.Head2
import HandS.HeadEnd
import HandS.HeadHook1
import HandS.HeadHook2
import HandS.Replace
import HandS.ReplaceLit
import HandS.ReplaceDef
import HandS.ReplaceList
import PySem.Challenge.RW_livequill_k24_written_forms
set_option Elab.async false
set_option linter.all false
set_option maxRecDepth 100000
/-! Fx: readings that compute: every operation is one function of its values, whatever their kinds. -/
namespace Fx
open PySem PySem.Spec PyProof.Rows L2

/-! ### weakening -/
section
variable {X : Cx}
theorem pe_wk {e : Expr} {t t' : TE} (h : PE X e t) (w : ∀ σ H Q, t' σ H Q → t σ H Q) : PE X e t' := ⟨fun pins s σ H Q I q => h.run pins s σ H Q I (w σ H Q q)⟩
theorem pt_wk {e : Expr} {t t' : TT} (h : PT X e t) (w : ∀ σ H Q, t' σ H Q → t σ H Q) : PT X e t' := ⟨fun pins s σ H Q I q => h.run pins s σ H Q I (w σ H Q q)⟩
theorem ps_wk {e : Stmt} {t t' : TS} (h : PS X e t) (w : ∀ D σ H, t' D σ H → t D σ H) : PS X e t' := ⟨fun pins s σ H D I q => h.run pins s σ H D I (w D σ H q)⟩
theorem op_wk {f : Value → Value → Sem Value} {r r' : R2} (h : OpR X f r) (w : ∀ x y H Q, r' x y H Q → r x y H Q) : OpR X f r' := fun pins s σ H x y v u Q I rx ry q => h pins s σ H x y v u Q I rx ry (w x y H Q q)
theorem call_wk {f : Value} {r r' : List V → Hp → VK → Prop} (h : CallR X f r) (w : ∀ xs H Q, r' xs H Q → r xs H Q) : CallR X f r' := fun pins s σ H xs us Q I rx q => h pins s σ H xs us Q I rx (w xs H Q q)

/-! ### names -/
def fVar (i : Nat) : TE := fun σ H Q => match σ[i]? with
  | some (some v) => Q v H
  | _ => False
theorem fe_var (i : Nat) {x : Str} {pos : Pos} (hN : X.N[i]? = some x := by rfl) (hv : Vis X.env.scope x := by first | exact Or.inl rfl | exact Or.inr (Or.inl rfl) | exact Or.inr (Or.inr rfl)) (hd : (x == ("__debug__" : Str)) = false := by decide)
    (hcd : (x == ("__classdict__" : Str)) = false := by decide) : PE X (.Name x pos) (fVar i) := pe_wk (pe_var hN hv hd hcd) fun σ H Q q => by
  unfold fVar at q
  split at q
  · exact ⟨_, by assumption, q⟩
  · exact q.elim

theorem same_new {H : Hp} {p : Addr} {o : HO} (h : H p = none) : Same H (upd H p o) := fun b x e => by
  rw [upd_ne (ne_of_none e h)]
  exact e
/-- a new tuple, a new list: behind it a heap that has it and keeps the rest -/
def fTup (t : TA) : TE := fun σ H Q => t σ H fun xs H1 => xs.length ≤ 100000 ∧ ∀ p H2, H1 p = none → Same H1 H2 → H2 p = some (.tup xs) → Q (.ref p) H2
def fLst (t : TA) : TE := fun σ H Q => t σ H fun xs H1 => xs.length ≤ 100000 ∧ ∀ p H2, H1 p = none → Same H1 H2 → H2 p = some (.lst xs) → Q (.ref p) H2
theorem line5 {n : Nat} (h : n ≤ 100000) : n ≤ sizeLine := Nat.le_trans h (by decide)
section
variable {es : List Expr} {t : TA} {pos : Pos}
theorem fe_tup {x1} (h : PA X es t) : PE X (.Tuple es x1 pos) (fTup t) := by
  refine ⟨fun pins s σ H Q I hq => ?_⟩
  refine wpAny_Tuple_spliced (thn (h.run pos pins s σ H _ I hq) fun us s1 ⟨xs, H1, I1, r, z, q⟩ => ⟨by rw [← r.length]; exact line5 z, ?_⟩)
  have hf : H1 s1.heap.objs.size = none := I1.hok.fresh (Nat.le_refl _)
  refine ⟨.ref s1.heap.objs.size, upd H1 s1.heap.objs.size (.tup xs), I1.laid (t' := s1.toks) (fun b u e => Heap.get?_push_of_some _ e) (Nat.le_refl _) ?_, rfl, q _ _ hf (same_new hf) upd_same⟩
  exact ⟨line5 z, us, r, ⟨_, Heap.get?_push_size _ rfl, rfl, _, rfl⟩⟩
theorem fe_lst (h : PA X es t) : PE X (.List es pos) (fLst t) := by
  refine ⟨fun pins s σ H Q I hq => ?_⟩
  refine wpAny_List_spliced (thn (h.run pos pins s σ H _ I hq) fun us s1 ⟨xs, H1, I1, r, z, q⟩ => ⟨by rw [← r.length]; exact line5 z, ?_⟩)
  have hf : H1 s1.heap.objs.size = none := I1.hok.fresh (Nat.le_refl _)
  refine ⟨.ref s1.heap.objs.size, upd H1 s1.heap.objs.size (.lst xs), I1.laid (t' := s1.toks) (fun b u e => Heap.get?_push_of_some _ e) (Nat.le_refl _) ?_, rfl, q _ _ hf (same_new hf) upd_same⟩
  exact ⟨line5 z, us, 0, r, Heap.get?_push_size _ rfl⟩
end
/-! ### a list or a tuple that is read -/
def Rl (K : PySem.W.Frag) (H : Hp) (a : Addr) (xs : List V) : Prop := SqL K H a xs ∨ SqT K H a xs
theorem rl_l {K : PySem.W.Frag} {H : Hp} {a : Addr} {xs : List V} (h : H a = some (.lst xs)) : Rl K H a xs := .inl (SqL.of h)
theorem rl_t {K : PySem.W.Frag} {H : Hp} {a : Addr} {xs : List V} (h : H a = some (.tup xs)) : Rl K H a xs := .inr (SqT.of h)

/-! ### operators by values -/
def fAdd (K : PySem.W.Frag) : R2 := fun x y H Q => match x, y with
  | .int i, .int j => Q (.int (i + j)) H
  | .str a, .str b => a.length + b.length ≤ sizeLine ∧ Q (.str (a ++ b)) H
  | .ref l, .ref b => match H l, H b with
    | some (.lst xs), some (.lst zs) => xs.length + zs.length ≤ sizeLine ∧ ∀ p H1, H p = none → Same H H1 → H1 p = some (.lst (xs ++ zs)) → Q (.ref p) H1
    | _, _ => False
  | _, _ => False
theorem op_fAdd : OpR X (binaryOp .Add) (fAdd X.K) := by
  intro pins s σ H x y v u Q I rx ry h
  cases x <;> cases y <;> first
    | exact False.elim h
    | exact op_add pins s σ H _ _ v u Q I rx ry ⟨_, _, rfl, rfl, h⟩
    | exact op_add_str pins s σ H _ _ v u Q I rx ry ⟨_, _, rfl, rfl, h⟩
    | (dsimp only [fAdd] at h
       split at h
       · exact op_cat pins s σ H _ _ v u Q I rx ry ⟨_, _, _, _, rfl, rfl, by assumption, by assumption, h.1, fun p np => h.2 p _ np (same_new np) upd_same⟩
       · exact h.elim)
def fSub : R2 := fun x y H Q => match x, y with
  | .int i, .int j => Q (.int (i - j)) H
  | _, _ => False
theorem op_fSub : OpR X (binaryOp .Sub) fSub := by
  intro pins s σ H x y v u Q I rx ry h
  cases x <;> cases y <;> first
    | exact False.elim h
    | exact op_sub pins s σ H _ _ v u Q I rx ry ⟨_, _, rfl, rfl, h⟩
def fMul : R2 := fun x y H Q => match x, y with
  | .int i, .int j => IntMulOk i j ∧ Q (.int (i * j)) H
  | .str a, .int j => MulOk a j ∧ Q (.str (Txt.mul a j)) H
  | .ref l, .int k => rRep (.ref l) (.int k) H Q
  | _, _ => False
theorem op_fMul : OpR X (binaryOp .Mult) fMul := by
  intro pins s σ H x y v u Q I rx ry h
  match x, y, rx, ry, h with
  | .int i, .int j, ⟨t, e⟩, ⟨t', e'⟩, ⟨hm, q⟩ =>
    subst e e'
    exact mul_int ⟨.int _, H, I.tok _, ⟨_, rfl⟩, q⟩ hm
  | .str a, .int j, ⟨t, e⟩, ⟨t', e'⟩, ⟨hm, q⟩ =>
    subst e e'
    exact SB.mul hm fun t' k => ⟨.str _, H, I.tok _, ⟨_, rfl⟩, q⟩
  | .ref l, .int k, rx, ry, h => exact op_rep pins s σ H _ _ v u Q I rx ry h
def fDiv : R2 := fun x y H Q => match x, y with
  | .int i, .int j => CDivW i j ∧ Q (.int (i / j)) H
  | _, _ => False
theorem op_fDiv : OpR X (binaryOp .FloorDiv) fDiv := by
  intro pins s σ H x y v u Q I rx ry h
  cases x <;> cases y <;> first
    | exact False.elim h
    | exact op_fdivW pins s σ H _ _ v u Q I rx ry ⟨_, _, rfl, rfl, h⟩
def fMod : R2 := fun x y H Q => match x, y with
  | .int i, .int j => 0 < j ∧ Q (.int (i % j)) H
  | _, _ => False
theorem op_fMod : OpR X (binaryOp .Mod) fMod := by
  intro pins s σ H x y v u Q I rx ry h
  cases x <;> cases y <;> first
    | exact False.elim h
    | exact op_mod pins s σ H _ _ v u Q I rx ry ⟨_, _, rfl, rfl, h⟩
def fNeg : V → Hp → VK → Prop := fun x H Q => match x with
  | .int i => Q (.int (-i)) H
  | _ => False
theorem un_fNeg : UnR X (unaryOp .USub) fNeg := by
  intro pins s σ H x v Q I rx h
  cases x <;> first
    | exact False.elim h
    | exact un_neg pins s σ H _ v Q I rx ⟨_, rfl, h⟩
/-- data that == may look at -/
def okd (d : PyData) : Bool := d.plain && decide (d.depth ≤ 64)
/-- == of scalars as such, of lists and tuples as data -/
def fEq (K : PySem.W.Frag) (neg : Bool) : R2 := fun x y H Q =>
  if scal x y = true then Q (.bl (if neg = true then !decide (x = y) else decide (x = y))) H
  else ∃ d e, Dp K H x d ∧ Dp K H y e ∧ okd d = true ∧ okd e = true ∧ Q (.bl (if neg = true then !PyData.eqv d e else PyData.eqv d e)) H
theorem op_fEq (hu : X.A.units + 64 < cLine) : OpR X (compareOp .Eq) (fEq X.K false) := by
  intro pins s σ H x y v u Q I rx ry h
  unfold fEq at h
  split at h
  · exact op_eq pins s σ H x y v u Q I rx ry ⟨by assumption, h⟩
  · obtain ⟨d, e, hd, he, sd, se, q⟩ := h
    obtain ⟨as, r1⟩ := Dp.reads I d x v hd rx
    obtain ⟨bs, r2⟩ := Dp.reads I e y u he ry
    have sd := Bool.and_eq_true_iff.mp sd
    have se := Bool.and_eq_true_iff.mp se
    have d1 := of_decide_eq_true sd.2
    exact SeqAt.eq_plain r1 r2 sd.1 se.1 (by omega) ⟨.bl _, H, I, rfl, q⟩
theorem op_fNe (hu : X.A.units + 64 < cLine) : OpR X (compareOp .NotEq) (fEq X.K true) := by
  intro pins s σ H x y v u Q I rx ry h
  unfold fEq at h
  split at h
  · exact op_ne pins s σ H x y v u Q I rx ry ⟨by assumption, h⟩
  · obtain ⟨d, e, hd, he, sd, se, q⟩ := h
    obtain ⟨as, r1⟩ := Dp.reads I d x v hd rx
    obtain ⟨bs, r2⟩ := Dp.reads I e y u he ry
    have sd := Bool.and_eq_true_iff.mp sd
    have se := Bool.and_eq_true_iff.mp se
    have d1 := of_decide_eq_true sd.2
    exact SeqAt.ne_plain r1 r2 sd.1 se.1 (by omega) ⟨.bl _, H, I, rfl, q⟩
def fLt : R2 := fun x y H Q => match x, y with
  | .int i, .int j => Q (.bl (decide (i < j))) H
  | .str i, .str j => Q (.bl (decide (i.cps.toList < j.cps.toList))) H
  | _, _ => False
theorem op_fLt : OpR X (compareOp .Lt) fLt := by
  intro pins s σ H x y v u Q I rx ry h
  cases x <;> cases y <;> first
    | exact False.elim h
    | exact op_lt pins s σ H _ _ v u Q I rx ry ⟨_, _, rfl, rfl, h⟩
    | exact op_lt_str pins s σ H _ _ v u Q I rx ry ⟨_, _, rfl, rfl, h⟩
def fLe : R2 := fun x y H Q => match x, y with
  | .int i, .int j => Q (.bl (decide (i ≤ j))) H
  | .str i, .str j => Q (.bl (!decide (j.cps.toList < i.cps.toList))) H
  | _, _ => False
theorem op_fLe : OpR X (compareOp .LtE) fLe := by
  intro pins s σ H x y v u Q I rx ry h
  cases x <;> cases y <;> first
    | exact False.elim h
    | exact op_le pins s σ H _ _ v u Q I rx ry ⟨_, _, rfl, rfl, h⟩
    | exact op_le_str pins s σ H _ _ v u Q I rx ry ⟨_, _, rfl, rfl, h⟩
def fGt : R2 := fun x y H Q => match x, y with
  | .int i, .int j => Q (.bl (decide (j < i))) H
  | .str i, .str j => Q (.bl (decide (j.cps.toList < i.cps.toList))) H
  | _, _ => False
theorem op_fGt : OpR X (compareOp .Gt) fGt := by
  intro pins s σ H x y v u Q I rx ry h
  cases x <;> cases y <;> first
    | exact False.elim h
    | exact op_gt pins s σ H _ _ v u Q I rx ry ⟨_, _, rfl, rfl, h⟩
    | exact op_gt_str pins s σ H _ _ v u Q I rx ry ⟨_, _, rfl, rfl, h⟩
def fGe : R2 := fun x y H Q => match x, y with
  | .int i, .int j => Q (.bl (decide (j ≤ i))) H
  | .str i, .str j => Q (.bl (!decide (i.cps.toList < j.cps.toList))) H
  | _, _ => False
theorem op_fGe : OpR X (compareOp .GtE) fGe := by
  intro pins s σ H x y v u Q I rx ry h
  cases x <;> cases y <;> first
    | exact False.elim h
    | exact op_ge pins s σ H _ _ v u Q I rx ry ⟨_, _, rfl, rfl, h⟩
    | exact op_ge_str pins s σ H _ _ v u Q I rx ry ⟨_, _, rfl, rfl, h⟩
/-- x in y: one sign in a text; a text in a text; a flat value in a list or tuple of flat values -/
def fIn (K : PySem.W.Frag) (neg : Bool) : R2 := fun x y H Q => match x, y with
  | .str a, .str b => match a.cps.toList with
    | [c] => Q (.bl (if neg = true then !decide (c ∈ b.cps.toList) else decide (c ∈ b.cps.toList))) H
    | _ => Q (.bl (if neg = true then !(!(Builtin.Str.occurrences b a 0 b.length 1).isEmpty) else !(Builtin.Str.occurrences b a 0 b.length 1).isEmpty)) H
  | x, .ref p => ∃ xs, Rl K H p xs ∧ flatV x = true ∧ xs.all flatV = true ∧ Q (.bl (if neg = true then !inV x xs else inV x xs)) H
  | _, _ => False
theorem str_one {a : Str} {c : Nat} (h : a.cps.toList = [c]) : a = ⟨#[c]⟩ := by
  obtain ⟨⟨l⟩⟩ := a
  have h' : l = [c] := h
  subst h'
  rfl
theorem op_fIn : OpR X (compareOp .In) (fIn X.K false) := by
  intro pins s σ H x y v u Q I rx ry h
  cases y with
  | str b =>
    cases x with
    | str a =>
      dsimp only [fIn] at h
      split at h
      · rename_i c e
        cases str_one e
        exact op_in_sign pins s σ H _ _ v u Q I rx ry ⟨_, _, rfl, rfl, h⟩
      · exact op_in_str pins s σ H _ _ v u Q I rx ry ⟨_, _, rfl, rfl, h⟩
    | _ => exact False.elim h
  | ref p =>
    have h' : ∃ xs, Rl X.K H p xs ∧ flatV x = true ∧ xs.all flatV = true ∧ Q (.bl (if false = true then !inV x xs else inV x xs)) H := by
      cases x <;> exact h
    obtain ⟨xs, h1, h2, h3, h4⟩ := h'
    exact op_in_seq pins s σ H _ _ v u Q I rx ry ⟨p, xs, rfl, h1, h2, h3, h4⟩
  | _ => cases x <;> exact False.elim h
theorem op_fNotIn : OpR X (compareOp .NotIn) (fIn X.K true) := by
  intro pins s σ H x y v u Q I rx ry h
  cases y with
  | str b =>
    cases x with
    | str a =>
      dsimp only [fIn] at h
      split at h
      · rename_i c e
        cases str_one e
        exact op_notIn_sign pins s σ H _ _ v u Q I rx ry ⟨_, _, rfl, rfl, h⟩
      · exact op_notin_str pins s σ H _ _ v u Q I rx ry ⟨_, _, rfl, rfl, h⟩
    | _ => exact False.elim h
  | ref p =>
    have h' : ∃ xs, Rl X.K H p xs ∧ flatV x = true ∧ xs.all flatV = true ∧ Q (.bl (if true = true then !inV x xs else inV x xs)) H := by
      cases x <;> exact h
    obtain ⟨xs, h1, h2, h3, h4⟩ := h'
    exact op_notIn_seq pins s σ H _ _ v u Q I rx ry ⟨p, xs, rfl, h1, h2, h3, h4⟩
  | _ => cases x <;> exact False.elim h
/-- is, with None on the right -/
def fIsN : R2 := fun x y H Q => y = .non ∧ Q (.bl (decide (x = .non))) H
def fNotN : R2 := fun x y H Q => y = .non ∧ Q (.bl (!decide (x = .non))) H
theorem op_fIsN : OpR X (compareOp .Is) fIsN := op_isN
theorem op_fNotN : OpR X (compareOp .IsNot) fNotN := op_notN
/-- x[i] -/
def fIx (K : PySem.W.Frag) : R2 := fun x y H Q => match x, y with
  | .str z, .int i => z.length ≤ sizeLine ∧ ∃ c, atI z.cps.toList i = some c ∧ Q (.str ⟨#[c]⟩) H
  | .ref p, .int i => ∃ xs, Rl K H p xs ∧ ∃ v, atI xs i = some v ∧ Q v H
  | _, _ => False
theorem ix_fx : IxR X (fIx X.K) := by
  intro e1 e2 pins s σ H x y v u Q I rx ry h hs
  cases x <;> cases y <;> first
    | exact False.elim h
    | (obtain ⟨h1, c, h2, h3⟩ := h
       exact ix_str e1 e2 pins s σ H _ _ v u Q I rx ry ⟨_, _, c, rfl, rfl, h1, h2, h3⟩ hs)
    | (obtain ⟨xs, h1, w, h2, h3⟩ := h
       rcases h1 with h1 | h1
       · exact ix_list e1 e2 pins s σ H _ _ v u Q I rx ry ⟨_, xs, _, w, rfl, rfl, h1, h2, h3⟩ hs
       · exact ix_tup e1 e2 pins s σ H _ _ v u Q I rx ry ⟨_, xs, _, w, rfl, rfl, h1, h2, h3⟩ hs)
/-- x[lo:hi] of a text, of a list -/
def fSl (K : PySem.W.Frag) : V → Option Int → Option Int → Hp → VK → Prop := fun x lo hi H Q => match x with
  | .str z => z.length ≤ sizeLine ∧ Q (.str (cutS z lo hi)) H
  | .ref a => ∃ xs, SqL K H a xs ∧ ∀ p H1, H p = none → Same H H1 → H1 p = some (.lst (cutV xs lo hi)) → Q (.ref p) H1
  | _ => False
theorem sl_fx : SlR X (fSl X.K) := by
  intro pins s σ H x v vl vu lo hi sl Q I rx hs pl pu h
  cases x <;> first
    | exact False.elim h
    | exact sl_str pins s σ H _ v vl vu lo hi sl Q I rx hs pl pu ⟨_, rfl, h⟩
    | (obtain ⟨xs, h1, h2⟩ := h
       exact sl_list pins s σ H _ v vl vu lo hi sl Q I rx hs pl pu ⟨_, xs, rfl, h1, fun p np => h2 p _ np (same_new np) upd_same⟩)
/-- o[i] = v of a list -/
def fSet : TSet := fun o i v H Q => match o, i with
  | .ref p, .int k => match H p with
    | some (.lst xs) => ∃ j, ixN xs.length k = some j ∧ Q (upd H p (.lst (xs.set j v)))
    | _ => False
  | _, _ => False
theorem set_fx : PSet X fSet := by
  intro pins s σ H o i v ov iv u Q I ro ri rv h
  cases o <;> cases i <;> first
    | exact False.elim h
    | (dsimp only [fSet] at h
       split at h
       · obtain ⟨j, h2, h3⟩ := h
         exact set_list pins s σ H _ _ v ov iv u Q I ro ri rv ⟨_, _, _, j, rfl, rfl, by assumption, h2, h3⟩
       · exact h.elim)
/-- name += e -/
def fIAdd : TIp := fun x y H Q => match x, y with
  | .int i, .int j => Q (.int (i + j)) H
  | .str a, .str b => a.length + b.length ≤ sizeLine ∧ Q (.str (a ++ b)) H
  | _, _ => False
theorem ip_fAdd : PIp X .Add fIAdd := by
  intro pins s σ H x y v u Q I rx ry h
  cases x <;> cases y <;> first
    | exact False.elim h
    | exact ip_add pins s σ H _ _ v u Q I rx ry ⟨_, _, rfl, rfl, h⟩
    | exact iop_add_str pins s σ H _ _ v u Q I rx ry ⟨_, _, rfl, rfl, h⟩
def fISub : TIp := fun x y H Q => match x, y with
  | .int i, .int j => Q (.int (i - j)) H
  | _, _ => False
theorem ip_fSub : PIp X .Sub fISub := by
  intro pins s σ H x y v u Q I rx ry h
  cases x <;> cases y <;> first
    | exact False.elim h
    | exact ip_sub pins s σ H _ _ v u Q I rx ry ⟨_, _, rfl, rfl, h⟩
/-! ### built-in calls -/
def fLen (K : PySem.W.Frag) : List V → Hp → VK → Prop := fun xs H Q => match xs with
  | [.str z] => z.length ≤ sizeLine ∧ Q (.int z.length) H
  | [.ref p] => ∃ ys, Rl K H p ys ∧ Q (.int ys.length) H
  | _ => False
theorem call_fLen : CallR X (.builtin "len") (fLen X.K) := by
  intro pins s σ H xs us Q I r h
  match xs, r, h with
  | [.str z], r, h => exact call_len_str pins s σ H _ us Q I r ⟨z, rfl, h⟩
  | [.ref p], r, h =>
    obtain ⟨ys, h1, h2⟩ := h
    exact call_len_seq pins s σ H _ us Q I r ⟨p, ys, rfl, h1, h2⟩
/-- len of a dict -/
def fLenD : List V → Hp → VK → Prop := fun xs H Q => match xs with
  | [.ref p] => ∃ kvs, H p = some (.dK kvs) ∧ Q (.int kvs.length) H
  | _ => False
theorem call_fLenD : CallR X (.builtin "len") fLenD := by
  intro pins s σ H xs us Q I r h
  match xs, r, h with
  | [.ref p], r, h =>
    obtain ⟨kvs, h1, h2⟩ := h
    exact call_lenD pins s σ H _ us Q I r ⟨p, kvs, rfl, h1, h2⟩
def fInt : List V → Hp → VK → Prop := fun xs H Q => match xs with
  | [.int i] => Q (.int i) H
  | [.bl k] => Q (.int (if k then 1 else 0)) H
  | [.str a] => ∃ n, PySem.intText? a = some n ∧ a.length ≤ 640 ∧ Q (.int n) H
  | _ => False
theorem call_fInt : CallR X (.type "int") fInt := by
  intro pins s σ H xs us Q I r h
  match xs, r, h with
  | [.int i], r, h => exact call_int1 pins s σ H _ us Q I r (.inl ⟨i, rfl, h⟩)
  | [.bl k], r, h => exact call_int1 pins s σ H _ us Q I r (.inr ⟨k, rfl, h⟩)
  | [.str a], r, h =>
    obtain ⟨n, h1, h2, h3⟩ := h
    exact call_int_str pins s σ H _ us Q I r ⟨a, n, rfl, h1, h2, h3⟩
def fStr : List V → Hp → VK → Prop := fun xs H Q => match xs with
  | [.int i] => i.natAbs.log2 < 1920 ∧ Q (.str (toString i)) H
  | _ => False
theorem call_fStr : CallR X (.type "str") fStr := by
  intro pins s σ H xs us Q I r h
  match xs, r, h with
  | [.int i], r, h => exact call_str_int pins s σ H _ us Q I r ⟨i, rfl, h⟩
def fAbs : List V → Hp → VK → Prop := fun xs H Q => match xs with
  | [.int i] => Q (.int (if i < 0 then -i else i)) H
  | _ => False
theorem call_fAbs : CallR X (.builtin "abs") fAbs := by
  intro pins s σ H xs us Q I r h
  match xs, r, h with
  | [.int i], r, h => exact call_abs pins s σ H _ us Q I r ⟨i, rfl, h⟩
def fMax : List V → Hp → VK → Prop := fun xs H Q => match xs with
  | [.int i, .int j] => Q (.int (if j > i then j else i)) H
  | _ => False
theorem call_fMax (hc : X.calm = true) : CallR X (.builtin "max") fMax := by
  intro pins s σ H xs us Q I r h
  match xs, r, h with
  | [.int i, .int j], r, h => exact call_max2 hc pins s σ H _ us Q I r ⟨i, j, rfl, h⟩
def fMin : List V → Hp → VK → Prop := fun xs H Q => match xs with
  | [.int i, .int j] => Q (.int (if j < i then j else i)) H
  | _ => False
theorem call_fMin (hc : X.calm = true) : CallR X (.builtin "min") fMin := by
  intro pins s σ H xs us Q I r h
  match xs, r, h with
  | [.int i, .int j], r, h => exact call_min2 hc pins s σ H _ us Q I r ⟨i, j, rfl, h⟩
def fOrd : List V → Hp → VK → Prop := fun xs H Q => match xs with
  | [.str x] => ∃ c, x.cps.toList = [c] ∧ Q (.int (c : Nat)) H
  | _ => False
theorem call_fOrd : CallR X (.builtin "ord") fOrd := by
  intro pins s σ H xs us Q I r h
  match xs, r, h with
  | [.str x], r, h =>
    obtain ⟨c, h1, h2⟩ := h
    cases str_one h1
    exact call_ord pins s σ H _ us Q I r ⟨_, rfl, rfl, h2⟩
def fChr : List V → Hp → VK → Prop := fun xs H Q => match xs with
  | [.int i] => (0 ≤ i ∧ i ≤ 1114111) ∧ Q (.str ⟨#[i.toNat]⟩) H
  | _ => False
theorem call_fChr : CallR X (.builtin "chr") fChr := by
  intro pins s σ H xs us Q I r h
  match xs, r, h with
  | [.int i], r, h => exact call_chr pins s σ H _ us Q I r ⟨i, rfl, h.1.1, h.1.2, h.2⟩
/-- list(x): a new list -/
def fListOf (K : PySem.W.Frag) : List V → Hp → VK → Prop := fun xs H Q => match xs with
  | [.ref p] => ∃ ys, Rl K H p ys ∧ ∀ l H1, H l = none → Same H H1 → H1 l = some (.lst ys) → Q (.ref l) H1
  | _ => False
theorem call_fListOf : CallR X (.type "list") (fListOf X.K) := by
  intro pins s σ H xs us Q I r h
  match xs, r, h with
  | [.ref p], r, h =>
    obtain ⟨ys, h1, h2⟩ := h
    exact call_list_of pins s σ H _ us Q I r ⟨p, ys, rfl, h1, fun l nl => h2 l _ nl (same_new nl) upd_same⟩
/-! ### isinstance of a built-in class -/
/-- a value's built-in class (by the abstract heap), where it is plain -/
def tyOf (H : Hp) : V → Option String
  | .non => some "NoneType"
  | .bl _ => some "bool"
  | .int _ => some "int"
  | .str _ => some "str"
  | .ref a => match H a with
    | some (.lst _) => some "list"
    | some (.tup _) => some "tuple"
    | some (.dK _) => some "dict"
    | some (.dT _) => some "dict"
    | _ => none
  | _ => none
theorem tyX_of {K : PySem.W.Frag} {H : Hp} {x : V} {t : String} (h : tyOf H x = some t) : TyX K H x (.type t) := by
  cases x with
  | non => cases h; exact .base .non
  | bl b => cases h; exact .base (.bl b)
  | int b => cases h; exact .base (.int b)
  | str b => cases h; exact .base (.str b)
  | ref a =>
    dsimp only [tyOf] at h
    split at h <;> first
      | (cases h; exact .base (.lst (by assumption)))
      | (cases h; exact .base (.tup (by assumption)))
      | (cases h; exact .base (.dK (by assumption)))
      | (cases h; exact .base (.dT (by assumption)))
      | cases h
  | _ => cases h
/-- one of some built-in classes -/
def kitBs (t : String) : List V → Option Bool
  | [] => some false
  | .ty n :: cs => match kitB t n, kitBs t cs with
    | some b, some r => some (b || r)
    | _, _ => none
  | _ => none
theorem kitBs_any {K : PySem.W.Frag} {t : String} : ∀ {cs : List V} {r : Bool}, kitBs t cs = some r → ∃ us, Paired ClsV cs us ∧ PySem.W.kitAny K (.type t) us = some r
  | [], r, h => by cases h; exact ⟨[], .nil, kitAny_nil⟩
  | c :: cs, r, h => by
    cases c <;> first
      | cases h
      | (rename_i n
         unfold kitBs at h
         split at h
         · rename_i b r' e e2
           cases h
           obtain ⟨us, p, q⟩ := kitBs_any e2
           refine ⟨_, .cons (.ty n) p, kitAny_cons (kit_ty e) (fun hb => ?_) fun hb => ?_⟩
           · rw [hb]; exact q
           · rw [hb]; rfl
         · cases h)
theorem kitBv : kitB "NoneType" "bool" = some false ∧ kitB "NoneType" "int" = some false ∧ kitB "NoneType" "str" = some false ∧ kitB "NoneType" "list" = some false ∧ kitB "NoneType" "tuple" = some false ∧ kitB "NoneType" "dict" = some false ∧ kitB "bool" "bool" = some true ∧ kitB "bool" "int" = some true ∧ kitB "bool" "str" = some false ∧ kitB "bool" "list" = some false ∧ kitB "bool" "tuple" = some false ∧ kitB "bool" "dict" = some false ∧ kitB "int" "bool" = some false ∧ kitB "int" "int" = some true ∧ kitB "int" "str" = some false ∧ kitB "int" "list" = some false ∧ kitB "int" "tuple" = some false ∧ kitB "int" "dict" = some false ∧ kitB "str" "bool" = some false ∧ kitB "str" "int" = some false ∧ kitB "str" "str" = some true ∧ kitB "str" "list" = some false ∧ kitB "str" "tuple" = some false ∧ kitB "str" "dict" = some false ∧ kitB "list" "bool" = some false ∧ kitB "list" "int" = some false ∧ kitB "list" "str" = some false ∧ kitB "list" "list" = some true ∧ kitB "list" "tuple" = some false ∧ kitB "list" "dict" = some false ∧ kitB "tuple" "bool" = some false ∧ kitB "tuple" "int" = some false ∧ kitB "tuple" "str" = some false ∧ kitB "tuple" "list" = some false ∧ kitB "tuple" "tuple" = some true ∧ kitB "tuple" "dict" = some false ∧ kitB "dict" "bool" = some false ∧ kitB "dict" "int" = some false ∧ kitB "dict" "str" = some false ∧ kitB "dict" "list" = some false ∧ kitB "dict" "tuple" = some false ∧ kitB "dict" "dict" = some true := by decide +kernel
/-- isinstance(x, T), T a built-in class, or a new tuple of such -/
def fIsi : List V → Hp → VK → Prop := fun xs H Q => match xs with
  | [x, .ty n] => ∃ t, tyOf H x = some t ∧ ∃ b, kitB t n = some b ∧ Q (.bl b) H
  | [x, .ref p] => match H p with
    | some (.tup cs) => ∃ t, tyOf H x = some t ∧ ∃ b, kitBs t cs = some b ∧ Q (.bl b) H
    | _ => False
  | _ => False
theorem call_fIsi : CallR X (.builtin "isinstance") fIsi := by
  intro pins s σ H xs us Q I r h
  match xs, r, h with
  | [x, .ty n], r, h =>
    obtain ⟨t, h1, b, h2, h3⟩ := h
    exact call_isi pins s σ H _ us Q I r ⟨x, .ty n, _, _, b, rfl, .ty n, tyX_of h1, kit_ty h2, h3⟩
  | [x, .ref p], r, h =>
    dsimp only [fIsi] at h
    split at h
    · obtain ⟨t, h1, b, h2, h3⟩ := h
      obtain ⟨ws, h4, h5⟩ := kitBs_any h2
      exact call_isiT pins s σ H _ us Q I r ⟨x, p, _, _, ws, b, rfl, by assumption, h4, tyX_of h1, h5, h3⟩
    · exact h.elim
/-! ### methods of built-in types -/
def isLst : V → Hp → Prop := fun x H => match x with
  | .ref p => match H p with
    | some (.lst _) => True
    | _ => False
  | _ => False
theorem isLst_ty {K : PySem.W.Frag} {x : V} {H : Hp} (h : isLst x H) : tyV K "list" x H := by
  unfold isLst at h
  split at h
  · split at h
    · exact .inl ⟨rfl, _, SqL.of (by assumption)⟩
    · exact h.elim
  · exact h.elim
def isDct : V → Hp → Prop := fun x H => match x with
  | .ref p => match H p with
    | some (.dK _) => True
    | _ => False
  | _ => False
theorem isDct_ty {K : PySem.W.Frag} {x : V} {H : Hp} (h : isDct x H) : tyV K "dict" x H := by
  unfold isDct at h
  split at h
  · split at h
    · exact .inr (.inr (.inl ⟨rfl, .inl ⟨_, by assumption⟩⟩))
    · exact h.elim
  · exact h.elim
def isStr : V → Hp → Prop := fun x _ => match x with
  | .str _ => True
  | _ => False
theorem isStr_ty {K : PySem.W.Frag} {x : V} {H : Hp} (h : isStr x H) : tyV K "str" x H := by
  cases x <;> first | exact rfl | exact False.elim h
section
variable {o e : Expr} {es : List Expr} {to te : TE} {t : TA} {apos cpos : Pos} {T id : String} {name : Str} {r : V → List V → Hp → VK → Prop} {ty : V → Hp → Prop}
def fBM0 (ty : V → Hp → Prop) (r : V → List V → Hp → VK → Prop) (to : TE) : TE := fun σ H Q => to σ H fun x H1 => ty x H1 ∧ r x [] H1 Q
def fBM (ty : V → Hp → Prop) (r : V → List V → Hp → VK → Prop) (to : TE) (t : TA) : TE := fun σ H Q => to σ H fun x H1 => ty x H1 ∧ t σ H1 fun xs H2 => r x xs H2 Q
theorem fe_bm0 (pa : PlainAttrs T) (slot : Slot T name id) (hty : typeOf (.builtin id) = pure (.type "method_descriptor")) (hT : ∀ {K : PySem.W.Frag} {x : V} {H : Hp}, ty x H → tyV K T x H) (hm : MtR X id r) (ho : PE X o to)
    (hbase : attributeBase o name X.env (eval o X.env) = eval o X.env := by rfl) (hline : (apos.endLine == cpos.line) = true := by rfl) : PE X (.Call (.Attribute o name apos) [] [] cpos) (fBM0 ty r to) := by
  refine ⟨fun pins s σ H Q I h => ?_⟩
  refine wpAny_Call_method0_late hbase hline (thn (ho.run pins s σ H _ I h) fun v s1 ⟨x, H1, I1, r1, tyx, q1⟩ => ?_)
  obtain ⟨h1, h2⟩ := tyV_is I1 r1 (hT tyx)
  exact ⟨T, id, pa, slot, hty, h1, h2, Calls.callWith_builtin rfl (PySem.evalArgs_none (hm pins s1 σ H1 x [] v [] Q I1 r1 .nil q1))⟩
theorem fe_bm (pa : PlainAttrs T) (slot : Slot T name id) (hty : typeOf (.builtin id) = pure (.type "method_descriptor")) (hT : ∀ {K : PySem.W.Frag} {x : V} {H : Hp}, ty x H → tyV K T x H) (hm : MtR X id r) (ho : PE X o to) (ha : PA X (e :: es) t)
    (hbase : attributeBase o name X.env (eval o X.env) = eval o X.env := by rfl)
    (hfew : ((backTo cpos (starEach (e :: es) X.env)).all (fun x => !x.1) && (backToKw cpos (keywordEach [] X.env)).all (fun x => x.1.isSome)
      && decide ((e :: es).length + ([] : List Keyword).length + (if ([] : List Keyword).isEmpty then 0 else 1) < 30)) = true := by rfl)
    (hline : (apos.endLine == cpos.line) = true := by rfl) (hs : starEach (e :: es) X.env = (false, eval e X.env) :: starEach es X.env := by rfl) (hplain : (backTo cpos (starEach es X.env)).any (·.1) = false := by rfl) :
    PE X (.Call (.Attribute o name apos) (e :: es) [] cpos) (fBM ty r to t) := by
  refine ⟨fun pins s σ H Q I h => ?_⟩
  refine wpAny_Call_method_late hbase hfew hline rfl (thn (ho.run pins s σ H _ I h) fun v s1 ⟨x, H1, I1, r1, tyx, q1⟩ => ?_)
  obtain ⟨h1, h2⟩ := tyV_is I1 r1 (hT tyx)
  refine ⟨T, id, pa, slot, hty, h1, h2, ?_⟩
  have hA := ha.run cpos pins s1 σ H1 _ I1 q1
  rw [hs] at hA ⊢
  refine Calls.callWith_builtin (by show (false || (backTo cpos (starEach es X.env)).any (·.1)) = false; rw [hplain] <;> rfl) (Calls.evalArgs_plain ?_)
  exact thn hA fun us s2 ⟨vs, H2, I2, r2, q2⟩ => hm pins s2 σ H2 x vs v us Q I2 r1 r2 q2
end
def fAppend : V → List V → Hp → VK → Prop := fun x vs H Q => match x, vs with
  | .ref l, [y] => match H l with
    | some (.lst xs) => xs.length < sizeLine ∧ Q .non (upd H l (.lst (xs ++ [y])))
    | _ => False
  | _, _ => False
theorem mt_fAppend : MtR X "list.append" fAppend := by
  intro pins s σ H x xs v us Q I rx rs h
  unfold fAppend at h
  split at h
  · split at h
    · exact mt_append pins s σ H _ _ v us Q I rx rs ⟨_, _, _, rfl, rfl, by assumption, h⟩
    · exact h.elim
  · exact h.elim
/-- a text's method with one text, by its function -/
def fS1 (g : Str → Str → V) : V → List V → Hp → VK → Prop := fun x vs H Q => match x, vs with
  | .str a, [.str b] => Q (g a b) H
  | _, _ => False
theorem mt_fS1 {id : String} {g : Str → Str → V} (h : MtR X id (fun x xs H Q => ∃ a b, x = .str a ∧ xs = [.str b] ∧ Q (g a b) H)) : MtR X id (fS1 g) := by
  intro pins s σ H x xs v us Q I rx rs q
  unfold fS1 at q
  split at q
  · exact h pins s σ H _ _ v us Q I rx rs ⟨_, _, rfl, rfl, q⟩
  · exact q.elim
theorem mt_fCount : MtR X "str.count" (fS1 fun a b => .int (Txt.count a b)) := mt_fS1 mt_count
theorem mt_fFind : MtR X "str.find" (fS1 fun a b => .int (Txt.find a b)) := mt_fS1 mt_find
theorem mt_fRfind : MtR X "str.rfind" (fS1 fun a b => .int (Txt.rfind a b)) := mt_fS1 mt_rfind
theorem mt_fStarts : MtR X "str.startswith" (fS1 fun a b => .bl (Txt.startswith a b)) := mt_fS1 mt_startswith
theorem mt_fEnds : MtR X "str.endswith" (fS1 fun a b => .bl (Txt.endswith a b)) := mt_fS1 mt_endswith

/-! ### statements, loops -/
theorem seq_ {t1 t2 : TS} {D : Ends} {σ : L2.St} {H : Hp} (h : ∀ N : L2.St → Hp → Prop, (∀ σ H, t2 D σ H → N σ H) → t1 { D with nx := N } σ H) : tSeq t1 t2 D σ H := h _ fun _ _ x => x
/-- what follows is a word of its own -/
theorem cut_ {t : TS} {D : Ends} {σ : L2.St} {H : Hp} (h : ∀ N : L2.St → Hp → Prop, (∀ σ H, D.nx σ H → N σ H) → t { D with nx := N } σ H) : t D σ H := h _ fun _ _ x => x
theorem ifs_ {c : TT} {t u : TS} {D : Ends} {σ : L2.St} {H : Hp} (h : c σ H fun b H1 => if b = true then t D σ H1 else u D σ H1) : tIfS c t u D σ H := h
/-- a loop that is at hand -/
def Loop (J : It) (g : TG) (tb : TS) (D : Ends) (σ : L2.St) (H : Hp) : Prop := ∃ W : Nat → Nat → L2.St → Hp → Prop, (∃ m, W 0 m σ H) ∧ ∀ i m σ H, W i m σ H →
  (J.stop i H ∧ D.nx σ H) ∨ (J.go i H ∧ ∃ N : L2.St → Hp → Prop, (∀ σ' H', N σ' H' → ∃ m', m' < m ∧ W (i + 1) m' σ' H') ∧ ∀ x H', J.yld i H x H' → g x σ H' fun σ2 H2 => tb { D with nx := N, ct := N, bk := D.nx } σ2 H2)
theorem for_eq (wi : TI) (g : TG) (tb : TS) (D : Ends) (σ : L2.St) (H : Hp) : tFor wi g tb D σ H = wi σ H fun J H1 => Loop J g tb D σ H1 := rfl
theorem for_ {wi : TI} {g : TG} {tb : TS} {D : Ends} {σ : L2.St} {H : Hp} (h : wi σ H fun J H1 => Loop J g tb D σ H1) : tFor wi g tb D σ H := h
theorem loop_range {lo : Int} {n : Nat} {g : TG} {tb : TS} {D : Ends} {σ : L2.St} {H : Hp} (Pv : Nat → L2.St → Hp → Prop) (h0 : Pv 0 σ H)
    (hs : ∀ i σ H, i < n → Pv i σ H → g (.int (lo + i)) σ H fun σ2 H2 => tb { D with nx := Pv (i + 1), ct := Pv (i + 1), bk := D.nx } σ2 H2) (hd : ∀ σ H, Pv n σ H → D.nx σ H) : Loop (Itr lo n) g tb D σ H := for_range Pv h0 hs hd
theorem loop_list {K : PySem.W.Frag} {a : Addr} {g : TG} {tb : TS} {D : Ends} {σ : L2.St} {H : Hp} (xs : List V) (Pv : Nat → L2.St → Hp → Prop) (h0 : Pv 0 σ H) (hl : ∀ i σ H, i ≤ xs.length → Pv i σ H → SqL K H a xs)
    (hs : ∀ i x σ H, xs[i]? = some x → Pv i σ H → g x σ H fun σ2 H2 => tb { D with nx := Pv (i + 1), ct := Pv (i + 1), bk := D.nx } σ2 H2) (hd : ∀ σ H, Pv xs.length σ H → D.nx σ H) : Loop (Itl K a) g tb D σ H := for_list Pv h0 hl hs hd
theorem loop_tup {K : PySem.W.Frag} {a : Addr} {g : TG} {tb : TS} {D : Ends} {σ : L2.St} {H : Hp} (xs : List V) (Pv : Nat → L2.St → Hp → Prop) (h0 : Pv 0 σ H) (hl : ∀ i σ H, i ≤ xs.length → Pv i σ H → SqT K H a xs)
    (hs : ∀ i x σ H, xs[i]? = some x → Pv i σ H → g x σ H fun σ2 H2 => tb { D with nx := Pv (i + 1), ct := Pv (i + 1), bk := D.nx } σ2 H2) (hd : ∀ σ H, Pv xs.length σ H → D.nx σ H) : Loop (Itt K a) g tb D σ H := for_tup Pv h0 hl hs hd
theorem loop_str {z : Str} {g : TG} {tb : TS} {D : Ends} {σ : L2.St} {H : Hp} (Pv : Nat → L2.St → Hp → Prop) (h0 : Pv 0 σ H)
    (hs : ∀ i c σ H, z.cps.toList[i]? = some c → Pv i σ H → g (.str ⟨#[c]⟩) σ H fun σ2 H2 => tb { D with nx := Pv (i + 1), ct := Pv (i + 1), bk := D.nx } σ2 H2) (hd : ∀ σ H, Pv z.length σ H → D.nx σ H) : Loop (Its z) g tb D σ H :=
  for_it walk_str Pv h0 (fun _ _ _ _ _ => trivial) (fun i x σ H H' hi p y => by
    obtain ⟨rfl, c, hc, rfl⟩ := y
    exact hs i c σ _ (by rw [Array.getElem?_toList]; exact hc) p) hd
end
end Fx

/-! ### defs by name -/
namespace Fx
open PySem PySem.Spec PyProof.Rows L2
/-- the def that stands at the module's name x keeps the promise sp -/
structure Has (P : Program) (w : World) (K : PySem.W.Frag) (mg : Str → Option Value) (base : Heap) (CX : CXT) (x : Str) (k : Nat) (ps : List Str) (sp : Sp) : Prop where
  ex : ∃ (f : Addr) (fd : FuncData), FnOk P w K mg base CX k f fd ps sp ∧ Binds K fd ps [] ∧ mg x = some (.ref f) ∧ PySem.W.keepIn K (.ref f) = true
/-- what the top has written of a def -/
structure FnFact (K : PySem.W.Frag) (x qual : Str) (st : Stmt) : Prop where
  ex : ∃ (f : Addr) (oc : Value) (od an : Option Addr) (sl : Array (Option Value)) (kV dc pm cd ct : Value),
    PySem.W.nsIn K mainGlobals x = some (some (.ref f)) ∧ K.lookup f = some ⟨oc, od, .func (PySem.W.fnOf x qual (defArgs st) (defBody st) (defScope st) .none kV dc pm an cd ct), sl⟩ ∧
    PySem.W.codeIn K cd qual = true ∧ PySem.W.keepIn K (.ref f) = true
theorem FnFact.of {K : PySem.W.Frag} {x qual : Str} {st : Stmt} {f : Addr} {oc : Value} {od an : Option Addr} {sl : Array (Option Value)} {kV dc pm cd ct : Value}
    (a : PySem.W.nsIn K mainGlobals x = some (some (.ref f))) (l : K.lookup f = some ⟨oc, od, .func (PySem.W.fnOf x qual (defArgs st) (defBody st) (defScope st) .none kV dc pm an cd ct), sl⟩)
    (c : PySem.W.codeIn K cd qual = true) (k : PySem.W.keepIn K (.ref f) = true) : FnFact K x qual st := ⟨f, oc, od, an, sl, kV, dc, pm, cd, ct, a, l, c, k⟩
/-- a def as it stands -/
structure At (K : PySem.W.Frag) (mg : Str → Option Value) (x qual : Str) (st : Stmt) (ps : List Str) : Prop where
  ex : ∃ (f : Addr) (fd : FuncData), Fun K x qual st f fd ∧ Binds K fd ps [] ∧ mg x = some (.ref f)
theorem At.of {K : PySem.W.Frag} {mg : Str → Option Value} {x qual : Str} {st : Stmt} {ps : List Str} {h : Heap} (X : K.In h) (G : h.Ns mainGlobals mg) (F : FnFact K x qual st)
    (hb : ∀ (kV doc pm : Value) (an : Option Addr) (cdv ct : Value) (us : List Value), us.length = ps.length → bindArgs (PySem.W.fnOf x qual (defArgs st) (defBody st) (defScope st) .none kV doc pm an cdv ct) ⟨us, []⟩ = pure (ps.zip us)) : At K mg x qual st ps := by
  obtain ⟨f, oc, od, an, sl, kV, dc, pm, cd, ct, a, l, c, k⟩ := F.ex
  have F1 := fun_mk (st := st) l c k
  exact ⟨_, _, F1, F1.binds hb, PySem.W.mg_of X G a⟩
section
variable {P : Program} {w : World} {K : PySem.W.Frag} {mg : Str → Option Value} {base : Heap}
theorem has_of {x qual : Str} {st : Stmt} {N ps : List Str} {k : Nat} {sp : Sp} (A : At K mg x qual st ps) (S : FnScope N ps (defScope st)) (len : ∀ vs H Q E, sp vs H Q E → vs.length = ps.length)
    (hbody : ∀ (cdv : Value) (f : Addr) (A : Around) (outer : List Env) (s : Shared) (H : Hp) (vs : List V) (Q : VK) (E : XK), Room k (A.deeper (envOfC qual (defScope st) s.heap.objs.size f cdv)) → sp vs H Q E →
      ∃ t, PSs (cxOf CX0 P w K mg base N qual (defScope st) f cdv A outer s H E).nox (defBody st) t ∧ t { nx := fun _ H' => Q .non H', rt := Q } (start N vs) H) : Has P w K mg base CX0 x (k + 1) ps sp := by
  obtain ⟨f, fd, F, B, G⟩ := A.ex
  exact ⟨f, fd, F.ok S len fun cdv A outer s H vs Q E hr h => hbody cdv f A outer s H vs Q E hr h, B, G, F.kp⟩
def spNone : Sp := fun _ _ _ _ => False
/-- a def of which nothing is promised -/
theorem At.never {x qual : Str} {st : Stmt} {ps : List Str} (A : At K mg x qual st ps) : Has P w K mg base CX0 x 0 ps spNone := by
  obtain ⟨f, fd, F, B, G⟩ := A.ex
  exact ⟨f, fd, ⟨fun _ _ _ _ h => h.elim, fun _ _ _ _ _ _ _ _ _ _ _ _ _ h => h.elim⟩, B, G, F.kp⟩
theorem Has.mono {CX : CXT} {x : Str} {j k : Nat} {ps : List Str} {sp : Sp} (h : Has P w K mg base CX x j ps sp) (hk : j ≤ k) : Has P w K mg base CX x k ps sp := by
  obtain ⟨f, fd, F, B, G, kp⟩ := h.ex
  exact ⟨f, fd, F.mono hk, B, G, kp⟩
end
section
variable {X : Cx} {CX : CXT} {k : Nat} {x : Str} {p pos : Pos} {e : Expr} {es : List Expr} {t : TA} {ps : List Str} {sp : Sp} {E : XK}
theorem fe_call (h : Has X.prog X.w X.K X.mg X.base CX x k ps sp) (hr : Room k X.A) (hg : Gl X x) (hx : Passes CX X E) (ha : PA X (e :: es) t) (hd : (x == ("__debug__" : Str)) = false := by decide)
    (hs : starEach (e :: es) X.env = (false, eval e X.env) :: starEach es X.env := by rfl) (hplain : (backTo pos (starEach es X.env)).any (·.1) = false := by rfl) : PE X (.Call (.Name x p) (e :: es) [] pos) (tCall sp [] E t) := by
  obtain ⟨f, fd, F, B, G, kp⟩ := h.ex
  exact pe_call F hr hg G kp B .nil hx ha hd hs hplain
theorem fe_call0 (h : Has X.prog X.w X.K X.mg X.base CX x k ps sp) (hr : Room k X.A) (hg : Gl X x) (hx : Passes CX X E) (hd : (x == ("__debug__" : Str)) = false := by decide) : PE X (.Call (.Name x p) [] [] pos) (tCall sp [] E tNil) := by
  obtain ⟨f, fd, F, B, G, kp⟩ := h.ex
  exact pe_call0 F hr hg G kp B .nil hx hd
end
end Fx

namespace Fx
open PySem PySem.Spec PyProof.Rows L2
section
variable {X : Cx}
/-- a built-in class as a value -/
theorem fe_ty {x : Str} {n : String} {pos : Pos} (hg : Gl X x) (hm : X.mg x = none) (hv : bootBuiltins x = some (.type n)) (hn : x ≠ "__name__" := by decide) (hd : (x == ("__debug__" : Str)) = false := by decide) : PE X (.Name x pos) (tC (.ty n)) := pe_bltn hg hm hv rfl hn hd
end
/-! ### texts as lists -/
def S (l : List Nat) : Str := ⟨l.toArray⟩
def L (z : Str) : List Nat := z.cps.toList
theorem S_L (z : Str) : S (L z) = z := by
  obtain ⟨⟨l⟩⟩ := z
  rfl
theorem L_S (l : List Nat) : L (S l) = l := rfl
theorem S_len (l : List Nat) : (S l).length = l.length := by simp [S, Str.length]
theorem L_len (z : Str) : (L z).length = z.length := by simp [L, Str.length]
theorem S_app (a b : List Nat) : S a ++ S b = S (a ++ b) := by
  show (⟨a.toArray ++ b.toArray⟩ : Str) = ⟨(a ++ b).toArray⟩
  simp
theorem S_cps (l : List Nat) : (S l).cps.toList = l := by simp [S]
theorem S_one (c : Nat) : (⟨#[c]⟩ : Str) = S [c] := rfl
theorem S_inj {a b : List Nat} (h : S a = S b) : a = b := by
  have := congrArg L h
  exact this
theorem cut_take (l : List Nat) {o : Int} (h0 : 0 ≤ o) (h1 : o ≤ l.length) : cutS (S l) none (some o) = S (l.take o.toNat) := by
  unfold cutS
  obtain ⟨k, rfl⟩ := Int.eq_ofNat_of_zero_le h0
  have e : HT.sIx (S l).length (S l).length (some (k : Int)) = min k (S l).length := HT.sIx_nat _ _ _
  rw [HT.sIx_none, e, S_len, S_cps]
  have : min k l.length = k := by omega
  rw [this]
  simp [S]
theorem cut_drop (l : List Nat) {o : Int} (h0 : 0 ≤ o) (h1 : o ≤ l.length) : cutS (S l) (some o) none = S (l.drop o.toNat) := by
  unfold cutS
  obtain ⟨k, rfl⟩ := Int.eq_ofNat_of_zero_le h0
  have e : HT.sIx (S l).length 0 (some (k : Int)) = min k (S l).length := HT.sIx_nat _ _ _
  rw [HT.sIx_none, e, S_len, S_cps]
  have : min k l.length = k := by omega
  rw [this]
  have : (l.drop k).take (l.length - k) = l.drop k := List.take_of_length_le (by rw [List.length_drop]; omega)
  simp [S, this]
theorem cut_mid (l : List Nat) {a b : Int} (h0 : 0 ≤ a) (h1 : a ≤ b) (h2 : b ≤ l.length) : cutS (S l) (some a) (some b) = S ((l.drop a.toNat).take (b.toNat - a.toNat)) := by
  unfold cutS
  obtain ⟨k, rfl⟩ := Int.eq_ofNat_of_zero_le h0
  obtain ⟨m, rfl⟩ := Int.eq_ofNat_of_zero_le (Int.le_trans h0 h1)
  have e1 : HT.sIx (S l).length 0 (some (k : Int)) = min k (S l).length := HT.sIx_nat _ _ _
  have e2 : HT.sIx (S l).length (S l).length (some (m : Int)) = min m (S l).length := HT.sIx_nat _ _ _
  rw [e1, e2, S_len, S_cps]
  have q1 : min k l.length = k := by omega
  have q2 : min m l.length = m := by omega
  rw [q1, q2]
  rfl
theorem len_line {n : Nat} (h : n ≤ 100000) : n ≤ sizeLine := Nat.le_trans h (by decide)
theorem len_line' {n : Nat} (h : n < 100000) : n < sizeLine := Nat.lt_of_lt_of_le h (by decide)
theorem small_div {i j : Int} (h : 0 < j) (h2 : j < 1073741824) : CDivW i j := wide_div (b := 30) h (by omega) (by decide) (by decide)
theorem mul_left {i j : Int} (h : -(2 ^ 64) < i) (h2 : i < 2 ^ 64) : IntMulOk i j := CMul.ok (.inl ⟨h, h2⟩)
theorem mul_right {i j : Int} (h : -(2 ^ 64) < j) (h2 : j < 2 ^ 64) : IntMulOk i j := CMul.ok (.inr ⟨h, h2⟩)
theorem same_mut {H H' : Hp} {p : Addr} {o : HO} (s : Same H H') (h : H p = none) : Same H (upd H' p o) := fun b x e => by
  rw [upd_ne (ne_of_none e h)]
  exact s b x e
theorem ex2 {α β : Type} {a : α} {b : β} {P : α → β → Prop} : (∃ i j, (a = i ∧ b = j) ∧ P i j) ↔ P a b := ⟨fun ⟨_, _, ⟨e1, e2⟩, h⟩ => e1 ▸ e2 ▸ h, fun h => ⟨a, b, ⟨rfl, rfl⟩, h⟩⟩
theorem at_ints {ns : List Int} {i : Int} (h0 : 0 ≤ i) (h1 : i < ns.length) : ∃ z, atI (ns.map V.int) i = some (.int z) := by
  obtain ⟨k, rfl⟩ := Int.eq_ofNat_of_zero_le h0
  have hk : k < ns.length := by omega
  exact ⟨ns[k], atI_nat (by rw [List.getElem?_map, List.getElem?_eq_getElem hk]; rfl)⟩
theorem at_strs {ns : List Str} {i : Int} (h0 : 0 ≤ i) (h1 : i < ns.length) : ∃ z, z ∈ ns ∧ atI (ns.map V.str) i = some (.str z) := by
  obtain ⟨k, rfl⟩ := Int.eq_ofNat_of_zero_le h0
  have hk : k < ns.length := by omega
  exact ⟨ns[k], List.getElem_mem hk, atI_nat (by rw [List.getElem?_map, List.getElem?_eq_getElem hk]; rfl)⟩
theorem getD_eq {α : Type} {ns : List α} {i : Nat} (d : α) (h : i < ns.length) : ns.getD i d = ns[i] := by
  simp [List.getD, List.getElem?_eq_getElem h]
theorem at_getD {ns : List Str} {i : Int} (d : Str) (h0 : 0 ≤ i) (h1 : i < ns.length) : atI (ns.map V.str) i = some (.str (ns.getD i.toNat d)) := by
  obtain ⟨k, rfl⟩ := Int.eq_ofNat_of_zero_le h0
  have hk : k < ns.length := by omega
  refine atI_nat ?_
  rw [List.getElem?_map, List.getElem?_eq_getElem hk, Int.toNat_natCast, getD_eq _ hk]
  rfl
theorem at_getN {ns : List Nat} {i : Int} (d : Nat) (h0 : 0 ≤ i) (h1 : i < ns.length) : atI ns i = some (ns.getD i.toNat d) := by
  obtain ⟨k, rfl⟩ := Int.eq_ofNat_of_zero_le h0
  have hk : k < ns.length := by omega
  refine atI_nat ?_
  rw [List.getElem?_eq_getElem hk, Int.toNat_natCast, getD_eq _ hk]
theorem getD_mem {α : Type} {ns : List α} {i : Nat} (d : α) (h : i < ns.length) : ns.getD i d ∈ ns := by
  rw [getD_eq _ h]
  exact List.getElem_mem h
theorem at_ints_mem {ns : List Int} {i : Int} (h0 : 0 ≤ i) (h1 : i < ns.length) : ∃ z, z ∈ ns ∧ atI (ns.map V.int) i = some (.int z) := by
  obtain ⟨k, rfl⟩ := Int.eq_ofNat_of_zero_le h0
  have hk : k < ns.length := by omega
  exact ⟨ns[k], List.getElem_mem hk, atI_nat (by rw [List.getElem?_map, List.getElem?_eq_getElem hk]; rfl)⟩
theorem emod_lo (r : Int) {m : Int} (h : 0 < m) : 0 ≤ r % m := Int.emod_nonneg _ (by omega)
theorem emod_hi (r : Int) {m : Int} (h : 0 < m) : r % m < m := Int.emod_lt_of_pos _ h
theorem at_vs {xs : List V} {i : Int} (h0 : 0 ≤ i) (h1 : i < xs.length) : ∃ z, z ∈ xs ∧ atI xs i = some z := by
  obtain ⟨k, rfl⟩ := Int.eq_ofNat_of_zero_le h0
  have hk : k < xs.length := by omega
  exact ⟨xs[k], List.getElem_mem hk, atI_nat (List.getElem?_eq_getElem hk)⟩
end Fx

/-! ### constants of the module, more of texts -/
namespace Fx
open PySem PySem.Spec PyProof.Rows L2
theorem one_list (c : Nat) : (⟨#[c]⟩ : Str).cps.toList = [c] := rfl
theorem absV_rel {u : Value} {x : V} (h : absV u = some x) : RelV x u := by
  cases u <;> first
    | (cases h; rfl)
    | (cases h; exact ⟨_, rfl⟩)
    | cases h
def absVs : List Value → Option (List V)
  | [] => some []
  | u :: us => match absV u, absVs us with
    | some x, some xs => some (x :: xs)
    | _, _ => none
theorem absVs_rel : ∀ {us : List Value} {xs : List V}, absVs us = some xs → Vals xs us
  | [], xs, h => by cases h; exact .nil
  | u :: us, xs, h => by
    unfold absVs at h
    split at h
    · rename_i x ys h1 h2
      cases h
      exact .cons (absV_rel h1) (absVs_rel h2)
    · cases h
/-- a tuple of the module -/
structure TupFact (K : PySem.W.Frag) (x : Str) (xs : List V) : Prop where
  ex : ∃ (a : Addr) (od : Option Addr) (its : Array Value) (n : Nat) (sl : Array (Option Value)), PySem.W.nsIn K mainGlobals x = some (some (.ref a)) ∧ K.lookup a = some ⟨.type "tuple", od, .seq its n, sl⟩ ∧ absVs its.toList = some xs ∧ its.size ≤ 1000
theorem TupFact.of {K : PySem.W.Frag} {x : Str} {xs : List V} {a : Addr} {od : Option Addr} {its : Array Value} {n : Nat} {sl : Array (Option Value)} (h1 : PySem.W.nsIn K mainGlobals x = some (some (.ref a))) (h2 : K.lookup a = some ⟨.type "tuple", od, .seq its n, sl⟩)
    (h3 : absVs its.toList = some xs) (h4 : its.size ≤ 1000) : TupFact K x xs := ⟨a, od, its, n, sl, h1, h2, h3, h4⟩
theorem gstr_of {K : PySem.W.Frag} {x z : Str} {t : Tok} (h : PySem.W.nsIn K mainGlobals x = some (some (.str z t))) : ∃ t, PySem.W.nsIn K mainGlobals x = some (some (.str z t)) := ⟨t, h⟩
theorem gint_of {K : PySem.W.Frag} {x : Str} {z : Int} {t : Tok} (h : PySem.W.nsIn K mainGlobals x = some (some (.int z t))) : ∃ t, PySem.W.nsIn K mainGlobals x = some (some (.int z t)) := ⟨t, h⟩
def GTup (K : PySem.W.Frag) (mg : Str → Option Value) (x : Str) (xs : List V) : Prop := ∃ a, mg x = some (.ref a) ∧ ∀ H, SqT K H a xs
theorem TupFact.get {K : PySem.W.Frag} {mg : Str → Option Value} {x : Str} {xs : List V} {h : Heap} (X : K.In h) (G : h.Ns mainGlobals mg) (F : TupFact K x xs) : GTup K mg x xs := by
  obtain ⟨a, od, its, n, sl, h1, h2, h3, h4⟩ := F.ex
  exact ⟨a, PySem.W.mg_of X G h1, fun H => .inr ⟨_, its, n, h2, rfl, rfl, Nat.le_trans h4 (by decide), absVs_rel h3⟩⟩
def fGt_ (K : PySem.W.Frag) (xs : List V) : TE := fun _ H Q => ∀ a, (∀ H', SqT K H' a xs) → Q (.ref a) H
section
variable {X : Cx} {x : Str} {pos : Pos}
theorem fe_gstr {z : Str} (hg : Gl X x) (h : ∃ t, X.mg x = some (.str z t)) (hd : (x == ("__debug__" : Str)) = false := by decide) : PE X (.Name x pos) (tC (.str z)) := by
  obtain ⟨t, h⟩ := h
  exact pe_glob hg h ⟨t, rfl⟩ hd
theorem fe_gint {z : Int} (hg : Gl X x) (h : ∃ t, X.mg x = some (.int z t)) (hd : (x == ("__debug__" : Str)) = false := by decide) : PE X (.Name x pos) (tC (.int z)) := by
  obtain ⟨t, h⟩ := h
  exact pe_glob hg h ⟨t, rfl⟩ hd
theorem fe_gtup {xs : List V} (hg : Gl X x) (h : GTup X.K X.mg x xs) (hd : (x == ("__debug__" : Str)) = false := by decide) : PE X (.Name x pos) (fGt_ X.K xs) := by
  obtain ⟨a, h, hs⟩ := h
  exact pe_wk (pe_glob hg h (v := .ref a) rfl hd) fun σ H Q q => q a hs
/-- ''.join(list or tuple of texts) -/
def fJoin (K : PySem.W.Frag) : V → List V → Hp → VK → Prop := fun x vs H Q => match x, vs with
  | .str a, [.ref p] => ∃ ys : List Str, Rl K H p (ys.map V.str) ∧ (ys.map (·.length)).sum + ys.length * a.length ≤ 16777216 ∧ Q (.str (Txt.join a ys)) H
  | _, _ => False
theorem mt_fJoin : MtR X "str.join" (fJoin X.K) := by
  intro pins s σ H x xs v us Q I rx rs q
  unfold fJoin at q
  split at q
  · obtain ⟨ys, h1, h2, h3⟩ := q
    exact mt_join pins s σ H _ _ v us Q I rx rs ⟨_, _, ys, rfl, rfl, h1, h2, h3⟩
  · exact q.elim
def fLstripC : V → List V → Hp → VK → Prop := fun x vs H Q => match x, vs with
  | .str a, [.str b] => a.length ≤ sizeLine ∧ Q (.str (Txt.lstripChars a b)) H
  | _, _ => False
theorem mt_fLstripC : MtR X "str.lstrip" fLstripC := by
  intro pins s σ H x xs v us Q I rx rs q
  unfold fLstripC at q
  split at q
  · exact mt_lstripChars pins s σ H _ _ v us Q I rx rs ⟨_, _, rfl, rfl, q⟩
  · exact q.elim
end
theorem join_ones : ∀ cs : List Nat, Txt.join (S []) (cs.map fun c => S [c]) = S cs := by
  intro cs
  show (⟨_⟩ : Str) = ⟨_⟩
  congr 1
  cases cs with
  | nil => rfl
  | cons c r =>
    have go : ∀ (r : List Nat) (acc : List Nat), ((r.map fun c => S [c]).foldl (fun (acc : Array Nat) (p : Str) => acc ++ (S []).cps ++ p.cps) acc.toArray) = (acc ++ r).toArray := by
      intro r
      induction r with
      | nil => intro acc; simp
      | cons d r ih =>
        intro acc
        rw [List.map_cons, List.foldl_cons]
        have e : acc.toArray ++ (S []).cps ++ (S [d]).cps = (acc ++ [d]).toArray := by simp [S]
        rw [e, ih, List.append_assoc]
        rfl
    have := go r [c]
    simpa [S] using this
theorem drop_tw (p : Nat → Bool) : ∀ l : List Nat, l.drop (l.takeWhile p).length = l.dropWhile p
  | [] => rfl
  | c :: r => by
    rw [List.takeWhile_cons, List.dropWhile_cons]
    by_cases h : p c = true
    · rw [if_pos h, if_pos h, List.length_cons, List.drop_succ_cons, drop_tw p r]
    · rw [if_neg h, if_neg h, List.length_nil, List.drop_zero]
theorem lstrip_zero (l : List Nat) (b : Nat) : Txt.lstripChars (S l) (S [b]) = S (l.dropWhile (· == b)) := by
  have hp : ((S [b]).cps.contains : Nat → Bool) = (· == b) := by
    funext c
    simp only [S, List.contains_toArray, List.contains_cons, List.contains_nil, Bool.or_false]
  unfold Txt.lstripChars
  rw [hp]
  have ht : (stripLo (· == b) true (S l)) = (l.takeWhile (· == b)).length := rfl
  unfold Txt.stripBy
  split
  · rename_i h
    unfold stripSame at h
    have h0 : stripLo (· == b) true (S l) = 0 := by
      have := (Bool.and_eq_true_iff.mp h).1
      exact eq_of_beq this
    rw [ht] at h0
    rw [← drop_tw, h0, List.drop_zero]
  · unfold stripped
    rw [ht]
    have e : stripHi (· == b) false (S l) (l.takeWhile (· == b)).length = (S l).length := rfl
    rw [e, ← drop_tw]
    have := StrLaws.strSub_toList (S l) (l.takeWhile (· == b)).length (S l).length
    rw [← S_L (Builtin.Str.strSub _ _ _)]
    congr 1
    show (Builtin.Str.strSub _ _ _).cps.toList = _
    rw [this, S_cps, S_len]
    exact List.take_of_length_le (by rw [List.length_drop]; exact Nat.le_refl _)
end Fx

set_option Elab.async false
set_option linter.all false
set_option maxRecDepth 100000
/-! Ox: objects of the program's own classes, over Fx. -/
namespace Fx
open PySem PySem.Spec PyProof.Rows L2
/-! ### weakening within -/
section
variable {X : Cx}
/-- whatever follows may be weaker -/
def clos (t : TE) : TE := fun σ H Q => ∃ Q0 : VK, t σ H Q0 ∧ ∀ v H1, Q0 v H1 → Q v H1
def closA (t : TA) : TA := fun σ H Q => ∃ Q0, t σ H Q0 ∧ ∀ v H1, Q0 v H1 → Q v H1
theorem pe_clos {e : Expr} {t : TE} (h : PE X e t) : PE X e (clos t) := ⟨fun pins s σ H Q I ⟨Q0, h0, w⟩ => wpAny_mono (h.run pins s σ H Q0 I h0) (fun u s' ⟨v, H', I', r, q⟩ => ⟨v, H', I', r, w v H' q⟩) fun _ _ x => x⟩
theorem pa_clos {es : List Expr} {t : TA} (h : PA X es t) : PA X es (closA t) := ⟨fun pos pins s σ H Q I ⟨Q0, h0, w⟩ => wpAny_mono (h.run pos pins s σ H Q0 I h0) (fun u s' ⟨v, H', I', r, q⟩ => ⟨v, H', I', r, w v H' q⟩) fun _ _ x => x⟩
end
/-! ### heaps but for some places -/
def Keep (ps : List Addr) (H H' : Hp) : Prop := ∀ a o, a ∉ ps → H a = some o → H' a = some o
theorem Keep.refl {ps : List Addr} {H : Hp} : Keep ps H H := fun _ _ _ h => h
theorem Keep.trans {ps : List Addr} {H H1 H2 : Hp} (h : Keep ps H H1) (k : Keep ps H1 H2) : Keep ps H H2 := fun a o n e => k a o n (h a o n e)
theorem Keep.of {ps : List Addr} {H H' : Hp} (s : Same H H') : Keep ps H H' := fun a o _ e => s a o e
theorem Keep.mono {ps qs : List Addr} {H H' : Hp} (h : Keep ps H H') (m : ∀ a ∈ ps, a ∈ qs) : Keep qs H H' := fun a o n e => h a o (fun z => n (m a z)) e
theorem Keep.same {H H' : Hp} (h : Keep [] H H') : Same H H' := fun a o e => h a o (by simp) e
theorem Keep.upd {ps : List Addr} {H H' : Hp} {p : Addr} {o : HO} (h : Keep ps H H') (m : p ∈ ps) : Keep ps H (L2.upd H' p o) := fun a x n e => by
  rw [upd_ne (fun q => n (by rw [q]; exact m))]
  exact h a x n e
theorem Keep.updN {ps : List Addr} {H H' : Hp} {p : Addr} {o : HO} (h : Keep ps H H') (m : H p = none) : Keep ps H (L2.upd H' p o) := fun a x n e => by
  rw [upd_ne (ne_of_none e m)]
  exact h a x n e
/-- what the caller does not know -/
theorem Keep.drop {p : Addr} {ps : List Addr} {H H' : Hp} (h : Keep (p :: ps) H H') (m : H p = none) : Keep ps H H' := fun a x n e => h a x (by
  intro q
  rcases List.mem_cons.mp q with rfl | q
  · rw [m] at e; cases e
  · exact n q) e
/-- the new object's heap, when only it has been changed since -/
theorem mk_same {H H0 : Hp} {y : Addr} {o : HO} (s : Same H H0) (n : H y = none) : Same H (L2.upd H0 y o) := same_mut s n
theorem mk_same2 {H H0 : Hp} {y : Addr} {o o' : HO} (s : Same H H0) (n : H y = none) : Same H (L2.upd (L2.upd H0 y o) y o') := same_mut (same_mut s n) n
theorem upd2 {H : Hp} {y : Addr} {o o' : HO} : L2.upd (L2.upd H y o) y o' = L2.upd H y o' := by
  funext a
  by_cases h : a = y
  · subst h; rw [upd_same, upd_same]
  · rw [upd_ne h, upd_ne h, upd_ne h]
theorem SqL.keep {K : PySem.W.Frag} {ps : List Addr} {H H' : Hp} {a : Addr} {xs : List V} (k : Keep ps H H') (n : a ∉ ps) (h : SqL K H a xs) : SqL K H' a xs :=
  h.elim (fun h => .inl (h.elim (fun h => .inl (k _ _ n h)) fun ⟨o, h⟩ => .inr ⟨o, k _ _ n h⟩)) fun h => .inr h
/-! ### fields -/
def fFld (cs : List Addr) (f : Str) (ta : TE) : TE := fun σ H Q => ta σ H fun x H1 => match x with
  | .ref a => match H1 a with
    | some (.ins C _ fs) => C ∈ cs ∧ match fs.lookup f with
      | some v => Q v H1
      | none => False
    | _ => False
  | _ => False
def fSetF (cs : List Addr) (f : Str) (ta tv : TE) : TS := fun D σ H => tv σ H fun y H1 => ta σ H1 fun x H2 => match x with
  | .ref a => match H2 a with
    | some (.ins C dx fs) => C ∈ cs ∧ fs.length < 1000 ∧ D.nx σ (upd H2 a (.ins C dx (putF f y fs)))
    | _ => False
  | _ => False
/-- the classes that know an attribute only by their instances -/
def Plain (K : PySem.W.Frag) (cs : List Addr) (f : Str) : Prop := ∀ C ∈ cs, Cls K C ∧ NoAttr K C f
section
variable {X : Cx} {o e value : Expr} {f : Str} {pos pos' : Pos} {ta tv : TE} {cs : List Addr}
theorem fe_fld (he : PE X e ta) (hc : Plain X.K cs f) (hb : attributeBase e f X.env (eval e X.env) = eval e X.env) : PE X (.Attribute e f pos) (fFld cs f ta) := by
  refine pe_wk (pe_fld (pe_clos he) hb) fun σ H Q q => ⟨_, q, fun x H1 q => ?_⟩
  split at q
  · split at q
    · obtain ⟨m, q⟩ := q
      split at q
      · exact ⟨_, _, _, _, _, rfl, by assumption, (hc _ m).1, (hc _ m).2, by assumption, q⟩
      · exact q.elim
    · exact q.elim
  · exact q.elim
theorem fs_fld (ha : PE X o ta) (hv : PE X value tv) (hc : Plain X.K cs f) (hs : swapsWith value (some (.Attribute o f pos')) pos.line X.env = pure false) : PS X (.Assign [.Attribute o f pos'] value pos) (fSetF cs f ta tv) := by
  refine ps_wk (ps_fld (pe_clos ha) (pe_clos hv) hs) fun D σ H q => ⟨_, q, fun y H1 q => ⟨_, q, fun x H2 q => ?_⟩⟩
  split at q
  · split at q
    · exact ⟨_, _, _, _, rfl, by assumption, (hc _ q.1).1, (hc _ q.1).2, q.2.1, q.2.2⟩
    · exact q.elim
  · exact q.elim
end
/-- {} -/
def fDnew : TE := fun _ H Q => ∀ p H2, H p = none → Same H H2 → H2 p = some (.dK []) → Q (.ref p) H2
theorem fe_dnew {X : Cx} {pos : Pos} : PE X (.Dict [] [] pos) fDnew := pe_wk pe_dnewK fun σ H Q q => fun p np => q p _ np (same_new np) upd_same
theorem rl_keep {K : PySem.W.Frag} {H H' : Hp} {a : Addr} {xs : List V} (s : Same H H') (h : Rl K H a xs) : Rl K H' a xs := h.elim (fun h => .inl (s.seq h)) fun h => .inr (SqT.ext h s)
/-! ### methods, making -/
/-- a method as it stands in its class -/
structure AtM (K : PySem.W.Frag) (C : Addr) (x qual : Str) (st : Stmt) (ps : List Str) : Prop where
  ex : ∃ (f : Addr) (fd : FuncData), Fun K x qual st f fd ∧ Binds K fd ps [] ∧ Meth K C x f
structure MFact (K : PySem.W.Frag) (C : Addr) (x qual : Str) (st : Stmt) : Prop where
  ex : ∃ (f : Addr) (oc : Value) (od an : Option Addr) (sl : Array (Option Value)) (kV dc pm cd ct : Value),
    PySem.W.findIn K (.ref C) x = some (some (.ref f)) ∧ K.lookup f = some ⟨oc, od, .func (PySem.W.fnOf x qual (defArgs st) (defBody st) (defScope st) .none kV dc pm an cd ct), sl⟩ ∧
    PySem.W.codeIn K cd qual = true ∧ PySem.W.keepIn K (.ref f) = true ∧ PySem.W.isFn K (.ref f) = true
theorem MFact.of {K : PySem.W.Frag} {C : Addr} {x qual : Str} {st : Stmt} {f : Addr} {oc : Value} {od an : Option Addr} {sl : Array (Option Value)} {kV dc pm cd ct : Value}
    (a : PySem.W.findIn K (.ref C) x = some (some (.ref f))) (l : K.lookup f = some ⟨oc, od, .func (PySem.W.fnOf x qual (defArgs st) (defBody st) (defScope st) .none kV dc pm an cd ct), sl⟩)
    (c : PySem.W.codeIn K cd qual = true) (k : PySem.W.keepIn K (.ref f) = true) (i : PySem.W.isFn K (.ref f) = true) : MFact K C x qual st := ⟨f, oc, od, an, sl, kV, dc, pm, cd, ct, a, l, c, k, i⟩
theorem AtM.of {K : PySem.W.Frag} {C : Addr} {x qual : Str} {st : Stmt} {ps : List Str} (F : MFact K C x qual st)
    (hb : ∀ (kV doc pm : Value) (an : Option Addr) (cdv ct : Value) (us : List Value), us.length = ps.length → bindArgs (PySem.W.fnOf x qual (defArgs st) (defBody st) (defScope st) .none kV doc pm an cdv ct) ⟨us, []⟩ = pure (ps.zip us)) : AtM K C x qual st ps := by
  obtain ⟨f, oc, od, an, sl, kV, dc, pm, cd, ct, a, l, c, k, i⟩ := F.ex
  have F1 := fun_mk (st := st) l c k
  exact ⟨_, _, F1, F1.binds hb, ⟨a, i, k⟩⟩
/-- a method that keeps a promise (of the object and the arguments) -/
structure HasM (P : Program) (w : World) (K : PySem.W.Frag) (mg : Str → Option Value) (base : Heap) (CX : CXT) (C : Addr) (x : Str) (k : Nat) (ps : List Str) (sp : Sp) : Prop where
  ex : ∃ (f : Addr) (fd : FuncData), FnOk P w K mg base CX k f fd ps sp ∧ Binds K fd ps [] ∧ Meth K C x f
/-- a class whose making keeps a promise (of the arguments) -/
structure HasC (P : Program) (w : World) (K : PySem.W.Frag) (mg : Str → Option Value) (base : Heap) (CX : CXT) (C : Addr) (x : Str) (k : Nat) (ps : List Str) (sp : Sp) : Prop where
  ex : ∃ (f : Addr) (fd : FuncData) (sp' : Sp), FnOk P w K mg base CX k f fd ps sp' ∧ Binds K fd ps [] ∧ Mk K C f ∧ mg x = some (.ref C) ∧
    ∀ vs H Q E, sp vs H Q E → ∀ y dx H0, H y = none → Same H H0 → H0 y = some (.ins C dx []) → sp' (.ref y :: vs) H0 (fun v H2 => v = .non ∧ Q (.ref y) H2) E
section
variable {P : Program} {w : World} {K : PySem.W.Frag} {mg : Str → Option Value} {base : Heap}
theorem hasM_of {C : Addr} {x qual : Str} {st : Stmt} {N ps : List Str} {k : Nat} {sp : Sp} (A : AtM K C x qual st ps) (S : FnScope N ps (defScope st)) (len : ∀ vs H Q E, sp vs H Q E → vs.length = ps.length)
    (hbody : ∀ (cdv : Value) (f : Addr) (A : Around) (outer : List Env) (s : Shared) (H : Hp) (vs : List V) (Q : VK) (E : XK), Room k (A.deeper (envOfC qual (defScope st) s.heap.objs.size f cdv)) → sp vs H Q E →
      ∃ t, PSs (cxOf CX0 P w K mg base N qual (defScope st) f cdv A outer s H E).nox (defBody st) t ∧ t { nx := fun _ H' => Q .non H', rt := Q } (start N vs) H) : HasM P w K mg base CX0 C x (k + 1) ps sp := by
  obtain ⟨f, fd, F, B, G⟩ := A.ex
  exact ⟨f, fd, F.ok S len fun cdv A outer s H vs Q E hr h => hbody cdv f A outer s H vs Q E hr h, B, G⟩
/-- what a class is for making -/
structure MkAt (K : PySem.W.Frag) (mg : Str → Option Value) (x : Str) (C : Addr) : Prop where
  makes : PySem.W.makesIn K C = true
  kp : PySem.W.keepIn K (.ref C) = true
  at_ : mg x = some (.ref C)
theorem hasC_of {C : Addr} {x qual : Str} {st : Stmt} {N ps : List Str} {k : Nat} {sp : Sp} (M : MkAt K mg x C) (A : AtM K C "__init__" qual st ps) (S : FnScope N ps (defScope st)) (len : ∀ vs H Q E, sp vs H Q E → vs.length + 1 = ps.length)
    (hbody : ∀ (cdv : Value) (f : Addr) (A : Around) (outer : List Env) (s : Shared) (H : Hp) (vs : List V) (Q : VK) (E : XK) (y dx : Addr) (H0 : Hp), Room k (A.deeper (envOfC qual (defScope st) s.heap.objs.size f cdv)) → sp vs H Q E → H y = none → Same H H0 → H0 y = some (.ins C dx []) →
      ∃ t, PSs (cxOf CX0 P w K mg base N qual (defScope st) f cdv A outer s H0 E).nox (defBody st) t ∧ t { nx := fun _ H' => Q (.ref y) H', rt := fun v H' => v = .non ∧ Q (.ref y) H' } (start N (.ref y :: vs)) H0) : HasC P w K mg base CX0 C x (k + 1) ps sp := by
  obtain ⟨f, fd, F, B, G⟩ := A.ex
  refine ⟨f, fd, fun ws H0 Q' E => ∃ y vs H Q dx, ws = .ref y :: vs ∧ sp vs H Q E ∧ H y = none ∧ Same H H0 ∧ H0 y = some (.ins C dx []) ∧ Q' = fun v H2 => v = .non ∧ Q (.ref y) H2, ?_, B, ⟨M.makes, G.at_, G.fn, M.kp⟩, M.at_, ?_⟩
  · refine F.ok S (fun ws H0 Q' E h => ?_) fun cdv A outer s H0 ws Q' E hr h => ?_
    · obtain ⟨y, vs, H, Q, dx, rfl, h, _⟩ := h
      exact len vs H Q E h
    · obtain ⟨y, vs, H, Q, dx, rfl, h, hy, hs, h0, rfl⟩ := h
      obtain ⟨t, h1, h2⟩ := hbody cdv f A outer s H vs Q E y dx H0 hr h hy hs h0
      refine ⟨t, h1, ?_⟩
      have e : (fun (_ : L2.St) (H' : Hp) => (fun v H2 => v = V.non ∧ Q (.ref y) H2) V.non H') = fun _ H' => Q (.ref y) H' := by
        funext _ H'
        exact propext ⟨fun h => h.2, fun h => ⟨rfl, h⟩⟩
      rw [e]
      exact h2
  · intro vs H Q E h y dx H0 hy hs h0
    exact ⟨y, vs, H, Q, dx, rfl, h, hy, hs, h0, rfl⟩
end
section
variable {X : Cx} {CX : CXT} {k : Nat} {C : Addr} {x m : Str} {p pos apos : Pos} {o e : Expr} {es : List Expr} {t : TA} {ta : TE} {ps : List Str} {sp : Sp} {E : XK}
theorem fe_make (h : HasC X.prog X.w X.K X.mg X.base CX C x k ps sp) (hr : Room (k + 1) X.A) (hg : Gl X x) (hx : Passes CX X E) (ha : PA X (e :: es) t) (hd : (x == ("__debug__" : Str)) = false := by decide)
    (hs : starEach (e :: es) X.env = (false, eval e X.env) :: starEach es X.env := by rfl) (hplain : (backTo pos (starEach es X.env)).any (·.1) = false := by rfl) : PE X (.Call (.Name x p) (e :: es) [] pos) (tCall sp [] E t) := by
  obtain ⟨f, fd, sp', F, B, M, G, h⟩ := h.ex
  refine pe_wk (pe_make M F hr hg G B .nil hx (pa_clos ha) hd hs hplain) fun σ H Q q => ⟨_, q, fun vs H1 q y dx n1 n2 n3 => ?_⟩
  rw [List.append_nil] at q ⊢
  refine h vs H1 Q E q y dx _ n1 (fun b z ez => ?_) upd_same
  rw [upd_ne (ne_of_none ez n1), upd_ne (ne_of_none ez n2)]
  exact ez
theorem fe_make0 (h : HasC X.prog X.w X.K X.mg X.base CX C x k ps sp) (hr : Room (k + 1) X.A) (hg : Gl X x) (hx : Passes CX X E) (hd : (x == ("__debug__" : Str)) = false := by decide) : PE X (.Call (.Name x p) [] [] pos) (tCall sp [] E tNil) := by
  obtain ⟨f, fd, sp', F, B, M, G, h⟩ := h.ex
  refine pe_wk (pe_make0 M F hr hg G B .nil hx hd) fun σ H Q q => ?_
  show tNil σ H _
  intro y dx n1 n2 n3
  refine h [] H Q E q y dx _ n1 (fun b z ez => ?_) upd_same
  rw [upd_ne (ne_of_none ez n1), upd_ne (ne_of_none ez n2)]
  exact ez
/-- an instance of the class, without an attribute of the name -/
def isOb (C : Addr) (m : Str) : V → Hp → Prop := fun x H => match x with
  | .ref a => match H a with
    | some (.ins D _ fs) => D = C ∧ fs.lookup m = none
    | _ => False
  | _ => False
def fMeth (C : Addr) (m : Str) (sp : Sp) (E : XK) (ta : TE) (t : TA) : TE := fun σ H Q => ta σ H fun x H1 => isOb C m x H1 ∧ t σ H1 fun vs H2 => sp (x :: vs) H2 Q E
theorem fMeth_to {σ : L2.St} {H : Hp} {Q : VK} (q : fMeth C m sp E ta t σ H Q) : tMeth C m sp [] E (clos ta) t σ H Q := by
  refine ⟨_, q, fun x H1 ⟨q1, q2⟩ => ?_⟩
  unfold isOb at q1
  split at q1
  · split at q1
    · obtain ⟨rfl, q1⟩ := q1
      refine ⟨_, _, _, rfl, by assumption, q1, ?_⟩
      simp only [List.append_nil]
      exact q2
    · exact q1.elim
  · exact q1.elim
theorem fe_meth {pl : Sem Bool} (h : HasM X.prog X.w X.K X.mg X.base CX C m k ps sp) (c : Cls X.K C) (hr : Room k X.A) (hx : Passes CX X E) (he : PE X o ta) (ha : PA X (e :: es) t)
    (hst : starEach (e :: es) X.env = (false, eval e X.env) :: starEach es X.env := by rfl) (hpl : (backTo pos (starEach es X.env)).any (·.1) = false := by rfl)
    (ht : eval (.Call (.Attribute o m apos) (e :: es) [] pos) X.env = (do
      let ov ← eval o X.env
      standAt apos.atName
      let (f, first) ← holding [ov] (getMethod ov m pl)
      callWith pos f first (backTo pos (starEach (e :: es) X.env)) (backToKw pos (keywordEach [] X.env))) := by rfl) :
    PE X (.Call (.Attribute o m apos) (e :: es) [] pos) (fMeth C m sp E ta t) := by
  obtain ⟨f, fd, F, B, M⟩ := h.ex
  exact pe_wk (pe_meth (pe_clos he) c M F hr B .nil hx ha hst hpl ht) fun σ H Q q => fMeth_to q
theorem fe_meth0 {pl : Sem Bool} (h : HasM X.prog X.w X.K X.mg X.base CX C m k ps sp) (c : Cls X.K C) (hr : Room k X.A) (hx : Passes CX X E) (he : PE X o ta)
    (ht : eval (.Call (.Attribute o m apos) [] [] pos) X.env = (do
      let ov ← eval o X.env
      standAt apos.atName
      let (f, first) ← holding [ov] (getMethod ov m pl)
      callWith pos f first (backTo pos (starEach [] X.env)) (backToKw pos (keywordEach [] X.env))) := by rfl) :
    PE X (.Call (.Attribute o m apos) [] [] pos) (fMeth C m sp E ta tNil) := by
  obtain ⟨f, fd, F, B, M⟩ := h.ex
  exact pe_wk (pe_meth0 (pe_clos he) c M F hr B .nil hx ht) fun σ H Q q => fMeth_to q
end
/-! ### isinstance of own classes -/
/-- what isinstance asks of a class of the program -/
structure OCls (K : PySem.W.Frag) (C : Addr) : Prop where
  cl : Cls K C
  ci : PySem.W.findIn K (.ref C) "__class__" = some (some (.builtin "object.__class__"))
  gd : PySem.W.specialIn K (.builtin "object.__class__") "__get__" = some (some (.builtin "getset_descriptor.__get__"))
  tk : PySem.W.takesIn K (.builtin "object.__class__") = some true
  mr : PySem.W.mroIn K C (.type "object") = some true
/-- the answers of isinstance for instances of cs and plain values, at the classes ds -/
structure Kit (K : PySem.W.Frag) (cs ds : List Addr) : Prop where
  ow : ∀ C ∈ cs, OCls K C
  oo : ∀ C ∈ cs, ∀ D ∈ ds, PySem.W.kitOne K (.ref C) (.ref D) = some (decide (C = D))
  bo : ∀ n ∈ ["NoneType", "bool", "int", "str", "list", "tuple", "dict"], ∀ D ∈ ds, PySem.W.kitOne K (.type n) (.ref D) = some false
  ob : ∀ C ∈ cs, ∀ n ∈ ["bool", "int", "str", "list", "tuple", "dict"], PySem.W.kitOne K (.ref C) (.type n) = some false
/-- a value's class -/
def tyV2 (H : Hp) : V → Option Value
  | .ref a => match H a with
    | some (.ins C _ _) => some (.ref C)
    | some (.lst _) => some (.type "list")
    | some (.tup _) => some (.type "tuple")
    | some (.dK _) => some (.type "dict")
    | some (.dT _) => some (.type "dict")
    | _ => none
  | .non => some (.type "NoneType")
  | .bl _ => some (.type "bool")
  | .int _ => some (.type "int")
  | .str _ => some (.type "str")
  | _ => none
def okT (cs : List Addr) : Value → Prop
  | .ref C => C ∈ cs
  | _ => True
def kit2 (D : Addr) : Value → Bool
  | .ref C => decide (C = D)
  | _ => false
theorem ty2_kit {K : PySem.W.Frag} {cs ds : List Addr} (k : Kit K cs ds) {H : Hp} {x : V} {t : Value} (h : tyV2 H x = some t) (ok : okT cs t) : TyX K H x t ∧ ∀ D ∈ ds, PySem.W.kitOne K t (.ref D) = some (kit2 D t) := by
  unfold tyV2 at h
  split at h <;> first
    | (cases h; exact ⟨.base .non, fun D hD => k.bo "NoneType" (by decide) D hD⟩)
    | (cases h; exact ⟨.base (.bl _), fun D hD => k.bo "bool" (by decide) D hD⟩)
    | (cases h; exact ⟨.base (.int _), fun D hD => k.bo "int" (by decide) D hD⟩)
    | (cases h; exact ⟨.base (.str _), fun D hD => k.bo "str" (by decide) D hD⟩)
    | (split at h <;> first
        | (cases h; exact ⟨.base (.lst (by assumption)), fun D hD => k.bo "list" (by decide) D hD⟩)
        | (cases h; exact ⟨.base (.tup (by assumption)), fun D hD => k.bo "tuple" (by decide) D hD⟩)
        | (cases h; exact ⟨.base (.dK (by assumption)), fun D hD => k.bo "dict" (by decide) D hD⟩)
        | (cases h; exact ⟨.base (.dT (by assumption)), fun D hD => k.bo "dict" (by decide) D hD⟩)
        | (cases h
           have O := k.ow _ ok
           exact ⟨.base (.ins (by assumption) O.cl O.ci O.gd O.tk O.mr), fun D hD => k.oo _ ok D hD⟩)
        | cases h)
    | cases h
/-- isinstance(x, C), C an own class -/
def fIsiO (cs ds : List Addr) : List V → Hp → VK → Prop := fun xs H Q => match xs with
  | [x, .ref D] => ∃ t, tyV2 H x = some t ∧ okT cs t ∧ D ∈ ds ∧ Q (.bl (kit2 D t)) H
  | _ => False
theorem call_fIsiO {X : Cx} {cs ds : List Addr} (k : Kit X.K cs ds) : CallR X (.builtin "isinstance") (fIsiO cs ds) := by
  intro pins s σ H xs us Q I r h
  match xs, r, h with
  | [x, .ref D], r, h =>
    obtain ⟨t, h1, h2, h3, h4⟩ := h
    obtain ⟨g1, g2⟩ := ty2_kit k h1 h2
    exact call_isi pins s σ H _ us Q I r ⟨x, .ref D, _, _, _, rfl, .own D, g1, g2 D h3, h4⟩
/-- isinstance(x, (C, D, ..)), own classes, the tuple just made -/
def kits2 (t : Value) : List V → Bool
  | .ref D :: r => kit2 D t || kits2 t r
  | _ => false
def allIn (ds : List Addr) : List V → Prop
  | [] => True
  | .ref D :: r => D ∈ ds ∧ allIn ds r
  | _ :: _ => False
theorem kits2_any {K : PySem.W.Frag} {ds : List Addr} {t : Value} (k : ∀ D ∈ ds, PySem.W.kitOne K t (.ref D) = some (kit2 D t)) : ∀ {vs : List V}, allIn ds vs → ∃ us, Paired ClsV vs us ∧ PySem.W.kitAny K t us = some (kits2 t vs)
  | [], _ => ⟨[], .nil, kitAny_nil⟩
  | v :: r, ha => by
    cases v <;> first
      | exact ha.elim
      | (rename_i D
         obtain ⟨us, p, q⟩ := kits2_any k ha.2
         refine ⟨_, .cons (.own D) p, kitAny_cons (k D ha.1) (fun hb => ?_) (fun hb => ?_)⟩
         · rw [q, kits2, hb]; rfl
         · rw [kits2, hb]; rfl)
def fIsiP (cs ds : List Addr) : List V → Hp → VK → Prop := fun xs H Q => match xs with
  | [x, .ref p] => match H p with
    | some (.tup vs) => ∃ t, tyV2 H x = some t ∧ okT cs t ∧ allIn ds vs ∧ Q (.bl (kits2 t vs)) H
    | _ => False
  | _ => False
theorem call_fIsiP {X : Cx} {cs ds : List Addr} (k : Kit X.K cs ds) : CallR X (.builtin "isinstance") (fIsiP cs ds) := by
  intro pins s σ H xs us Q I r h
  match xs, r, h with
  | [x, .ref p], r, h =>
    dsimp only [fIsiP] at h
    split at h
    · obtain ⟨t, h1, h2, h3, h4⟩ := h
      obtain ⟨g1, g2⟩ := ty2_kit k h1 h2
      obtain ⟨ws, g3, g4⟩ := kits2_any g2 h3
      exact call_isiT pins s σ H _ us Q I r ⟨x, p, _, _, ws, _, rfl, by assumption, g3, g1, g4, h4⟩
    · exact h.elim
/-- isinstance(x, T), T a built-in class, x an instance too -/
def fIsiA (cs : List Addr) : List V → Hp → VK → Prop := fun xs H Q => match xs with
  | [x, .ty n] => ∃ t, tyV2 H x = some t ∧ match t with
    | .ref C => C ∈ cs ∧ n ∈ ["bool", "int", "str", "list", "tuple", "dict"] ∧ Q (.bl false) H
    | .type s => ∃ b, kitB s n = some b ∧ Q (.bl b) H
    | _ => False
  | _ => False
theorem call_fIsiA {X : Cx} {cs ds : List Addr} (k : Kit X.K cs ds) : CallR X (.builtin "isinstance") (fIsiA cs) := by
  intro pins s σ H xs us Q I r h
  match xs, r, h with
  | [x, .ty n], r, h =>
    obtain ⟨t, h1, h2⟩ := h
    match t, h1, h2 with
    | .ref C, h1, h2 =>
      obtain ⟨g1, _⟩ := ty2_kit k h1 (show okT cs (.ref C) from h2.1)
      exact call_isi pins s σ H _ us Q I r ⟨x, .ty n, _, _, _, rfl, .ty n, g1, k.ob C h2.1 n h2.2.1, h2.2.2⟩
    | .type s', h1, h2 =>
      obtain ⟨b, h3, h4⟩ := h2
      obtain ⟨g1, _⟩ := ty2_kit k h1 (show okT cs (.type s') from trivial)
      exact call_isi pins s σ H _ us Q I r ⟨x, .ty n, _, _, _, rfl, .ty n, g1, kit_ty h3, h4⟩
/-- x is True, x is False; x is not .. -/
def fIsB (neg : Bool) : R2 := fun x y H Q => match y with
  | .bl b => (match x with | .non => Q (.bl neg) H | .bl c => Q (.bl (if neg = true then !decide (c = b) else decide (c = b))) H | .int _ => Q (.bl neg) H | .str _ => Q (.bl neg) H | .ref _ => Q (.bl neg) H | _ => False)
  | _ => False
theorem same_bool {M : Model} {A : Around} {E : Value → Shared → Prop} {s : Shared} {x : V} {u : Value} {b : Bool} {R : Bool → Shared → Prop} (r : RelV x u)
    (h : match x with | .non => R false s | .bl c => R (decide (c = b)) s | .int _ => R false s | .str _ => R false s | .ref _ => R false s | _ => False) : wpAny M A (isSame u (.bool b)) R E s := by
  cases x <;> first
    | exact h.elim
    | (cases r
       refine wpAny_isSame_plain rfl ?_
       exact h)
    | (obtain ⟨t, rfl⟩ := r
       refine wpAny_isSame_plain rfl ?_
       exact h)
    | (cases r
       rename_i c
       refine wpAny_isSame_plain rfl ?_
       have e : (Value.bool c == Value.bool b) = decide (c = b) := by cases c <;> cases b <;> rfl
       rw [e]
       exact h)
theorem op_fIsB {X : Cx} : OpR X (compareOp .Is) (fIsB false) := by
  intro pins s σ H x y v u Q I rx ry h
  cases y <;> first
    | exact False.elim h
    | (cases ry
       show wpAny _ _ ((isSame v (Value.bool _)) >>= fun z => pure (Value.bool z)) _ _ s
       refine wpAny_bind (same_bool rx ?_)
       cases x <;> first
         | exact False.elim h
         | exact wpAny_pure (fin_bl I h rfl))
theorem op_fNotB {X : Cx} : OpR X (compareOp .IsNot) (fIsB true) := by
  intro pins s σ H x y v u Q I rx ry h
  cases y <;> first
    | exact False.elim h
    | (cases ry
       show wpAny _ _ ((isSame v (Value.bool _)) >>= fun z => pure (Value.bool (!z))) _ _ s
       refine wpAny_bind (same_bool rx ?_)
       cases x <;> first
         | exact False.elim h
         | exact wpAny_pure (fin_bl I h rfl))
/-- one of two ways -/
def fOr (r1 r2 : R2) : R2 := fun x y H Q => r1 x y H Q ∨ r2 x y H Q
theorem op_fOr {X : Cx} {f : Value → Value → Sem Value} {r1 r2 : R2} (h1 : OpR X f r1) (h2 : OpR X f r2) : OpR X f (fOr r1 r2) := fun pins s σ H x y v u Q I rx ry q => q.elim (h1 pins s σ H x y v u Q I rx ry) (h2 pins s σ H x y v u Q I rx ry)
theorem all_nil {α : Type} {P : α → Prop} : ∀ x ∈ ([] : List α), P x := fun _ h => by cases h
theorem all_cons {α : Type} {P : α → Prop} {a : α} {l : List α} (h : P a) (t : ∀ x ∈ l, P x) : ∀ x ∈ a :: l, P x := fun x m => by
  rcases List.mem_cons.mp m with rfl | m
  · exact h
  · exact t x m
/-! ### == by an own __eq__ -/
def fEqO (C : Addr) (sp : Sp) (E : XK) : R2 := fun x y H Q => match x, y with
  | .ref a, .ref b => (match H a with | some (.ins D _ _) => D = C | _ => False) ∧ (match H b with | some (.ins D _ _) => D = C | _ => False) ∧ sp [x, y] H (fun v H' => match v with | .bl _ => Q v H' | _ => False) E
  | _, _ => False
theorem op_fEqO {X : Cx} {CX : CXT} {C : Addr} {n : Nat} {ps : List Str} {sp : Sp} {E : XK} (h : HasM X.prog X.w X.K X.mg X.base CX C "__eq__" n ps sp) (hr : Room n X.A) (hx : Passes CX X E) : OpR X (compareOp .Eq) (fEqO C sp E) := by
  intro pins s σ H x y v u Q I rx ry q
  obtain ⟨f, fd, F, B, M⟩ := h.ex
  cases x <;> cases y <;> first
    | exact False.elim q
    | skip
  rename_i a b
  dsimp only [fEqO] at q
  obtain ⟨qa, qb, q⟩ := q
  split at qa
  · rename_i D1 dx1 fs1 ea
    split at qb
    · rename_i D2 dx2 fs2 eb
      subst qa
      subst qb
      cases rx
      cases ry
      obtain ⟨mA, J, _⟩ := ins_get I.hok ea
      obtain ⟨mB, J', _⟩ := ins_get I.hok eb
      obtain ⟨od, J, _⟩ := J.look
      obtain ⟨od', J', _⟩ := J'.look
      obtain ⟨m, hF⟩ := I.fr
      show wpAny (model X.prog X.w) X.A (richCompare .Eq (.ref a) (.ref b)) (EP X pins σ Q) X.xe s
      refine PySem.W.cmp_K (op := .Eq) (tb := .ref D2) hr.units0 hF I.ok.mod.kin J J'.type (by simp [PySem.W.notFirst]) M.at_ M.fn ?_
      refine wpAny_mono (run_fn (vs := [.ref a, .ref b]) F hr B .nil hx I (.cons rfl (.cons rfl .nil)) q) (fun w s' z => ?_) fun _ _ x => x
      obtain ⟨y, H', I', r, z⟩ := z
      cases y <;> first
        | exact z.elim
        | (cases r; exact ⟨.bl _, H', I', rfl, z⟩)
    · exact qb.elim
  · exact qa.elim
/-! ### what the top has written of a class -/
structure ClsFact (K : PySem.W.Frag) (C : Addr) : Prop where
  pg : PySem.W.plainGet K C Str.empty = true
  hd : PySem.W.hasDictIn K C = true
  po : PySem.W.plainOver K C = true
  sa : PySem.W.findIn K (.ref C) "__setattr__" = some (some (.builtin "object.__setattr__"))
  ci : PySem.W.findIn K (.ref C) "__class__" = some (some (.builtin "object.__class__"))
  mr : PySem.W.mroIn K C (.type "object") = some true
  mks : PySem.W.makesIn K C = true
  kp : PySem.W.keepIn K (.ref C) = true
theorem ClsFact.cls {K : PySem.W.Frag} {C : Addr} (x : ClsFact K C) : Cls K C := ⟨x.pg, x.hd, x.po, x.sa⟩
/-- what every class has of object -/
structure ObjFact (K : PySem.W.Frag) : Prop where
  gd : PySem.W.specialIn K (.builtin "object.__class__") "__get__" = some (some (.builtin "getset_descriptor.__get__"))
  tk : PySem.W.takesIn K (.builtin "object.__class__") = some true
theorem ClsFact.ocls {K : PySem.W.Frag} {C : Addr} (x : ClsFact K C) (o : ObjFact K) : OCls K C := ⟨x.cls, x.ci, o.gd, o.tk, x.mr⟩
/-! ### comprehensions -/
def Lc (J : It) (g : TG) (tt : TT) (te : TE) (vs : List Nat) (σ : L2.St) (H1 : Hp) (D : Addr) (Q : VK) : Prop := ∃ W : Nat → Nat → Hp → Prop, (∃ m, W 0 m (upd H1 D (.lst []))) ∧ ∀ i m H, W i m H →
  (J.stop i H ∧ Q (.ref D) H) ∨ (J.go i H ∧ ∃ Nx : Hp → Prop, (∀ H', Nx H' → ∃ m', m' < m ∧ W (i + 1) m' H') ∧ ∀ x H', J.yld i H x H' → g x (wipe σ vs) H' fun σ2 H2 => wipe σ2 vs = wipe σ vs ∧ tt σ2 H2 fun b H3 =>
    if b = true then te σ2 H3 fun y H4 => ∃ acc, H4 D = some (.lst acc) ∧ acc.length < sizeLine ∧ Nx (upd H4 D (.lst (acc ++ [y]))) else Nx H3)
theorem lc_ {wi : TI} {g : TG} {tt : TT} {te : TE} {vs : List Nat} {σ : L2.St} {H : Hp} {Q : VK} (h : wi σ H fun J H1 => ∀ D, H1 D = none → Lc J g tt te vs σ H1 D Q) : tLc wi g tt te vs σ H Q := h
theorem lcx_range {lo : Int} {n : Nat} {g : TG} {tt : TT} {te : TE} {vs : List Nat} {σ : L2.St} {H1 : Hp} {D : Addr} {Q : VK} (Pv : Nat → Hp → Prop) (h0 : Pv 0 (upd H1 D (.lst [])))
    (hs : ∀ i H, i < n → Pv i H → g (.int (lo + i)) (wipe σ vs) H fun σ2 H2 => wipe σ2 vs = wipe σ vs ∧ tt σ2 H2 fun b H3 =>
      if b = true then te σ2 H3 fun y H4 => ∃ acc, H4 D = some (.lst acc) ∧ acc.length < sizeLine ∧ Pv (i + 1) (upd H4 D (.lst (acc ++ [y]))) else Pv (i + 1) H3) (hd : ∀ H, Pv n H → Q (.ref D) H) : Lc (Itr lo n) g tt te vs σ H1 D Q :=
  lc_it walk_range Pv h0 (fun _ _ _ _ => trivial) (fun i x H H' hi p y => by
    obtain ⟨rfl, rfl⟩ := y
    exact hs i _ hi p) hd
theorem lcx_list {K : PySem.W.Frag} {a : Addr} {xs : List V} {g : TG} {tt : TT} {te : TE} {vs : List Nat} {σ : L2.St} {H1 : Hp} {D : Addr} {Q : VK} (Pv : Nat → Hp → Prop) (h0 : Pv 0 (upd H1 D (.lst []))) (hl : ∀ i H, i ≤ xs.length → Pv i H → SqL K H a xs)
    (hs : ∀ i x H, xs[i]? = some x → Pv i H → g x (wipe σ vs) H fun σ2 H2 => wipe σ2 vs = wipe σ vs ∧ tt σ2 H2 fun b H3 =>
      if b = true then te σ2 H3 fun y H4 => ∃ acc, H4 D = some (.lst acc) ∧ acc.length < sizeLine ∧ Pv (i + 1) (upd H4 D (.lst (acc ++ [y]))) else Pv (i + 1) H3) (hd : ∀ H, Pv xs.length H → Q (.ref D) H) : Lc (Itl K a) g tt te vs σ H1 D Q :=
  lc_it walk_list Pv h0 hl (fun i x H H' hi p y => by
    obtain ⟨rfl, e⟩ := y
    exact hs i x _ e p) hd
end Fx

set_option Elab.async false
set_option linter.all false
set_option maxRecDepth 100000
/-! Ex: exceptions of the program's own classes, over Ox. -/
namespace Fx
open PySem PySem.Spec PyProof.Rows L2
/-! ### defs that may raise -/
/-- what leaves a def, as its promise says -/
abbrev wOf (E : XK) : WX := fun cls d _ H => E cls d H
section
variable {P : Program} {w : World} {K : PySem.W.Frag} {mg : Str → Option Value} {base : Heap}
theorem tk_of {N : List Str} {qual : Str} {sc : Scope} {f : Addr} {cd : Value} {A : Around} {outer : List Env} {s : Shared} {H : Hp} {E : XK} : Takes (cxOf (L2.CX P w) P w K mg base N qual sc f cd A outer s H E) (wOf E) := takes_of rfl rfl rfl rfl
theorem hasX_of {x qual : Str} {st : Stmt} {N ps : List Str} {k : Nat} {sp : Sp} (A : At K mg x qual st ps) (S : FnScope N ps (defScope st)) (len : ∀ vs H Q E, sp vs H Q E → vs.length = ps.length)
    (hbody : ∀ (cdv : Value) (f : Addr) (A : Around) (outer : List Env) (s : Shared) (H : Hp) (vs : List V) (Q : VK) (E : XK), Room k (A.deeper (envOfC qual (defScope st) s.heap.objs.size f cdv)) → sp vs H Q E →
      ∃ t, PSs (cxOf (L2.CX P w) P w K mg base N qual (defScope st) f cdv A outer s H E) (defBody st) t ∧ t { nx := fun _ H' => Q .non H', rt := Q } (start N vs) H) : Has P w K mg base (L2.CX P w) x (k + 1) ps sp := by
  obtain ⟨f, fd, F, B, G⟩ := A.ex
  exact ⟨f, fd, F.okX S len fun cdv A outer s H vs Q E hr h => hbody cdv f A outer s H vs Q E hr h, B, G, F.kp⟩
theorem hasMX_of {C : Addr} {x qual : Str} {st : Stmt} {N ps : List Str} {k : Nat} {sp : Sp} (A : AtM K C x qual st ps) (S : FnScope N ps (defScope st)) (len : ∀ vs H Q E, sp vs H Q E → vs.length = ps.length)
    (hbody : ∀ (cdv : Value) (f : Addr) (A : Around) (outer : List Env) (s : Shared) (H : Hp) (vs : List V) (Q : VK) (E : XK), Room k (A.deeper (envOfC qual (defScope st) s.heap.objs.size f cdv)) → sp vs H Q E →
      ∃ t, PSs (cxOf (L2.CX P w) P w K mg base N qual (defScope st) f cdv A outer s H E) (defBody st) t ∧ t { nx := fun _ H' => Q .non H', rt := Q } (start N vs) H) : HasM P w K mg base (L2.CX P w) C x (k + 1) ps sp := by
  obtain ⟨f, fd, F, B, G⟩ := A.ex
  exact ⟨f, fd, F.okX S len fun cdv A outer s H vs Q E hr h => hbody cdv f A outer s H vs Q E hr h, B, G⟩
end
section
variable {X : Cx} {CX : CXT} {k : Nat} {C : Addr} {x m : Str} {p pos apos : Pos} {o e : Expr} {es : List Expr} {t : TA} {ta : TE} {ps : List Str} {sp : Sp} {W : WX}
theorem fe_callX (h : Has X.prog X.w X.K X.mg X.base (L2.CX X.prog X.w) x k ps sp) (hr : Room k X.A) (hg : Gl X x) (tk : Takes X W) (ha : PA X (e :: es) t) (hd : (x == ("__debug__" : Str)) = false := by decide)
    (hs : starEach (e :: es) X.env = (false, eval e X.env) :: starEach es X.env := by rfl) (hplain : (backTo pos (starEach es X.env)).any (·.1) = false := by rfl) : PE X (.Call (.Name x p) (e :: es) [] pos) (tCallS sp (WE W) t) := by
  obtain ⟨f, fd, F, B, G, kp⟩ := h.ex
  exact pe_callS F hr hg G kp B (fun σ => passAt tk σ) ha hd hs hplain
theorem fe_callX0 (h : Has X.prog X.w X.K X.mg X.base (L2.CX X.prog X.w) x k ps sp) (hr : Room k X.A) (hg : Gl X x) (tk : Takes X W) (hd : (x == ("__debug__" : Str)) = false := by decide) : PE X (.Call (.Name x p) [] [] pos) (tCallS sp (WE W) tNil) := by
  obtain ⟨f, fd, F, B, G, kp⟩ := h.ex
  refine ⟨fun pins s σ H Q I h => ?_⟩
  refine wpAny_Call_Name_kw (ld_glob I hg G ?_ hd)
  exact PySem.W.callWith_K0 I.kIn kp (run_fnS (us := []) F hr B (passAt tk σ) I .nil h)
theorem isOb_some {a : Addr} {H : Hp} (h : isOb C m (.ref a) H) : ∃ dx fs, H a = some (.ins C dx fs) ∧ fs.lookup m = none := by
  unfold isOb at h
  dsimp only at h
  split at h
  · obtain ⟨rfl, l⟩ := h
    exact ⟨_, _, by assumption, l⟩
  · exact h.elim
def fMethS (C : Addr) (m : Str) (sp : Sp) (E : L2.St → XK) (ta : TE) (t : TA) : TE := fun σ H Q => ta σ H fun x H1 => isOb C m x H1 ∧ t σ H1 fun vs H2 => sp (x :: vs) H2 Q (E σ)
theorem fe_methX {pl : Sem Bool} (h : HasM X.prog X.w X.K X.mg X.base (L2.CX X.prog X.w) C m k ps sp) (c : Cls X.K C) (hr : Room k X.A) (tk : Takes X W) (he : PE X o ta) (ha : PA X (e :: es) t)
    (hst : starEach (e :: es) X.env = (false, eval e X.env) :: starEach es X.env := by rfl) (hpl : (backTo pos (starEach es X.env)).any (·.1) = false := by rfl)
    (ht : eval (.Call (.Attribute o m apos) (e :: es) [] pos) X.env = (do
      let ov ← eval o X.env
      standAt apos.atName
      let (f, first) ← holding [ov] (getMethod ov m pl)
      callWith pos f first (backTo pos (starEach (e :: es) X.env)) (backToKw pos (keywordEach [] X.env))) := by rfl) :
    PE X (.Call (.Attribute o m apos) (e :: es) [] pos) (fMethS C m sp (WE W) ta t) := by
  obtain ⟨f, fd, F, B, M⟩ := h.ex
  refine ⟨fun pins s σ H Q I h => ?_⟩
  refine PySem.W.methodCall_KW (pl := pl) (thn (he.run pins s σ H _ I h) fun u s1 ⟨x, H1, I1, rx, q1, q2⟩ => ?_) ht
  match x, q1, rx, q2 with
  | .ref a, q1, rx, q2 =>
    obtain ⟨dx, fs, ea, l⟩ := isOb_some q1
    · obtain rfl : u = Value.ref a := rx
      refine getmeth_ok I1 ea c M l ?_
      refine PySem.W.callWith_K (first := [.ref a]) (h₀ := X.base) I.ok.mod.kin M.kp (thn (ha.run pos pins s1 σ H1 _ I1 q2) fun us s2 ⟨vs, H2, I2, r, q3⟩ => ⟨I2.kIn, ?_⟩) hst hpl
      exact run_fnS (us := .ref a :: us) (vs := .ref a :: vs) F hr B (passAt tk σ) I2 (.cons rfl r) q3
theorem fe_methX0 {pl : Sem Bool} (h : HasM X.prog X.w X.K X.mg X.base (L2.CX X.prog X.w) C m k ps sp) (c : Cls X.K C) (hr : Room k X.A) (tk : Takes X W) (he : PE X o ta)
    (ht : eval (.Call (.Attribute o m apos) [] [] pos) X.env = (do
      let ov ← eval o X.env
      standAt apos.atName
      let (f, first) ← holding [ov] (getMethod ov m pl)
      callWith pos f first (backTo pos (starEach [] X.env)) (backToKw pos (keywordEach [] X.env))) := by rfl) :
    PE X (.Call (.Attribute o m apos) [] [] pos) (fMethS C m sp (WE W) ta tNil) := by
  obtain ⟨f, fd, F, B, M⟩ := h.ex
  refine ⟨fun pins s σ H Q I h => ?_⟩
  refine PySem.W.methodCall_KW (pl := pl) (thn (he.run pins s σ H _ I h) fun u s1 ⟨x, H1, I1, rx, q1, q2⟩ => ?_) ht
  match x, q1, rx, q2 with
  | .ref a, q1, rx, q2 =>
    obtain ⟨dx, fs, ea, l⟩ := isOb_some q1
    · obtain rfl : u = Value.ref a := rx
      refine getmeth_ok I1 ea c M l ?_
      exact PySem.W.callWith_K0 (first := [.ref a]) I1.kIn M.kp (run_fnS (us := [.ref a]) (vs := [.ref a]) F hr B (passAt tk σ) I1 (.cons rfl .nil) q2)
end
/-! ### exception classes -/
structure ExcFact (K : PySem.W.Frag) (C : Addr) : Prop where
  cls : ∃ nm q N bs bm sn sub ab col dd k0 k1 k2 k3 k5, K.lookup C = some (excClassObj nm q C N bs bm true sn sub ab col dd k0 k1 k2 k3 k5 "ValueError.__new__") ∧ PySem.HandSPX.refsVE bm = true
  sa : PySem.W.findIn K (.ref C) "__setattr__" = some (some (.builtin "object.__setattr__"))
  ga : PySem.W.findIn K (.ref C) "__getattribute__" = some (some (.builtin "BaseException.__getattribute__"))
  gg : PySem.W.findIn K (.ref C) "__getattr__" = some none
  exC : PySem.W.subIn K (.ref C) (.type "BaseException") = some true
  tyC : PySem.W.typeIn K (.ref C) = some (.type "type")
  kC : PySem.W.keepIn K (.ref C) = true
  hdC : PySem.W.hasDictIn K C = true
  ci : PySem.W.findIn K (.ref C) "__class__" = some (some (.builtin "object.__class__"))
  mr : PySem.W.mroIn K C (.type "object") = some true
theorem ExcFact.of {K : PySem.W.Frag} {C : Addr} {nm q N bs bm sn sub ab col dd k0 k1 k2 k3 k5} (l : K.lookup C = some (excClassObj nm q C N bs bm true sn sub ab col dd k0 k1 k2 k3 k5 "ValueError.__new__")) (r : PySem.HandSPX.refsVE bm = true)
    (sa : PySem.W.findIn K (.ref C) "__setattr__" = some (some (.builtin "object.__setattr__"))) (ga : PySem.W.findIn K (.ref C) "__getattribute__" = some (some (.builtin "BaseException.__getattribute__"))) (gg : PySem.W.findIn K (.ref C) "__getattr__" = some none)
    (exC : PySem.W.subIn K (.ref C) (.type "BaseException") = some true) (tyC : PySem.W.typeIn K (.ref C) = some (.type "type")) (kC : PySem.W.keepIn K (.ref C) = true) (hdC : PySem.W.hasDictIn K C = true)
    (ci : PySem.W.findIn K (.ref C) "__class__" = some (some (.builtin "object.__class__"))) (mr : PySem.W.mroIn K C (.type "object") = some true) : ExcFact K C :=
  ⟨⟨nm, q, N, bs, bm, sn, sub, ab, col, dd, k0, k1, k2, k3, k5, l, r⟩, sa, ga, gg, exC, tyC, kC, hdC, ci, mr⟩
theorem ExcFact.oex {K : PySem.W.Frag} {C : Addr} (F : ExcFact K C) : OexC K C := ⟨F.cls, F.sa, F.exC, F.tyC, F.kC⟩
theorem ExcFact.xf {K : PySem.W.Frag} {C : Addr} (F : ExcFact K C) : XfC K C := ⟨F.ga, F.gg, F.exC, F.hdC⟩
/-- __init__ of an exception class as it stands -/
structure AtE (K : PySem.W.Frag) (C : Addr) (qual : Str) (st : Stmt) (ps : List Str) : Prop where
  ex : ∃ (f : Addr) (fd : FuncData), Fun K "__init__" qual st f fd ∧ Binds K fd ps [] ∧ PySem.W.findIn K (.ref C) "__init__" = some (some (.ref f)) ∧ PySem.W.typeIn K (.ref f) = some (.type "function")
structure EFact (K : PySem.W.Frag) (C : Addr) (qual : Str) (st : Stmt) : Prop where
  ex : ∃ (f : Addr) (oc : Value) (od an : Option Addr) (sl : Array (Option Value)) (kV dc pm cd ct : Value),
    PySem.W.findIn K (.ref C) "__init__" = some (some (.ref f)) ∧ K.lookup f = some ⟨oc, od, .func (PySem.W.fnOf "__init__" qual (defArgs st) (defBody st) (defScope st) .none kV dc pm an cd ct), sl⟩ ∧
    PySem.W.codeIn K cd qual = true ∧ PySem.W.keepIn K (.ref f) = true ∧ PySem.W.typeIn K (.ref f) = some (.type "function")
theorem EFact.of {K : PySem.W.Frag} {C : Addr} {qual : Str} {st : Stmt} {f : Addr} {oc : Value} {od an : Option Addr} {sl : Array (Option Value)} {kV dc pm cd ct : Value}
    (a : PySem.W.findIn K (.ref C) "__init__" = some (some (.ref f))) (l : K.lookup f = some ⟨oc, od, .func (PySem.W.fnOf "__init__" qual (defArgs st) (defBody st) (defScope st) .none kV dc pm an cd ct), sl⟩)
    (c : PySem.W.codeIn K cd qual = true) (k : PySem.W.keepIn K (.ref f) = true) (i : PySem.W.typeIn K (.ref f) = some (.type "function")) : EFact K C qual st := ⟨f, oc, od, an, sl, kV, dc, pm, cd, ct, a, l, c, k, i⟩
theorem AtE.of {K : PySem.W.Frag} {C : Addr} {qual : Str} {st : Stmt} {ps : List Str} (F : EFact K C qual st)
    (hb : ∀ (kV doc pm : Value) (an : Option Addr) (cdv ct : Value) (us : List Value), us.length = ps.length → bindArgs (PySem.W.fnOf "__init__" qual (defArgs st) (defBody st) (defScope st) .none kV doc pm an cdv ct) ⟨us, []⟩ = pure (ps.zip us)) : AtE K C qual st ps := by
  obtain ⟨f, oc, od, an, sl, kV, dc, pm, cd, ct, a, l, c, k, i⟩ := F.ex
  have F1 := fun_mk (st := st) l c k
  exact ⟨_, _, F1, F1.binds hb, a, i⟩
/-- what __init__ keeps: two fields -/
def spInitE (C : Addr) (n : Nat) (flds : List V → List (Str × V)) : Sp := fun ws H0 Q _ => ∃ a vs H1, ws = .ref a :: vs ∧ vs.length = n ∧ H1 a = none ∧ H0 = upd H1 a (exo a C none) ∧
  ∀ d H2, H1 d = none → d ≠ a → (∀ b o, H1 b = some o → H2 b = some o) → H2 a = some (exo a C (some d)) → H2 d = some (exd d (flds vs)) → Q .non H2
/-- an exception class whose __init__ keeps its fields -/
structure HasE (P : Program) (w : World) (K : PySem.W.Frag) (mg : Str → Option Value) (base : Heap) (C : Addr) (x : Str) (n : Nat) (flds : List V → List (Str × V)) : Prop where
  ex : ∃ (f : Addr) (fd : FuncData) (ps : List Str), FnOk P w K mg base CX0 1 f fd ps (spInitE C n flds) ∧ Binds K fd ps [] ∧ PySem.W.findIn K (.ref C) "__init__" = some (some (.ref f)) ∧ PySem.W.typeIn K (.ref f) = some (.type "function") ∧ mg x = some (.ref C) ∧ OexC K C
def two (f1 f2 : Str) : List V → List (Str × V)
  | [a, b] => [(f2, b), (f1, a)]
  | _ => []
theorem hasE2 {P : Program} {w : World} {K : PySem.W.Frag} {mg : Str → Option Value} {base : Heap} {C : Addr} {x qual f1 f2 : Str} {st : Stmt} {q1 q2 q3 q4 r1 r2 r3 r4 : Pos} (A : AtE K C qual st ["self", f1, f2]) (S : FnScope ["self", f1, f2] ["self", f1, f2] (defScope st))
    (hb : defBody st = [.Assign [.Attribute (.Name "self" q1) f1 q2] (.Name f1 q3) q4, .Assign [.Attribute (.Name "self" r1) f2 r2] (.Name f2 r3) r4])
    (F : ExcFact K C) (n1 : PySem.W.findIn K (.ref C) f1 = some none) (n2 : PySem.W.findIn K (.ref C) f2 = some none) (g : mg x = some (.ref C)) (d1 : (f1 == ("__debug__" : Str)) = false) (d2 : (f2 == ("__debug__" : Str)) = false)
    (c1 : (f1 == ("__classdict__" : Str)) = false) (c2 : (f2 == ("__classdict__" : Str)) = false) : HasE P w K mg base C x 2 (two f1 f2) := by
  obtain ⟨f, fd, Fn, B, I, Ty⟩ := A.ex
  refine ⟨f, fd, _, ?_, B, I, Ty, g, F.oex⟩
  refine Fn.ok S (fun ws H Q E h => ?_) (fun cdv A outer s H ws Q E hr h => ?_)
  · obtain ⟨a, vs, H1, rfl, hl, _⟩ := h
    show vs.length + 1 = 3
    rw [hl]
  · obtain ⟨a, vs, H1, rfl, hl, na, rfl, k⟩ := h
    match vs, hl, k with
    | [v1, v2], hl, k =>
      have v0 : Vis (defScope st) "self" := (S.par "self" (List.Mem.head _)).elim (fun z => .inl z) (fun z => .inr (.inl z))
      have vis1 : Vis (defScope st) f1 := (S.par f1 (List.Mem.tail _ (List.Mem.head _))).elim (fun z => .inl z) (fun z => .inr (.inl z))
      have vis2 : Vis (defScope st) f2 := (S.par f2 (List.Mem.tail _ (List.Mem.tail _ (List.Mem.head _)))).elim (fun z => .inl z) (fun z => .inr (.inl z))
      rw [hb]
      refine ⟨_, pss_cons (ps_ost (fe_var 0 rfl v0) (fe_var 1 rfl vis1 d1 c1)) (pss_one (ps_ost (fe_var 0 rfl v0) (fe_var 2 rfl vis2 d2 c2))), ?_⟩
      refine ⟨a, C, rfl, F.oex, n1, .inl ⟨upd_same, fun dx ndx nea => ?_⟩⟩
      have hdx : H1 dx = none := by rw [upd_ne nea] at ndx; exact ndx
      refine ⟨a, C, rfl, F.oex, n2, .inr ⟨dx, [(f1, v1)], upd_same, (upd_ne nea).trans upd_same, (show 1 ≤ 900 by decide), ?_⟩⟩
      refine k dx _ hdx nea (fun b o e => ?_) ?_ upd_same
      · rw [upd_ne (ne_of_none e hdx), upd_ne (ne_of_none e na), upd_ne (ne_of_none e hdx), upd_ne (ne_of_none e na)]
        exact e
      · rw [upd_ne (Ne.symm nea)]
        exact upd_same
/-- C(e, ..) -/
def fMkE (C : Addr) (n : Nat) (flds : List V → List (Str × V)) (ta : TA) : L2.St → Hp → XK → Prop := fun σ H Q => ta σ H fun vs H1 => vs.length = n ∧ ∀ d H2, H1 d = none → Same H1 H2 → H2 d = some (.xd (flds vs)) → Q (.ref C) (some d) H2
section
variable {X : Cx} {C : Addr} {x : Str} {n : Nat} {flds : List V → List (Str × V)} {p pos : Pos} {e : Expr} {es : List Expr} {ta : TA}
def closAX (t : TA) : TA := closA t
theorem fmk_e (h : HasE X.prog X.w X.K X.mg X.base C x n flds) (hn : n ≤ 1000) (hr : Room 2 X.A) (hg : Gl X x) (ha : PA X (e :: es) ta) (hdb : (x == ("__debug__" : Str)) = false := by decide)
    (he : starEach (e :: es) X.env = (false, eval e X.env) :: starEach es X.env := by rfl) (hpl : (backTo pos (starEach es X.env)).any (·.1) = false := by rfl) : PMk X (.Call (.Name x p) (e :: es) [] pos) (fMkE C n flds ta) := by
  obtain ⟨f, fd, ps, F, B, I, Ty, g, O⟩ := h.ex
  intro pins s σ H Q Iv q
  refine pmk_oex O I Ty F hr B .nil (fun _ _ _ _ _ _ _ h => h.elim) hg g (pa_clos ha) hdb he hpl pins s σ H Q Iv ⟨_, q, fun vs H1 q => ?_⟩
  obtain ⟨hl, q⟩ := q
  refine ⟨by omega, fun a na => ⟨a, vs, H1, by rw [List.append_nil], hl, na, rfl, fun d H2 nd ne keep ea ed => ⟨rfl, d, flds vs, ea, ed, nd, q d _ nd (fun b o eb => ?_) upd_same⟩⟩⟩
  rw [upd_ne (ne_of_none eb nd), del_ne (ne_of_none eb na)]
  exact keep b o eb
/-- raise C(e, ..) -/
def fRaise (C : Addr) (n : Nat) (flds : List V → List (Str × V)) (W : WX) (ta : TA) : TS := fun _ σ H => ta σ H fun vs H1 => vs.length = n ∧ ∀ d H2, H1 d = none → Same H1 H2 → H2 d = some (.xd (flds vs)) → W (.ref C) (some d) σ H2
theorem fs_raise {W : WX} {pos2 : Pos} (hc : X.calm = true) (tk : Takes X W) (h : HasE X.prog X.w X.K X.mg X.base C x n flds) (hn : n ≤ 1000) (hr : Room 2 X.A) (hg : Gl X x) (ha : PA X (e :: es) ta) (hdb : (x == ("__debug__" : Str)) = false := by decide)
    (he : starEach (e :: es) X.env = (false, eval e X.env) :: starEach es X.env := by rfl) (hpl : (backTo pos (starEach es X.env)).any (·.1) = false := by rfl) : PS X (.Raise (some (.Call (.Name x p) (e :: es) [] pos)) none pos2) (fRaise C n flds W ta) :=
  ps_raise hc tk (fmk_e h hn hr hg ha hdb he hpl)
end
/-- the way out of a def: an exception of class C with two fields -/
def Out (C : Addr) (H : Hp) (fs : List (Str × V)) (E : XK) : Prop := ∀ d H2, H d = none → Same H H2 → H2 d = some (.xd fs) → E (.ref C) (some d) H2
theorem Out.same {C : Addr} {H H1 : Hp} {fs : List (Str × V)} {E : XK} (h : Out C H fs E) (s : Same H H1) : Out C H1 fs E := fun d H2 nd s2 e => h d H2 (by
  cases q : H d with
  | none => rfl
  | some o => rw [s _ _ q] at nd; cases nd) (s.trans s2) e
/-! ### the suite -/
/-- e.f, e the caught one -/
def fXf (a : Addr) (cls : Value) (d : Option Addr) (cs : List Addr) (f : Str) (te : TE) : TE := fun σ H Q => te σ H fun x H1 => x = .ref a ∧ match cls, d with
  | .ref C, some dd => C ∈ cs ∧ match H1 dd with
    | some (.xd fs) => match fs.lookup f with
      | some v => Q v H1
      | none => False
    | _ => False
  | _, _ => False
def XPlain (K : PySem.W.Frag) (cs : List Addr) (f : Str) : Prop := ∀ C ∈ cs, XfC K C ∧ PySem.W.findIn K (.ref C) f = some none
theorem fe_xf {X : Cx} {a : Addr} {cs : List Addr} {oe : Obj} {cls : Value} {d : Option Addr} {pn : List (Addr × Obj)} {e : Expr} {te : TE} {pos : Pos} {n : Str} (T : XPlain X.K cs n)
    (hz : Zc cls d oe) (hf : ∃ vs, oe.data = .fields vs) (he : PE (X.suite a ((a, oe) :: pn)) e te) (hb : attributeBase e n X.env (eval e X.env) = eval e X.env) :
    PE (X.suite a ((a, oe) :: pn)) (.Attribute e n pos) (fXf a cls d cs n te) := by
  refine ⟨fun pins s σ H Q I h => ?_⟩
  refine attr_of hb (thn (he.run pins s σ H _ I h) fun u s1 hh => ?_)
  obtain ⟨x, H1, I1, rx, ex, q⟩ := hh
  subst ex
  obtain rfl : u = Value.ref a := rx
  split at q
  · rename_i C dd
    obtain ⟨m, q⟩ := q
    split at q
    · rename_i fs ea
      split at q
      · rename_i v l
        obtain ⟨ha, _⟩ := I1.pin (a, oe) (List.mem_append_left _ List.mem_cons_self)
        obtain ⟨vs, hd⟩ := hf
        have hx : ObjOk X.prog X.w H1 s1.heap dd (.xd fs) := I1.hok dd _ ea
        obtain ⟨mA, hns, hr⟩ := hx
        obtain ⟨od, ho, hl⟩ := lookIn_ns hns
        obtain ⟨u, hu, ru⟩ := RelO.some_of (v := v) (o := mA n) (by rw [← l]; exact hr n)
        have J : PySem.W.InstAt s1.heap a oe C (some od) := ⟨ha, hz.1, by unfold PySem.W.notCls; rw [hd] <;> rfl, by rw [hz.2]; exact ho⟩
        exact HandSPX.exc_get I1.kIn J (T C m).1.ga (T C m).1.gg (T C m).1.exC (PySem.W.findObj_own (T C m).1.hdC (T C m).2 rfl (by rw [hl, hu])) (handed_of ru) ⟨v, H1, I1.tok _, ru, q⟩
      · exact q.elim
    · exact q.elim
  · exact q.elim
/-- isinstance(e, C), e the caught one -/
structure XKit (K : PySem.W.Frag) (cs ds : List Addr) : Prop where
  f : ∀ C ∈ cs, ExcFact K C
  ob : ObjFact K
  k : ∀ C ∈ cs, ∀ D ∈ ds, ∃ b, PySem.W.kitOne K (.ref C) (.ref D) = some b
def fIsE (K : PySem.W.Frag) (a : Addr) (cls : Value) (d : Option Addr) (cs : List Addr) : List V → Hp → VK → Prop := fun xs H Q => match xs with
  | [x, .ref D] => x = .ref a ∧ (match cls with | .ref C => C ∈ cs | _ => False) ∧ (match d with | none => True | some dd => match H dd with | some (.xd _) => True | _ => False) ∧ ∃ b, PySem.W.kitOne K cls (.ref D) = some b ∧ Q (.bl b) H
  | _ => False
theorem call_fIsE {X : Cx} {a : Addr} {cls : Value} {d : Option Addr} {cs : List Addr} {oe : Obj} {pn : List (Addr × Obj)} (F : ∀ C ∈ cs, ExcFact X.K C) (ob : ObjFact X.K) (hz : Zc cls d oe) (hf : ∃ vs, oe.data = .fields vs) :
    CallR (X.suite a ((a, oe) :: pn)) (.builtin "isinstance") (fIsE X.K a cls d cs) := by
  intro pins s σ H xs us Q I r h
  match xs, r, h with
  | [x, .ref D], r, h =>
    obtain ⟨rfl, hc, hd, b, e, q⟩ := h
    match cls, hc, hz, e with
    | .ref C, hc, hz, e =>
      cases r with
      | cons rx rr =>
        cases rr with
        | cons rt rr =>
          cases rr
          cases rx
          cases rt
          obtain ⟨hget, _⟩ := I.pin (a, oe) (List.mem_append.mpr (.inl List.mem_cons_self))
          obtain ⟨vs, hv⟩ := hf
          have FC := F C hc
          have hcl : (PySem.W.clsIn X.K C).isSome = true := by
            obtain ⟨cd, hcd, _⟩ := PySem.W.any_some FC.hdC
            rw [hcd]; rfl
          have hJ : ∃ od, PySem.W.InstAt s.heap a oe C od := by
            cases d with
            | none =>
              refine ⟨none, hget, hz.1, ?_, ?_⟩
              · unfold PySem.W.notCls; rw [hv] <;> rfl
              · rw [hz.2]; trivial
            | some dd =>
              dsimp only at hd
              split at hd
              · rename_i fs ea
                have hx : ObjOk X.prog X.w H s.heap dd (.xd fs) := I.hok dd _ ea
                obtain ⟨mA, hns, hr⟩ := hx
                obtain ⟨od, ho, hl⟩ := lookIn_ns hns
                exact ⟨some od, hget, hz.1, by unfold PySem.W.notCls; rw [hv] <;> rfl, by rw [hz.2]; exact ho⟩
              · exact hd.elim
          obtain ⟨od, J⟩ := hJ
          exact PySem.W.kia_one (PySem.W.kitx_exc hcl FC.ga FC.gg FC.exC FC.ci ob.gd ob.tk FC.mr) I.kIn J e (fun z => nomatch z) fun tk => ⟨.bl b, H, I.kept (t' := tk) fun _ _ z => z, rfl, q⟩
/-! ### parts that are never reached -/
section
variable {X : Cx}
def fDead : TE := fun _ _ _ => False
def sDead : TS := fun _ _ _ => False
theorem pe_dead {e : Expr} : PE X e fDead := ⟨fun _ _ _ _ _ _ h => h.elim⟩
theorem ps_dead {st : Stmt} : PS X st sDead := ⟨fun _ _ _ _ _ _ h => h.elim⟩
/-! ### truth by value -/
def fTru (K : PySem.W.Frag) (ta : TE) : TT := fun σ H Q => ta σ H fun x H1 => match x with
  | .non => Q false H1
  | .bl b => Q b H1
  | .int i => Q (!decide (i = 0)) H1
  | .str z => z.length ≤ sizeLine ∧ Q (!decide (z.length = 0)) H1
  | .ref p => ∃ xs, Rl K H1 p xs ∧ Q (!xs.isEmpty) H1
  | _ => False
theorem pt_fTru {a : Expr} {ta : TE} (ha : PE X a ta) (he : ∀ whole, isTrue a X.env whole = (do let v ← whole; standAt a.pos; holding [v] (truthy v))) : PT X a (fTru X.K ta) := by
  refine pt_wk (pt_truth (pe_clos ha) he) fun σ H Q q => ⟨_, q, fun x H1 q => ?_⟩
  split at q
  · exact ⟨_, rfl, q⟩
  · exact ⟨_, rfl, q⟩
  · refine ⟨_, rfl, ?_⟩
    rename_i i
    have e : (i != 0) = !decide (i = 0) := by by_cases h : i = 0 <;> simp [h]
    rw [e]; exact q
  · refine ⟨_, ⟨q.1, rfl⟩, ?_⟩
    rename_i z
    have e : ((z.length : Int) != 0) = !decide (z.length = 0) := by by_cases h : z.length = 0 <;> simp [h]
    rw [e]; exact q.2
  · obtain ⟨xs, r, q⟩ := q
    rcases r with r | r
    · exact ⟨_, .inl ⟨xs, r, rfl⟩, q⟩
    · exact ⟨_, .inr (.inl ⟨xs, r, rfl⟩), q⟩
  · exact q.elim
/-! ### f-strings -/
def fFmt (te : TE) : TE := fun σ H Q => te σ H fun x H1 => match x with
  | .str y => y.length ≤ sizeLine ∧ Q (.str y) H1
  | .int i => i.natAbs.log2 < 1920 ∧ Q (.str (toString i)) H1
  | _ => False
theorem fe_fmt {e : Expr} {te : TE} {pos : Pos} (he : PE X e te) : PE X (.FormattedValue e (-1) none pos) (fFmt te) := pe_wk (pe_fmt (pe_clos he)) fun σ H Q q => ⟨_, q, fun x H1 q => by
  split at q
  · exact .inl ⟨_, rfl, q⟩
  · exact .inr ⟨_, rfl, q⟩
  · exact q.elim⟩
inductive PF (X : Cx) : List Expr → List TE → Prop where
  | nil : PF X [] []
  | cons {e : Expr} {t : TE} {es : List Expr} {ts : List TE} (h : PE X e t) (r : PF X es ts) : PF X (e :: es) (t :: ts)
theorem PF_nil : PF X [] [] := .nil
theorem pf_cons {e : Expr} {t : TE} {es : List Expr} {ts : List TE} (h : PE X e t) (r : PF X es ts) : PF X (e :: es) (t :: ts) := .cons h r
def fJs : List TE → Str → L2.St → Hp → (Str → Hp → Prop) → Prop
  | [], acc, _, H, Q => Q acc H
  | t :: ts, acc, σ, H, Q => t σ H fun x H1 => match x with
    | .str y => (acc ++ y).length ≤ sizeLine ∧ fJs ts (acc ++ y) σ H1 Q
    | _ => False
theorem pf_pj {es : List Expr} {ts : List TE} (h : PF X es ts) : PJ X es (ts.map clos) := by
  induction h with
  | nil => exact .nil
  | cons h r ih => exact .cons (pe_clos h) ih
theorem fJs_to : ∀ {ts : List TE} {acc : Str} {σ : L2.St} {H : Hp} {Q : Str → Hp → Prop}, fJs ts acc σ H Q → tJs (ts.map clos) acc σ H Q
  | [], _, _, _, _, h => h
  | t :: ts, acc, σ, H, Q, h => ⟨_, h, fun x H1 q => by
    split at q
    · exact ⟨_, rfl, q.1, fJs_to q.2⟩
    · exact q.elim⟩
def fJoined (ts : List TE) : TE := fun σ H Q => fJs ts Str.empty σ H fun out H1 => Q (.str out) H1
theorem fe_joined {v1 v2 : Expr} {rest : List Expr} {ts : List TE} {pos : Pos} (h : PF X (v1 :: v2 :: rest) ts) : PE X (.JoinedStr (v1 :: v2 :: rest) pos) (fJoined ts) := by
  have h2 := pf_pj h
  exact pe_wk (pe_joined h2) fun σ H Q q => fJs_to q
/-- // by any divisor but 0 -/
def fDivZ : R2 := fun x y H Q => match x, y with
  | .int i, .int j => (j ≠ 0 ∧ j.natAbs.log2 < 9000) ∧ Q (.int (Int.fdiv i j)) H
  | _, _ => False
theorem op_fDivZ : OpR X (binaryOp .FloorDiv) fDivZ := by
  intro pins s σ H x y v u Q I rx ry h
  match x, y, rx, ry, h with
  | .int i, .int j, ⟨t, e⟩, ⟨t', e'⟩, ⟨hc, q⟩ =>
    subst e e'
    exact floordiv_int hc.1 ⟨.int _, H, I.tok _, ⟨_, rfl⟩, q⟩ (.inl (PyProof.noPylong_of_log2 hc.2))
end
theorem WE_wOf {E : XK} {σ : L2.St} : WE (wOf E) σ = E := rfl
/-! ### dicts of the module, text keys -/
def EntOk (K : PySem.W.Frag) (d : Addr) : Str × Option V → Prop
  | (z, none) => PySem.W.nsIn K d z = some none
  | (z, some v) => ∃ u, PySem.W.nsIn K d z = some (some u) ∧ RelV v u
theorem ent_none {K : PySem.W.Frag} {d : Addr} {z : Str} (h : PySem.W.nsIn K d z = some none) : EntOk K d (z, none) := h
theorem ent_str {K : PySem.W.Frag} {d : Addr} {z x : Str} {t : Tok} (h : PySem.W.nsIn K d z = some (some (.str x t))) : EntOk K d (z, some (.str x)) := ⟨_, h, _, rfl⟩
theorem ent_int {K : PySem.W.Frag} {d : Addr} {z : Str} {x : Int} {t : Tok} (h : PySem.W.nsIn K d z = some (some (.int x t))) : EntOk K d (z, some (.int x)) := ⟨_, h, _, rfl⟩
structure DAt (K : PySem.W.Frag) (w : World) (d : Addr) (ks : List (Str × Option V)) : Prop where
  ex : ∃ es n, KDict K w d es n
  en : ∀ p ∈ ks, EntOk K d p
def GDict (K : PySem.W.Frag) (w : World) (mg : Str → Option Value) (x : Str) (ks : List (Str × Option V)) : Prop := ∃ d, mg x = some (.ref d) ∧ DAt K w d ks
structure GDictF (K : PySem.W.Frag) (w : World) (x : Str) (ks : List (Str × Option V)) : Prop where
  ex : ∃ d, PySem.W.nsIn K mainGlobals x = some (some (.ref d)) ∧ DAt K w d ks
theorem GDictF.of {K : PySem.W.Frag} {w : World} {x : Str} {ks : List (Str × Option V)} {d : Addr} {es : Array DictEntry} {n : Nat} (h1 : PySem.W.nsIn K mainGlobals x = some (some (.ref d))) (h2 : K.lookup d = some ⟨.type "dict", none, .dict es n, #[]⟩)
    (h3 : PySem.W.KeysLit w.params es.toList) (h4 : (d == sysModules) = false) (h5 : ∀ p ∈ ks, EntOk K d p) : GDictF K w x ks := ⟨d, h1, ⟨es, n, h2, h3, h4⟩, h5⟩
theorem GDictF.get {K : PySem.W.Frag} {w : World} {mg : Str → Option Value} {x : Str} {ks : List (Str × Option V)} {h : Heap} (X : K.In h) (G : h.Ns mainGlobals mg) (F : GDictF K w x ks) : GDict K w mg x ks := by
  obtain ⟨d, h1, h2⟩ := F.ex
  exact ⟨d, PySem.W.mg_of X G h1, h2⟩
theorem ent_at {K : PySem.W.Frag} {w : World} {d : Addr} {z : Str} {o : Option V} : ∀ {ks : List (Str × Option V)}, (∀ p ∈ ks, EntOk K d p) → ks.lookup z = some o → EntOk K d (z, o)
  | [], _, h => by cases h
  | (y, p) :: ks, hk, h => by
    rw [List.lookup_cons] at h
    split at h
    · rename_i e
      cases h
      have e' := eq_of_beq e
      subst e'
      exact hk _ (List.mem_cons_self ..)
    · exact ent_at (w := w) (fun q hq => hk q (List.mem_cons_of_mem _ hq)) h
def fGd_ (K : PySem.W.Frag) (w : World) (ks : List (Str × Option V)) : TE := fun _ H Q => ∀ d, DAt K w d ks → Q (.ref d) H
section
variable {X : Cx}
theorem fe_gdict {x : Str} {pos : Pos} {ks : List (Str × Option V)} (hg : Gl X x) (h : GDict X.K X.w X.mg x ks) (hd : (x == ("__debug__" : Str)) = false := by decide) : PE X (.Name x pos) (fGd_ X.K X.w ks) := by
  obtain ⟨d, h, hs⟩ := h
  exact pe_wk (pe_glob hg h (v := .ref d) rfl hd) fun σ H Q q => q d hs
/-- z in D, D a dict of the module -/
def fInD (K : PySem.W.Frag) (w : World) (neg : Bool) : R2 := fun x y H Q => match x, y with
  | .str z, .ref d => ∃ ks o, DAt K w d ks ∧ ks.lookup z = some o ∧ Q (.bl (if neg = true then !o.isSome else o.isSome)) H
  | _, _ => False
theorem op_fInD : OpR X (compareOp .In) (fInD X.K X.w false) := by
  intro pins s σ H x y v u Q I rx ry h
  match x, y, rx, ry, h with
  | .str z, .ref d, rx, ry, ⟨ks, o, D, e, q⟩ =>
    obtain ⟨es, n, kd⟩ := D.ex
    have en := ent_at (w := X.w) D.en e
    cases o with
    | none => exact op_in_kd kd pins s σ H _ _ v u Q I rx ry ⟨z, none, rfl, rfl, en, q⟩
    | some v =>
      obtain ⟨u0, e0, _⟩ := en
      exact op_in_kd kd pins s σ H _ _ _ u Q I rx ry ⟨z, some u0, rfl, rfl, e0, q⟩
theorem op_fNotInD : OpR X (compareOp .NotIn) (fInD X.K X.w true) := by
  intro pins s σ H x y v u Q I rx ry h
  match x, y, rx, ry, h with
  | .str z, .ref d, rx, ry, ⟨ks, o, D, e, q⟩ =>
    obtain ⟨es, n, kd⟩ := D.ex
    have en := ent_at (w := X.w) D.en e
    cases o with
    | none => exact op_notIn_kd kd pins s σ H _ _ v u Q I rx ry ⟨z, none, rfl, rfl, en, q⟩
    | some v =>
      obtain ⟨u0, e0, _⟩ := en
      exact op_notIn_kd kd pins s σ H _ _ _ u Q I rx ry ⟨z, some u0, rfl, rfl, e0, q⟩
/-- D[z], D a dict of the module -/
def fIxD (K : PySem.W.Frag) (w : World) : R2 := fun x y H Q => match x, y with
  | .ref d, .str z => ∃ ks v, DAt K w d ks ∧ ks.lookup z = some (some v) ∧ Q v H
  | _, _ => False
theorem ix_fxD : IxR X (fIxD X.K X.w) := by
  intro e1 e2 pins s σ H x y v u Q I rx ry h hs
  match x, y, rx, ry, h with
  | .ref d, .str z, rx, ry, ⟨ks, r, D, e, q⟩ =>
    obtain ⟨es, n, kd⟩ := D.ex
    obtain ⟨u0, e0, r0⟩ := ent_at (w := X.w) D.en e
    exact ix_kdict e1 e2 pins s σ H (.ref d) (.str z) v u Q I rx ry ⟨d, z, r, rfl, rfl, ⟨es, n, u0, kd.at_, kd.lit, e0, r0⟩, q⟩ hs
end
/-! ### scalars as data -/
def dV : V → PyData
  | .non => .none
  | .bl b => .bool b
  | .int i => .int i
  | .str z => .str z
  | _ => .none
def scV : V → Bool
  | .non => true
  | .bl _ => true
  | .int _ => true
  | .str _ => true
  | _ => false
theorem dpAll_sc {K : PySem.W.Frag} {H : Hp} : ∀ {xs : List V}, xs.all scV = true → DpAll K H xs (xs.map dV)
  | [], _ => .nil
  | x :: xs, h => by
    rw [List.all_cons, Bool.and_eq_true] at h
    refine .cons ?_ (dpAll_sc h.2)
    obtain ⟨h1, _⟩ := h
    cases x <;> first
      | exact .non
      | exact .bl _
      | exact .int _
      | exact .str _
      | (exact absurd h1 (by decide))
      | (cases h1)
theorem all_okd {xs : List V} (h : xs.all scV = true) : PyData.plainAll (xs.map dV) = true ∧ PyData.depthAll (xs.map dV) = 0 := by
  induction xs with
  | nil => exact ⟨rfl, rfl⟩
  | cons x xs ih =>
    rw [List.all_cons, Bool.and_eq_true] at h
    obtain ⟨i1, i2⟩ := ih h.2
    obtain ⟨h1, _⟩ := h
    have : (dV x).plain = true ∧ (dV x).depth = 0 := by cases x <;> first | exact ⟨rfl, rfl⟩ | cases h1
    rw [List.map_cons, PyData.plainAll, PyData.depthAll, this.1, this.2, i1, i2]
    exact ⟨rfl, rfl⟩
theorem tup_okd {xs : List V} (h : xs.all scV = true) : okd (.tuple (xs.map dV)) = true := by
  obtain ⟨h1, h2⟩ := all_okd h
  unfold okd
  rw [Bool.and_eq_true]
  exact ⟨by rw [PyData.plain]; exact h1, decide_eq_true (by rw [PyData.depth, h2]; decide)⟩
theorem lst_okd {xs : List V} (h : xs.all scV = true) : okd (.list (xs.map dV)) = true := by
  obtain ⟨h1, h2⟩ := all_okd h
  unfold okd
  rw [Bool.and_eq_true]
  exact ⟨by rw [PyData.plain]; exact h1, decide_eq_true (by rw [PyData.depth, h2]; decide)⟩
theorem tup_eqv {xs : List V} (h : xs.all scV = true) : PyData.eqv (.tuple (xs.map dV)) (.tuple (xs.map dV)) = true := SeqAt.eqv_refl_plain _ (by rw [PyData.plain]; exact (all_okd h).1)
theorem lst_eqv {xs : List V} (h : xs.all scV = true) : PyData.eqv (.list (xs.map dV)) (.list (xs.map dV)) = true := SeqAt.eqv_refl_plain _ (by rw [PyData.plain]; exact (all_okd h).1)
/-- two tuples of the same scalars are equal -/
theorem tup_same {K : PySem.W.Frag} {H : Hp} {p q : Addr} {xs : List V} (hp : SqT K H p xs) (hq : SqT K H q xs) (h : xs.all scV = true) {R : Bool → Prop} (k : R true) :
    ∃ d, Dp K H (.ref p) d ∧ ∃ e, Dp K H (.ref q) e ∧ okd d = true ∧ okd e = true ∧ R (PyData.eqv d e) :=
  ⟨_, .tup hp (dpAll_sc h), _, .tup hq (dpAll_sc h), tup_okd h, tup_okd h, by rw [tup_eqv h]; exact k⟩
theorem lst_same {K : PySem.W.Frag} {H : Hp} {p q : Addr} {xs : List V} (hp : SqL K H p xs) (hq : SqL K H q xs) (h : xs.all scV = true) {R : Bool → Prop} (k : R true) :
    ∃ d, Dp K H (.ref p) d ∧ ∃ e, Dp K H (.ref q) e ∧ okd d = true ∧ okd e = true ∧ R (PyData.eqv d e) :=
  ⟨_, .lst hp (dpAll_sc h), _, .lst hq (dpAll_sc h), lst_okd h, lst_okd h, by rw [lst_eqv h]; exact k⟩
end Fx

set_option Elab.async false
set_option linter.all false
set_option maxRecDepth 100000
/-! Tb: dicts whose keys are tuples of scalars (None and truth values among them), over Ex. -/
namespace Fx
open PySem PySem.Spec PyProof.Rows L2
def leafK : V → NestedKey
  | .bl b => .num (if b = true then 1 else 0)
  | .int i => .num i
  | .str z => .text z
  | _ => .none
/-- a tuple of scalars as a key -/
def tupK (xs : List V) : NestedKey := .tup (xs.map leafK)
abbrev NEnt := NestedKey × Addr × V
abbrev PU : List NEnt → List (NestedKey × Addr × Value) → Prop := Paired fun e u => e.1 = u.1 ∧ e.2.1 = u.2.1 ∧ RelV e.2.2 u.2.2
def atN (es : List NEnt) (k : NestedKey) : Option V := (es.find? fun e => decide (e.1 = k)).map (·.2.2)
def putN (es : List NEnt) (k : NestedKey) (a : Addr) (v : V) : List NEnt := if (atN es k).isSome = true then es.map (fun e => if e.1 = k then (e.1, e.2.1, v) else e) else es ++ [(k, a, v)]
def dropN (es : List NEnt) (k : NestedKey) : List NEnt := es.filter fun e => decide (e.1 ≠ k)
theorem PU.at {es : List NEnt} {us : List (NestedKey × Addr × Value)} (h : PU es us) (k : NestedKey) : RelO (atN es k) ((atKey us k).map (·.2)) := by
  induction h with
  | nil => exact True.intro
  | @cons p q ps qs h t ih =>
    obtain ⟨h1, h2, h3⟩ := h
    by_cases e : p.1 = k
    · have e' : q.1 = k := h1.symm.trans e
      have a : atN (p :: ps) k = some p.2.2 := by simp [atN, List.find?_cons, e]
      have b : atKey (q :: qs) k = some q.2 := by simp [atKey, List.find?_cons, e']
      rw [a, b]; exact h3
    · have e' : ¬ q.1 = k := fun z => e (h1.trans z)
      have a : atN (p :: ps) k = atN ps k := by simp [atN, List.find?_cons, e]
      have b : atKey (q :: qs) k = atKey qs k := by simp [atKey, List.find?_cons, e']
      rw [a, b]; exact ih
theorem PU.put {es : List NEnt} {us : List (NestedKey × Addr × Value)} (h : PU es us) (k : NestedKey) (a : Addr) {v : V} {u : Value} (rv : RelV v u) : PU (putN es k a v) (storedH us k a u) := by
  have e : (atN es k).isSome = (atKey us k).isSome := by rw [(h.at k).isSome_eq, Option.isSome_map]
  unfold putN storedH
  rw [e]
  by_cases q : (atKey us k).isSome = true
  · rw [if_pos q, if_pos q]
    clear q e
    induction h with
    | nil => exact .nil
    | @cons p q ps qs h t ih =>
      rw [List.map_cons, List.map_cons]
      refine .cons ?_ ih
      obtain ⟨h1, h2, h3⟩ := h
      unfold putAt
      by_cases e : p.1 = k
      · rw [if_pos e, if_pos (h1.symm.trans e)]; exact ⟨h1, h2, rv⟩
      · rw [if_neg e, if_neg (fun z => e (h1.trans z))]; exact ⟨h1, h2, h3⟩
  · rw [if_neg q, if_neg q]
    exact Paired.snoc h ⟨rfl, rfl, rv⟩
theorem PU.drop {es : List NEnt} {us : List (NestedKey × Addr × Value)} (h : PU es us) (k : NestedKey) : PU (dropN es k) (withoutH us k) := by
  unfold dropN withoutH
  induction h with
  | nil => exact .nil
  | @cons p q ps qs h t ih =>
    obtain ⟨h1, h2, h3⟩ := h
    rw [List.filter_cons, List.filter_cons]
    by_cases e : p.1 = k
    · have a : ¬ decide (p.1 ≠ k) = true := by simp [e]
      have b : ¬ decide (q.1 ≠ k) = true := by simp [h1.symm.trans e]
      rw [if_neg a, if_neg b]; exact ih
    · have e' : ¬ q.1 = k := fun z => e (h1.trans z)
      have a : decide (p.1 ≠ k) = true := by simp [e]
      have b : decide (q.1 ≠ k) = true := by simp [e']
      rw [if_pos a, if_pos b]; exact .cons ⟨h1, h2, h3⟩ ih
theorem putN_len (es : List NEnt) (k : NestedKey) (a : Addr) (v : V) : (putN es k a v).length ≤ es.length + 1 := by
  unfold putN
  split
  · rw [List.length_map]; omega
  · rw [List.length_append, List.length_cons, List.length_nil]; omega
/-- such a dict -/
def nkO (w : World) (d : Addr) (es : List NEnt) : HO := .ext fun h => es.length ≤ sizeLine ∧ (d == sysModules) = false ∧ ∃ us, PU es us ∧ ∃ o en ep, h.get? d = some o ∧ o.ExactDict ∧ o.data = .dict en ep ∧
  en.toList = us.map (fun u => (⟨u.1.hash w, .ref u.2.1, u.2.2⟩ : DictEntry)) ∧ (us.map (·.1)).Nodup
theorem nkO_ne_tup {w : World} {d : Addr} {es : List NEnt} {xs : List V} : nkO w d es ≠ .tup xs := fun z => by
  have z' : HO.ext _ = HO.tup xs := z
  cases z'
/-- the key's own tuple -/
def KeyT (H : Hp) (k : NestedKey) (a : Addr) : Prop := ∃ xs, H a = some (.tup xs) ∧ xs.all scV = true ∧ k = tupK xs
structure DN (w : World) (H : Hp) (d : Addr) (es : List NEnt) : Prop where
  rd : Rd H d (nkO w d es)
  ks : ∀ e ∈ es, KeyT H e.1 e.2.1
theorem KeyT.mono {H H' : Hp} {k : NestedKey} {a : Addr} (h : KeyT H k a) (s : ∀ b xs, H b = some (.tup xs) → H' b = some (.tup xs)) : KeyT H' k a := h.imp fun _ ⟨e, r⟩ => ⟨s _ _ e, r⟩
section
variable {P : Program} {w : World} {H : Hp} {h : Heap} {a d : Addr} {es : List NEnt}
theorem nested_leaf {x : V} {u : Value} (r : RelV x u) (hs : scV x = true) : NestedIs h (leafK x) u := by
  cases x <;> first
    | (cases r; exact .none)
    | (cases r; exact .bool rfl)
    | (obtain ⟨t, rfl⟩ := r; exact .int _ t)
    | (obtain ⟨t, rfl⟩ := r; exact .text _ t)
    | cases hs
theorem nested_all : ∀ {xs : List V} {us : List Value}, Vals xs us → xs.all scV = true → NestedAll h (xs.map leafK) us
  | _, _, .nil, _ => .nil
  | _, _, .cons r t, hs => by
    rw [List.all_cons, Bool.and_eq_true] at hs
    exact .cons (nested_leaf r hs.1) (nested_all t hs.2)
theorem leaf_depth (x : V) : (leafK x).depth = 0 := by cases x <;> rfl
theorem leaf_depths : ∀ xs : List V, NestedKey.depthAll (xs.map leafK) = 0
  | [] => rfl
  | x :: xs => by rw [List.map_cons, NestedKey.depthAll, leaf_depth, leaf_depths xs]; rfl
theorem KeyT.is {k : NestedKey} (ok : HOk P w H h) (e : KeyT H k a) : (nestedKind P w).is h k a := by
  obtain ⟨xs, e, hs, rfl⟩ := e
  obtain ⟨_, its, r, o, h1, h2, n, h3⟩ := (show ObjOk P w H h a (.tup xs) from ok a _ e)
  refine ⟨.tup h1 h2 h3 (by simpa using nested_all r hs), ?_⟩
  show NestedKey.depthAll (xs.map leafK) + 1 ≤ 8
  rw [leaf_depths]; decide
theorem DN.of (D : DN w H d es) (ok : HOk P w H h) : es.length ≤ sizeLine ∧ (d == sysModules) = false ∧ ∃ us, PU es us ∧ h.DictOfH (nestedKind P w) d us := by
  have x : ObjOk P w H h d (nkO w d es) := D.rd.ok ok
  obtain ⟨⟨z, hd, us, r, o, en, ep, h1, h2, h3, h4, h5⟩, _⟩ := x
  refine ⟨z, hd, us, r, o, en, ep, h1, h2, h3, h4, ?_, h5⟩
  intro x hx
  have all : ∀ {l : List NEnt} {m : List (NestedKey × Addr × Value)}, PU l m → (∀ e ∈ l, KeyT H e.1 e.2.1) → ∀ x ∈ m, (nestedKind P w).is h x.1 x.2.1 := by
    intro l m q
    induction q with
    | nil => intro _ x hx; exact nomatch hx
    | @cons p q ps qs hq t ih =>
      intro hk x hx
      rcases List.mem_cons.mp hx with e | hx
      · subst e
        have := (hk p (List.mem_cons_self ..)).is ok
        rw [hq.1, hq.2.1] at this
        exact this
      · exact ih (fun e he => hk e (List.mem_cons_of_mem _ he)) x hx
  exact all r D.ks x hx
theorem nkO_ok {us : List (NestedKey × Addr × Value)} (z : es.length ≤ sizeLine) (hd : (d == sysModules) = false) (r : PU es us) (dd : h.DictOfH (nestedKind P w) d us) : ObjOk P w H h d (nkO w d es) := by
  obtain ⟨o, en, ep, h1, h2, h3, h4, _, h5⟩ := dd
  exact ⟨⟨z, hd, us, r, o, en, ep, h1, h2, h3, h4, h5⟩, ⟨o, h1⟩, fun g1 g2 ⟨_, _, us', r', o', en', ep', k1, k2, k3, k4, k5⟩ k => ⟨z, hd, us', r', o', en', ep', k _ k1, k2, k3, k4, k5⟩⟩
end
section
variable {X : Cx} {pins : List (Addr × Obj)} {σ : L2.St} {H : Hp} {s : Shared} {d q : Addr} {es : List NEnt} {xs : List V} {A : Around} {E : Value → Shared → Prop}
theorem room_n (hu : A.units + 64 < cLine) : (nestedKind X.prog X.w).room A.in1 := by
  show A.units + 1 + 8 < cLine
  omega
theorem n_getItem {v : V} {Q : Value → Shared → Prop} (hu : A.units + 64 < cLine) (I : Inv X pins σ H s) (D : DN X.w H d es) (hq : KeyT H (tupK xs) q) (e : atN es (tupK xs) = some v) (h : ∀ w' s', Inv X pins σ H s' → RelV v w' → Q w' s') :
    wpAny (model X.prog X.w) A (getItem (.ref d) (.ref q)) Q E s := by
  obtain ⟨z, hd, us, r, dd⟩ := D.of I.hok
  obtain ⟨w', hw, rw'⟩ := RelO.some_of (v := v) (o := (atKey us (tupK xs)).map (·.2)) (by rw [← e]; exact r.at _)
  obtain ⟨p, hp, hp2⟩ := Option.map_eq_some_iff.mp hw
  refine wpAny_getItem_heap (room_n hu) (hq.is I.hok) dd hp ?_
  rw [hp2]
  exact h w' _ (I.tok _) rw'
theorem n_in {Q : Value → Shared → Prop} (hu : A.units + 64 < cLine) (I : Inv X pins σ H s) (D : DN X.w H d es) (hq : KeyT H (tupK xs) q) (h : ∀ s', Inv X pins σ H s' → Q (.bool (atN es (tupK xs)).isSome) s') :
    wpAny (model X.prog X.w) A (compareOp .In (.ref q) (.ref d)) Q E s := by
  obtain ⟨z, hd, us, r, dd⟩ := D.of I.hok
  refine wpAny_in_heap (room_n hu) (hq.is I.hok) hd dd ?_
  have qq := (r.at (tupK xs)).isSome_eq
  rw [Option.isSome_map] at qq
  rw [← qq]
  exact h _ (I.tok _)
theorem n_setItem {v : V} {u : Value} {Q : Unit → Shared → Prop} (hu : A.units + 64 < cLine) (I : Inv X pins σ H s) (D : DN X.w H d es) (e0 : H d = some (nkO X.w d es)) (hq : KeyT H (tupK xs) q) (hl : es.length < sizeLine) (rv : RelV v u)
    (h : ∀ s', Inv X pins σ (upd H d (nkO X.w d (putN es (tupK xs) q v))) s' → Q () s') : wpAny (model X.prog X.w) A (setItem (.ref d) (.ref q) u) Q E s := by
  obtain ⟨z, hd, us, r, dd⟩ := D.of I.hok
  have hz : us.length ≤ sizeLine := by rw [← Paired.length r]; exact z
  refine wpAny_setItem_heap (hsz := hz) (room_n hu) (hq.is I.hok) dd fun h' dd' hs => h _ ?_
  have he : ∃ q, h'.get? d = some q := let ⟨q, _, _, hq, _⟩ := dd'; ⟨q, hq⟩
  exact d_write I (by rw [e0]; exact True.intro) hs he (nkO_ok (Nat.le_trans (putN_len ..) hl) hd (r.put _ _ rv) dd')
theorem n_delItem {Q : Unit → Shared → Prop} (hu : A.units + 64 < cLine) (I : Inv X pins σ H s) (D : DN X.w H d es) (e0 : H d = some (nkO X.w d es)) (hq : KeyT H (tupK xs) q) (e : (atN es (tupK xs)).isSome = true)
    (h : ∀ s', Inv X pins σ (upd H d (nkO X.w d (dropN es (tupK xs)))) s' → Q () s') : wpAny (model X.prog X.w) A (delItem (.ref d) (.ref q)) Q E s := by
  obtain ⟨z, hd, us, r, dd⟩ := D.of I.hok
  have hz : us.length ≤ sizeLine := by rw [← Paired.length r]; exact z
  have qq := (r.at (tupK xs)).isSome_eq
  rw [Option.isSome_map, e] at qq
  obtain ⟨p, hp⟩ := Option.isSome_iff_exists.mp qq.symm
  refine wpAny_delItem_heap (hsz := hz) (room_n hu) (hq.is I.hok) hd dd hp fun h' dd' hs => h _ ?_
  have he : ∃ q, h'.get? d = some q := let ⟨q, _, _, hq, _⟩ := dd'; ⟨q, hq⟩
  exact d_write I (by rw [e0]; exact True.intro) hs he (nkO_ok (Nat.le_trans (List.length_filter_le _ _) z) hd (r.drop _) dd')
end
/-! ### readings and rules -/
def isKey (H : Hp) (q : Addr) (xs : List V) : Prop := H q = some (.tup xs) ∧ xs.all scV = true
theorem isKey.t {H : Hp} {q : Addr} {xs : List V} (h : isKey H q xs) : KeyT H (tupK xs) q := ⟨xs, h.1, h.2, rfl⟩
def fGetN (w : World) (td ty : TE) : TE := fun σ H Q => td σ H fun x H1 => ty σ H1 fun y H2 => match x, y with
  | .ref d, .ref q => ∃ es xs v, DN w H2 d es ∧ isKey H2 q xs ∧ atN es (tupK xs) = some v ∧ Q v H2
  | _, _ => False
def fInN (w : World) (ty td : TE) : TE := fun σ H Q => ty σ H fun y H1 => td σ H1 fun x H2 => match x, y with
  | .ref d, .ref q => ∃ es xs, DN w H2 d es ∧ isKey H2 q xs ∧ Q (.bl (atN es (tupK xs)).isSome) H2
  | _, _ => False
def sPutN (w : World) (td ty tv : TE) : TS := fun D σ H => tv σ H fun v H1 => td σ H1 fun x H2 => ty σ H2 fun y H3 => match x, y with
  | .ref d, .ref q => ∃ es xs, DN w H3 d es ∧ H3 d = some (nkO w d es) ∧ isKey H3 q xs ∧ es.length < sizeLine ∧ D.nx σ (upd H3 d (nkO w d (putN es (tupK xs) q v)))
  | _, _ => False
def sDelN (w : World) (td ty : TE) : TS := fun D σ H => td σ H fun x H1 => ty σ H1 fun y H2 => match x, y with
  | .ref d, .ref q => ∃ es xs, DN w H2 d es ∧ H2 d = some (nkO w d es) ∧ isKey H2 q xs ∧ (atN es (tupK xs)).isSome = true ∧ D.nx σ (upd H2 d (nkO w d (dropN es (tupK xs))))
  | _, _ => False
def fNewN (w : World) : TE := fun _ H Q => ∀ p H2, H p = none → Same H H2 → H2 p = some (nkO w p []) → Q (.ref p) H2
def fLenN (w : World) : List V → Hp → VK → Prop := fun xs H Q => match xs with
  | [.ref d] => ∃ es, DN w H d es ∧ Q (.int es.length) H
  | _ => False
section
variable {X : Cx} {o i e value : Expr} {pos pos' tpos : Pos} {td ty tv : TE}
theorem pe_getN {w : World} (hw : X.w = w) (hu : X.A.units + 64 < cLine) (ho : PE X o td) (hi : PE X i ty) (hs : NoSl i) : PE X (.Subscript o i pos) (fGetN w td ty) := by
  subst hw
  refine ⟨fun pins s σ H Q I h => ?_⟩
  refine subD_of PySem.F.slot_dict_getitem.lookup hs (thn (ho.run pins s σ H _ I h) fun u s1 ⟨x, H1, I1, rx, q1⟩ => thn (hi.run pins s1 σ H1 _ I1 q1) fun iv s2 ⟨y, H2, I2, ry, q2⟩ => ?_)
  match x, y, rx, ry, q2 with
  | .ref d, .ref q, rx, ry, ⟨es, xs, v, D, kq, ev, q2⟩ =>
    obtain rfl : u = Value.ref d := rx
    obtain rfl : iv = Value.ref q := ry
    obtain ⟨_, _, us, _, dd⟩ := D.of I2.hok
    exact ⟨dd.typeIs, n_getItem hu I2 D kq.t ev fun w' s3 I3 rw' => ⟨v, H2, I3, rw', q2⟩⟩
theorem pc_inN {w : World} (hw : X.w = w) (hu : X.A.units + 64 < cLine) (hi : PE X i ty) (ho : PE X o td) : PC X .In i o (fInN w ty td) := by
  subst hw
  refine ⟨fun pins s σ H Q I h => ?_⟩
  refine thn (hi.run pins s σ H _ I h) fun iv s1 ⟨y, H1, I1, ry, q1⟩ => thn (ho.run pins s1 σ H1 _ I1 q1) fun u s2 ⟨x, H2, I2, rx, q2⟩ => ?_
  match x, y, rx, ry, q2 with
  | .ref d, .ref q, rx, ry, ⟨es, xs, D, kq, q2⟩ =>
    obtain rfl : u = Value.ref d := rx
    obtain rfl : iv = Value.ref q := ry
    exact n_in hu I2 D kq.t fun s3 I3 => ⟨.bl _, H2, I3, rfl, q2⟩
theorem ps_putN {w : World} (hw : X.w = w) (hu : X.A.units + 64 < cLine) (ho : PE X o td) (hi : PE X i ty) (hv : PE X value tv) (hs : swapsWith value (some (.Subscript o i pos')) pos.line X.env = pure false) :
    PS X (.Assign [.Subscript o i pos'] value pos) (sPutN w td ty tv) := by
  subst hw
  refine ⟨fun pins s σ H D I h => ?_⟩
  refine wpAny_Assign_Subscript (thn (hv.run pins s σ H _ I h) fun r s1 ⟨v, H1, I1, rv, q1⟩ => thn (ho.run pins s1 σ H1 _ I1 q1) fun u s2 ⟨x, H2, I2, rx, q2⟩ => thn (hi.run pins s2 σ H2 _ I2 q2) fun iv s3 ⟨y, H3, I3, ry, q3⟩ => ?_) hs
  match x, y, rx, ry, q3 with
  | .ref d, .ref q, rx, ry, ⟨es, xs, Dn, e0, kq, hl, q3⟩ =>
    obtain rfl : u = Value.ref d := rx
    obtain rfl : iv = Value.ref q := ry
    exact n_setItem hu I3 Dn e0 kq.t hl rv fun s4 I4 => ⟨σ, _, I4, q3⟩
theorem ps_delN {w : World} (hw : X.w = w) (hu : X.A.units + 64 < cLine) (ho : PE X o td) (hi : PE X i ty) : PS X (.Delete [.Subscript o i tpos] pos) (sDelN w td ty) := by
  subst hw
  refine ⟨fun pins s σ H D I h => ?_⟩
  refine wpAny_Delete (wpAny_deleteEach_cons (wpAny_delete_Subscript (thn (ho.run pins s σ H _ I h) fun u s1 ⟨x, H1, I1, rx, q1⟩ => thn (hi.run pins s1 σ H1 _ I1 q1) fun iv s2 ⟨y, H2, I2, ry, q2⟩ => ?_)))
  match x, y, rx, ry, q2 with
  | .ref d, .ref q, rx, ry, ⟨es, xs, Dn, e0, kq, l, q2⟩ =>
    obtain rfl : u = Value.ref d := rx
    obtain rfl : iv = Value.ref q := ry
    exact n_delItem hu I2 Dn e0 kq.t l fun s3 I3 => wpAny_deleteEach_nil ⟨σ, _, I3, q2⟩
theorem pe_newN {w : World} (hw : X.w = w) : PE X (.Dict [] [] pos) (fNewN w) := by
  subst hw
  refine ⟨fun pins s σ H Q I h => ?_⟩
  refine wpAny_Dict_empty ?_
  have hf : H s.heap.objs.size = none := I.hok.fresh (Nat.le_refl _)
  refine ⟨.ref s.heap.objs.size, upd H s.heap.objs.size (nkO X.w s.heap.objs.size []), I.laid (t' := s.toks) (fun b u e => Heap.get?_push_of_some _ e) (Nat.le_refl _) ?_, rfl, h _ _ hf (same_new hf) upd_same⟩
  exact nkO_ok (us := []) (Nat.zero_le _) (beq_eq_false_iff_ne.mpr (Ne.symm (Nat.ne_of_lt I.big))) .nil (Heap.DictOfH.new _)
theorem call_fLenN {w : World} (hw : X.w = w) : CallR X (.builtin "len") (fLenN w) := by
  subst hw
  intro pins s σ H xs us Q I r h
  match xs, r, h with
  | [.ref d], r, ⟨es, D, q⟩ =>
    obtain ⟨u, rfl, rx⟩ := vals1 r
    obtain rfl : u = .ref d := rx
    obtain ⟨z, hd, ys, rel, dd⟩ := D.of I.hok
    have hl : es.length = ys.length := Paired.length rel
    refine call_len_dictH hd dd (by rw [← hl]; rw [sizeLine_eq] at z; omega) ?_
    rw [← hl]
    exact ⟨.int ((es.length : Nat) : Int), H, I.tok _, ⟨_, rfl⟩, q⟩
end
/-! ### its keys, walked (the dict locked) -/
def Itn (w : World) (d : Addr) (o : Obj) (es : List NEnt) : It :=
  ⟨fun i H => H d = some (.frz o (nkO w d es)) ∧ i < es.length, fun i H x H' => H' = H ∧ ∃ e, es[i]? = some e ∧ x = .ref e.2.1, fun i H => H d = some (.frz o (nkO w d es)) ∧ es.length ≤ i⟩
theorem Inv.frzN {X : Cx} {pins : List (Addr × Obj)} {σ : L2.St} {H : Hp} {s : Shared} {d : Addr} {o : Obj} {es : List NEnt} (I : Inv X pins σ H s) (h : H d = some (.frz o (nkO X.w d es))) :
    (d == sysModules) = false ∧ s.heap.get? d = some o ∧ o.ExactDict ∧ ∃ (en : Array DictEntry) (ep : Nat), o.data = .dict en ep ∧ en.size = es.length ∧
      ∀ (i : Nat) (e : NEnt), es[i]? = some e → ∃ (x : DictEntry), en[i]? = some x ∧ x.key = .ref e.2.1 := by
  obtain ⟨hd, ⟨z, hs, us, r, o', en, ep, ho, hx, hdt, he, _⟩, _⟩ := I.hok d _ h
  rw [hd] at ho
  cases ho
  refine ⟨hs, hd, hx, en, ep, hdt, ?_, fun i e hi => ?_⟩
  · have l1 : en.toList.length = us.length := by rw [he, List.length_map]
    have l2 : es.length = us.length := Paired.length r
    rw [Array.length_toList] at l1
    omega
  · obtain ⟨b, hb, e1, e2, _⟩ := paired_get r hi
    refine ⟨⟨b.1.hash X.w, .ref b.2.1, b.2.2⟩, ?_, by rw [e2]⟩
    rw [← Array.getElem?_toList, he, List.getElem?_map, hb]
    rfl
theorem turn_keysN {P : Program} {w : World} {K : PySem.W.Frag} {tg : Expr} {d : Addr} {o : Obj} {en : Array DictEntry} {ep : Nat} {es : List NEnt} (it : Addr) (hod : o.data = .dict en ep) : Turn P w K tg (Itn w d o es) [it] it (fun i h => h.IsKeyIter it d i es.length ep) where
  mem := by simp
  obj := fun i h st b hb => by
    have e : b = it := by simpa using hb
    subst e
    obtain ⟨oi, e, c, dd⟩ := st
    exact ⟨oi, e, fun v z => by rw [dd] at z; cases z⟩
  keep := fun i h h' st k => st.at fun oi e => k it (by simp) oi e
  item := by
    intro X hP hw hK hc i pins s σ H E I hf st hg
    subst hP hw hK
    obtain ⟨hd, hi⟩ := hg
    obtain ⟨f0, f1, f2, f3, f4, f5⟩ := hf it (by simp)
    obtain ⟨hs, hgd, hx, es', ep', hdt, hsz, ent⟩ := Inv.frzN I hd
    obtain ⟨rfl, rfl⟩ := dict_ep hod hdt
    obtain ⟨e, he⟩ : ∃ p, es[i]? = some p := ⟨es[i], List.getElem?_eq_getElem hi⟩
    obtain ⟨x, hen, hkey⟩ := ent i e he
    refine next_key_item st hgd hdt hsz hen fun h' st' sb => ?_
    have I1 : Inv X pins σ H { s with heap := h' } := I.turned (t' := s.toks) (fun b ob hb e => (sb.2 b hb).trans e) f0 f1 f3 f4 f5
    obtain ⟨oi, e', c, dd⟩ := id st'
    exact ⟨x.key, rfl, go_of (s := { s with heap := h' }) e' c dd (by decide) ⟨.ref e.2.1, H, I1, hkey, ⟨rfl, e, he, rfl⟩, st', fun b hb => (hf b hb).1⟩⟩
  done := by
    intro X hP hw hK hc i pins s σ H E I hf st hg
    subst hP hw hK
    obtain ⟨hd, hi⟩ := hg
    obtain ⟨f0, f1, f2, f3, f4, f5⟩ := hf it (by simp)
    obtain ⟨hs, hgd, hx, es', ep', hdt, hsz, ent⟩ := Inv.frzN I hd
    obtain ⟨rfl, rfl⟩ := dict_ep hod hdt
    exact next_key_end (I.ok.hd hc) st hgd hdt hsz hi fun h' eb => ⟨rfl, I.turned (t' := s.toks) (fun b ob hb e => eb b ob hb e) f0 f1 f3 f4 f5⟩
  self := fun A i s Q E st h => by
    refine wpAny_pyIter_slot st.typeIs F.slot_dict_keyiterator_iter (wpAny_call_entry F.slot_dict_keyiterator_iter st.typeIs F.entry_dict_keyiterator_iter ?_ (F.args_dict_keyiterator_iter_1 _))
    show wpAny _ _ (ret (.ref it)) _ _ s
    exact wpAny_pure ⟨_, rfl, "dict_keyiterator", _, st.typeIs, F.slot_dict_keyiterator_next.lookup, h⟩
def iKeysN (w : World) (td : TE) : TI := fun σ H R => td σ H fun x H1 => match x with
  | .ref d => ∃ o es, H1 d = some (.frz o (nkO w d es)) ∧ R (Itn w d o es) H1
  | _ => False
theorem walk_keysN {w : World} {d : Addr} {o : Obj} {es : List NEnt} : Walk (Itn w d o es) es.length (fun H => H d = some (.frz o (nkO w d es))) (fun i H x H' => H' = H ∧ ∃ e, es[i]? = some e ∧ x = .ref e.2.1) :=
  ⟨fun _ _ hi q => ⟨q, hi⟩, fun _ q => ⟨q, Nat.le_refl _⟩, fun _ _ _ _ _ _ y => y⟩
section
variable {X : Cx} {tg e : Expr} {td : TE}
theorem pi_keysN {w : World} (hw : X.w = w) (he : PE X e td) : PI X tg e (iKeysN w td) := by
  subst hw
  refine ⟨fun pins s σ H R I h => ?_⟩
  refine thn (he.run pins s σ H _ I h) fun u s1 ⟨x, H1, I1, rx, q⟩ => ?_
  match x, rx, q with
  | .ref d, rx, ⟨o, es, hd, q⟩ =>
    obtain rfl : u = Value.ref d := rx
    obtain ⟨hs, hgd, hx, en, ep, hdt, hsz, ent⟩ := Inv.frzN I1 hd
    refine iter_keys hs hgd hx hdt (pi_one (tk := s1.toks) I1 _ (turn_keysN _ hdt) ⟨_, Heap.get?_push_size _ rfl, rfl, ?_⟩ q)
    rw [hsz] <;> rfl
end
theorem lcx_keysN {w : World} {d0 : Addr} {o : Obj} {es : List NEnt} {g : TG} {tt : TT} {te : TE} {vs : List Nat} {σ : L2.St} {H1 : Hp} {D : Addr} {Q : VK} (Pv : Nat → Hp → Prop) (h0 : Pv 0 (upd H1 D (.lst []))) (hl : ∀ i H, i ≤ es.length → Pv i H → H d0 = some (.frz o (nkO w d0 es)))
    (hs : ∀ i x H, es[i]? = some x → Pv i H → g (.ref x.2.1) (wipe σ vs) H fun σ2 H2 => wipe σ2 vs = wipe σ vs ∧ tt σ2 H2 fun b H3 =>
      if b = true then te σ2 H3 fun y H4 => ∃ acc, H4 D = some (.lst acc) ∧ acc.length < sizeLine ∧ Pv (i + 1) (upd H4 D (.lst (acc ++ [y]))) else Pv (i + 1) H3) (hd : ∀ H, Pv es.length H → Q (.ref D) H) : Lc (Itn w d0 o es) g tt te vs σ H1 D Q :=
  lc_it walk_keysN Pv h0 hl (fun i x H H' hi p y => by
    obtain ⟨rfl, e, he, rfl⟩ := y
    exact hs i e _ he p) hd
/-! ### properties -/
structure HasP (P : Program) (w : World) (K : PySem.W.Frag) (mg : Str → Option Value) (base : Heap) (CX : CXT) (C : Addr) (x : Str) (k : Nat) (ps : List Str) (sp : Sp) : Prop where
  ex : ∃ (p g : Addr) (fd : FuncData), PropOf K C x p g ∧ FnOk P w K mg base CX k g fd ps sp ∧ Binds K fd ps []
/-- a property's getter as it stands -/
structure AtP (K : PySem.W.Frag) (C : Addr) (x qual : Str) (st : Stmt) (ps : List Str) : Prop where
  ex : ∃ (p g : Addr) (fd : FuncData), Fun K x qual st g fd ∧ Binds K fd ps [] ∧ PropOf K C x p g
structure PFact (K : PySem.W.Frag) (C : Addr) (x qual : Str) (st : Stmt) : Prop where
  ex : ∃ (p f : Addr) (oc : Value) (od an : Option Addr) (sl : Array (Option Value)) (kV dc pm cd ct : Value),
    PropOf K C x p f ∧ K.lookup f = some ⟨oc, od, .func (PySem.W.fnOf x qual (defArgs st) (defBody st) (defScope st) .none kV dc pm an cd ct), sl⟩ ∧ PySem.W.codeIn K cd qual = true ∧ PySem.W.keepIn K (.ref f) = true
theorem PFact.of {K : PySem.W.Frag} {C : Addr} {x qual : Str} {st : Stmt} {p f : Addr} {oc : Value} {od an : Option Addr} {sl : Array (Option Value)} {kV dc pm cd ct : Value} {rest : List Value}
    (a : PySem.W.findIn K (.ref C) x = some (some (.ref p))) (g : PySem.W.specialIn K (.ref p) "__get__" = some (some (.builtin "property.__get__"))) (t : PySem.W.takesIn K (.ref p) = some true) (r : PySem.W.recIn K p "property" = some (.ref f :: rest))
    (l : K.lookup f = some ⟨oc, od, .func (PySem.W.fnOf x qual (defArgs st) (defBody st) (defScope st) .none kV dc pm an cd ct), sl⟩)
    (c : PySem.W.codeIn K cd qual = true) (k : PySem.W.keepIn K (.ref f) = true) : PFact K C x qual st := ⟨p, f, oc, od, an, sl, kV, dc, pm, cd, ct, ⟨a, g, t, rest, r⟩, l, c, k⟩
theorem AtP.of {K : PySem.W.Frag} {C : Addr} {x qual : Str} {st : Stmt} {ps : List Str} (F : PFact K C x qual st)
    (hb : ∀ (kV doc pm : Value) (an : Option Addr) (cdv ct : Value) (us : List Value), us.length = ps.length → bindArgs (PySem.W.fnOf x qual (defArgs st) (defBody st) (defScope st) .none kV doc pm an cdv ct) ⟨us, []⟩ = pure (ps.zip us)) : AtP K C x qual st ps := by
  obtain ⟨p, f, oc, od, an, sl, kV, dc, pm, cd, ct, pr, l, c, k⟩ := F.ex
  have F1 := fun_mk (st := st) l c k
  exact ⟨_, _, _, F1, F1.binds hb, pr⟩
theorem hasP_of {P : Program} {w : World} {K : PySem.W.Frag} {mg : Str → Option Value} {base : Heap} {C : Addr} {x qual : Str} {st : Stmt} {N ps : List Str} {k : Nat} {sp : Sp} (A : AtP K C x qual st ps) (S : FnScope N ps (defScope st)) (len : ∀ vs H Q E, sp vs H Q E → vs.length = ps.length)
    (hbody : ∀ (cdv : Value) (f : Addr) (A : Around) (outer : List Env) (s : Shared) (H : Hp) (vs : List V) (Q : VK) (E : XK), Room k (A.deeper (envOfC qual (defScope st) s.heap.objs.size f cdv)) → sp vs H Q E →
      ∃ t, PSs (cxOf CX0 P w K mg base N qual (defScope st) f cdv A outer s H E).nox (defBody st) t ∧ t { nx := fun _ H' => Q .non H', rt := Q } (start N vs) H) : HasP P w K mg base CX0 C x (k + 1) ps sp := by
  obtain ⟨p, f, fd, F, B, G⟩ := A.ex
  exact ⟨p, f, fd, G, F.ok S len fun cdv A outer s H vs Q E hr h => hbody cdv f A outer s H vs Q E hr h, B⟩
def fProp (C : Addr) (sp : Sp) (E : XK) (ta : TE) : TE := fun σ H Q => ta σ H fun x H1 => match x with
  | .ref a => match H1 a with
    | some (.ins D _ _) => D = C ∧ sp [.ref a] H1 Q E
    | _ => False
  | _ => False
theorem fe_prop {X : Cx} {CX : CXT} {k : Nat} {C : Addr} {x : Str} {ps : List Str} {sp : Sp} {E : XK} {e : Expr} {pos : Pos} {ta : TE} (h : HasP X.prog X.w X.K X.mg X.base CX C x k ps sp) (c : Cls X.K C) (hr : Room (k + 1) X.A) (hx : Passes CX X.nox E) (he : PE X e ta)
    (hab : attributeBase e x X.env (eval e X.env) = eval e X.env) : PE X (.Attribute e x pos) (fProp C sp E ta) := by
  obtain ⟨p, g, fd, hp, F, B⟩ := h.ex
  refine pe_wk (pe_prop (pe_clos he) c hp F hr B .nil hx hab) fun σ H Q q => ⟨_, q, fun y H1 q1 => ?_⟩
  match y, q1 with
  | .ref a, q1 =>
    dsimp only at q1
    split at q1
    · obtain ⟨h1, q2⟩ := q1
      rename_i D dx fs ea
      subst h1
      exact ⟨_, _, _, rfl, ea, q2⟩
    · exact q1.elim
end Fx

set_option Elab.async false
set_option linter.all false
set_option maxRecDepth 100000
/-! Mr: list methods, dicts with text keys, exceptions as values, by value, over Tb. -/
namespace Fx
open PySem PySem.Spec PyProof.Rows L2
section
variable {X : Cx}
/-! ### list methods -/
def fPop : V → List V → Hp → VK → Prop := fun x vs H Q => match x, vs with
  | .ref l, [] => match H l with
    | some (.lst xs) => ∃ y, xs[xs.length - 1]? = some y ∧ Q y (upd H l (.lst xs.dropLast))
    | _ => False
  | _, _ => False
theorem mt_fPop : MtR X "list.pop" fPop := by
  intro pins s σ H x xs v us Q I rx rs h
  unfold fPop at h
  split at h
  · split at h
    · obtain ⟨y, h1, h2⟩ := h
      exact mt_pop pins s σ H _ _ v us Q I rx rs ⟨_, _, y, rfl, rfl, by assumption, h1, h2⟩
    · exact h.elim
  · exact h.elim
def fPopAt : V → List V → Hp → VK → Prop := fun x vs H Q => match x, vs with
  | .ref l, [.int i] => match H l with
    | some (.lst xs) => ∃ k y, ixN xs.length i = some k ∧ xs[k]? = some y ∧ xs.length ≤ 100000 ∧ Q y (upd H l (.lst (xs.eraseIdx k)))
    | _ => False
  | _, _ => False
theorem mt_fPopAt : MtR X "list.pop" fPopAt := by
  intro pins s σ H x xs v us Q I rx rs h
  unfold fPopAt at h
  split at h
  · split at h
    · obtain ⟨k, y, h1, h2, h4, h3⟩ := h
      obtain ⟨e, _, lo, hi⟩ := ixN_seq h1
      exact mt_popAt pins s σ H _ _ v us Q I rx rs ⟨_, _, _, k, y, rfl, rfl, by assumption, by omega, by omega, e, h2, h3⟩
    · exact h.elim
  · exact h.elim
def fReverse : V → List V → Hp → VK → Prop := fun x vs H Q => match x, vs with
  | .ref l, [] => match H l with
    | some (.lst xs) => Q .non (upd H l (.lst xs.reverse))
    | _ => False
  | _, _ => False
theorem mt_fReverse : MtR X "list.reverse" fReverse := by
  intro pins s σ H x xs v us Q I rx rs h
  unfold fReverse at h
  split at h
  · split at h
    · exact mt_reverse pins s σ H _ _ v us Q I rx rs ⟨_, _, rfl, rfl, by assumption, h⟩
    · exact h.elim
  · exact h.elim
def fExtend : V → List V → Hp → VK → Prop := fun x vs H Q => match x, vs with
  | .ref l, [.ref b] => match H l, H b with
    | some (.lst xs), some (.lst zs) => xs.length + zs.length ≤ sizeLine ∧ Q .non (upd H l (.lst (xs ++ zs)))
    | _, _ => False
  | _, _ => False
theorem mt_fExtend : MtR X "list.extend" fExtend := by
  intro pins s σ H x xs v us Q I rx rs h
  unfold fExtend at h
  split at h
  · split at h
    · exact mt_extend pins s σ H _ _ v us Q I rx rs ⟨_, _, _, _, rfl, rfl, by assumption, by assumption, h⟩
    · exact h.elim
  · exact h.elim
def fInsert : V → List V → Hp → VK → Prop := fun x vs H Q => match x, vs with
  | .ref l, [.int i, y] => match H l with
    | some (.lst xs) => xs.length < sizeLine ∧ 0 ≤ i ∧ i < 2 ^ 63 ∧ Q .non (upd H l (.lst (xs.take i.toNat ++ [y] ++ xs.drop i.toNat)))
    | _ => False
  | _, _ => False
theorem mt_fInsert : MtR X "list.insert" fInsert := by
  intro pins s σ H x xs v us Q I rx rs h
  unfold fInsert at h
  split at h
  · split at h
    · exact mt_insert pins s σ H _ _ v us Q I rx rs ⟨_, _, _, _, rfl, rfl, by assumption, h⟩
    · exact h.elim
  · exact h.elim
/-! ### dicts with text (and number) keys -/
def keyV : V → Option Key
  | .int i => some (.inl i)
  | .str z => some (.inr z)
  | _ => none
theorem keyV_kV {x : V} {k : Key} (h : keyV x = some k) : x = kV k := by
  cases x <;> first
    | (cases h; rfl)
    | cases h
def fGetK (td ty : TE) : TE := fun σ H Q => td σ H fun x H1 => ty σ H1 fun y H2 => match x, keyV y with
  | .ref a, some k => ∃ kvs v, Rd H2 a (.dK kvs) ∧ valV kvs k = some v ∧ Q v H2
  | _, _ => False
def fInK (neg : Bool) (ty td : TE) : TE := fun σ H Q => ty σ H fun y H1 => td σ H1 fun x H2 => match x, keyV y with
  | .ref a, some k => ∃ kvs, Rd H2 a (.dK kvs) ∧ Q (.bl (if neg = true then !(valV kvs k).isSome else (valV kvs k).isSome)) H2
  | _, _ => False
def sPutK (td ty tv : TE) : TS := fun D σ H => tv σ H fun v H1 => td σ H1 fun x H2 => ty σ H2 fun y H3 => match x, keyV y with
  | .ref a, some k => ∃ kvs, H3 a = some (.dK kvs) ∧ kvs.length < sizeLine ∧ D.nx σ (upd H3 a (.dK (putK kvs k v)))
  | _, _ => False
def sDelK (td ty : TE) : TS := fun D σ H => td σ H fun x H1 => ty σ H1 fun y H2 => match x, keyV y with
  | .ref a, some k => ∃ kvs, H2 a = some (.dK kvs) ∧ (valV kvs k).isSome = true ∧ D.nx σ (upd H2 a (.dK (dropK kvs k)))
  | _, _ => False
section
variable {o i value : Expr} {pos pos' tpos : Pos} {td ty tv : TE}
theorem pe_getK (hu : X.A.units + 1 < cLine) (ho : PE X o td) (hi : PE X i ty) (hs : NoSl i) : PE X (.Subscript o i pos) (fGetK td ty) :=
  pe_wk (pe_dget hu (pe_clos ho) (pe_clos hi) hs) fun σ H Q q => ⟨_, q, fun x H1 q => ⟨_, q, fun y H2 q => by
    split at q
    · obtain ⟨kvs, v, r, hv, q⟩ := q
      exact ⟨_, v, rfl, .inl ⟨kvs, _, r, keyV_kV (by assumption), hv.symm⟩, q⟩
    · exact q.elim⟩⟩
theorem pc_wk {op : CmpOp} {a b : Expr} {t t' : TE} (h : PC X op a b t) (w : ∀ σ H Q, t' σ H Q → t σ H Q) : PC X op a b t' := ⟨fun pins s σ H Q I q => h.run pins s σ H Q I (w σ H Q q)⟩
theorem pc_inK (hu : X.A.units + 1 < cLine) (hi : PE X i ty) (ho : PE X o td) : PC X .In i o (fInK false ty td) :=
  pc_wk (pc_din hu (pe_clos hi) (pe_clos ho)) fun σ H Q q => ⟨_, q, fun y H1 q => ⟨_, q, fun x H2 q => by
    split at q
    · obtain ⟨kvs, r, q⟩ := q
      exact ⟨_, _, rfl, .inl ⟨kvs, _, r, keyV_kV (by assumption), rfl⟩, q⟩
    · exact q.elim⟩⟩
theorem pc_notinK (hu : X.A.units + 1 < cLine) (hi : PE X i ty) (ho : PE X o td) : PC X .NotIn i o (fInK true ty td) :=
  pc_wk (pc_dnotin hu (pe_clos hi) (pe_clos ho)) fun σ H Q q => ⟨_, q, fun y H1 q => ⟨_, q, fun x H2 q => by
    split at q
    · obtain ⟨kvs, r, q⟩ := q
      exact ⟨_, _, rfl, .inl ⟨kvs, _, r, keyV_kV (by assumption), rfl⟩, q⟩
    · exact q.elim⟩⟩
theorem ps_putK (hu : X.A.units + 1 < cLine) (ho : PE X o td) (hi : PE X i ty) (hv : PE X value tv) (hs : swapsWith value (some (.Subscript o i pos')) pos.line X.env = pure false) :
    PS X (.Assign [.Subscript o i pos'] value pos) (sPutK td ty tv) :=
  ps_wk (ps_dput hu (pe_clos ho) (pe_clos hi) (pe_clos hv) hs) fun D σ H q => ⟨_, q, fun v H1 q => ⟨_, q, fun x H2 q => ⟨_, q, fun y H3 q => by
    split at q
    · obtain ⟨kvs, h1, h2, q⟩ := q
      exact ⟨_, _, rfl, .inl ⟨kvs, _, h1, keyV_kV (by assumption), h2, rfl⟩, q⟩
    · exact q.elim⟩⟩⟩
theorem ps_delK (ho : PE X o td) (hi : PE X i ty) : PS X (.Delete [.Subscript o i tpos] pos) (sDelK td ty) :=
  ps_wk (ps_ddel (pe_clos ho) (pe_clos hi)) fun D σ H q => ⟨_, q, fun x H1 q => ⟨_, q, fun y H2 q => by
    split at q
    · obtain ⟨kvs, h1, h2, q⟩ := q
      exact ⟨_, kvs, _, rfl, h1, keyV_kV (by assumption), h2, q⟩
    · exact q.elim⟩⟩
end
/-- list(d): the keys -/
def fListD : List V → Hp → VK → Prop := fun xs H Q => match xs with
  | [.ref a] => ∃ kvs, Rd H a (.dK kvs) ∧ ∀ p H1, H p = none → Same H H1 → H1 p = some (.lst (kvs.map fun kv => kV kv.1)) → Q (.ref p) H1
  | _ => False
theorem call_fListD (hc : X.calm = true) : CallR X (.type "list") fListD := by
  intro pins s σ H xs us Q I r h
  match xs, r, h with
  | [.ref a], r, ⟨kvs, h1, h2⟩ => exact call_listD hc pins s σ H _ us Q I r ⟨a, kvs, rfl, h1, fun p np => h2 p _ np (same_new np) upd_same⟩
/-! ### exceptions as values -/
def fMkV (C : Addr) (n : Nat) (flds : List V → List (Str × V)) (ta : TA) : TE := fun σ H Q => ta σ H fun vs H1 => vs.length = n ∧ ∀ a d H2, H1 a = none → H1 d = none → Same H1 H2 → H2 a = some (exo a C (some d)) → H2 d = some (exd d (flds vs)) → Q (.ref a) H2
theorem fe_mkV {C : Addr} {x : Str} {n : Nat} {flds : List V → List (Str × V)} {p pos : Pos} {e : Expr} {es : List Expr} {ta : TA} (h : HasE X.prog X.w X.K X.mg X.base C x n flds) (hn : n ≤ 1000) (hr : Room 2 X.A) (hg : Gl X x) (ha : PA X (e :: es) ta) (hdb : (x == ("__debug__" : Str)) = false := by decide)
    (he : starEach (e :: es) X.env = (false, eval e X.env) :: starEach es X.env := by rfl) (hpl : (backTo pos (starEach es X.env)).any (·.1) = false := by rfl) : PE X (.Call (.Name x p) (e :: es) [] pos) (fMkV C n flds ta) := by
  obtain ⟨f, fd, ps, F1, hb, iC, tI, hm, T⟩ := h.ex
  refine ⟨fun pins s σ H Q I h => ?_⟩
  obtain ⟨nm, q, N, bs, bm, sn, sub, ab, col, dd, k0, k1, k2, k3, k5, hC, hbm⟩ := T.cls
  refine wpAny_Call_Name_kw (ld_glob I hg hm ?_ hdb)
  refine PySem.W.callWith_K (h₀ := X.base) I.ok.mod.kin T.kC (thn (ha.run pos pins s σ H _ I h) fun us s1 ⟨vs, H1, I1, r1, hz, q1⟩ => ⟨I1.kIn, ?_⟩) he hpl
  show wpAny _ _ (call (.ref C) us) _ _ _
  obtain ⟨hp, g, dr, tk, os⟩ := s1
  have hsz : hp.objs.size ≤ hp.objs.size + 1 := Nat.le_succ _
  have hn1 : H1 (hp.objs.size + 1) = none := I1.hok.fresh hsz
  have hq : spInitE C n flds (V.ref (hp.objs.size + 1) :: vs) (upd H1 (hp.objs.size + 1) (exo (hp.objs.size + 1) C none)) (fun v H2 => v = .non ∧ Q (.ref (hp.objs.size + 1)) H2) (fun _ _ _ => False) :=
    ⟨_, vs, H1, rfl, hz, hn1, rfl, fun d H2 nd ne keep ea ed => ⟨rfl, q1 _ d H2 hn1 nd keep ea ed⟩⟩
  have kk : ∀ b o, hp.get? b = some o → ((hp.push (PySem.W.kdv_tup us)).push (PySem.HandSPX.excO C hp.objs.size)).get? b = some o := fun b o e => Heap.get?_push_of_some _ (Heap.get?_push_of_some _ e)
  have hget : ((hp.push (PySem.W.kdv_tup us)).push (PySem.HandSPX.excO C hp.objs.size)).get? (hp.objs.size + 1) = some (PySem.HandSPX.excO C hp.objs.size) := by heap_get
  have I2 : Inv X pins σ (upd H1 (hp.objs.size + 1) (exo (hp.objs.size + 1) C none)) ⟨(hp.push (PySem.W.kdv_tup us)).push (PySem.HandSPX.excO C hp.objs.size), g, dr, tk, os⟩ :=
    I1.laid (t' := tk) (a := hp.objs.size + 1) (o := exo (hp.objs.size + 1) C none) (h' := (hp.push (PySem.W.kdv_tup us)).push (PySem.HandSPX.excO C hp.objs.size)) kk hsz (exo_ok hget)
  have r2 : Vals (V.ref (hp.objs.size + 1) :: vs) (Value.ref (hp.objs.size + 1) :: us) := .cons rfl r1
  have hl : (Value.ref (hp.objs.size + 1) :: us).length = ps.length := by
    have e := r2.length
    rw [F1.len _ _ _ _ hq] at e
    exact e.symm
  have hus : us.length ≤ sizeLine := by
    rw [← Paired.length r1, sizeLine_eq]
    omega
  have hb' := hb ⟨(hp.push (PySem.W.kdv_tup us)).push (PySem.HandSPX.excO C hp.objs.size), g, dr, tk, os⟩ (Value.ref (hp.objs.size + 1) :: us) I2.kIn (by rw [List.append_nil]; exact hl)
  rw [List.append_nil] at hb'
  refine wpAny_call (PySem.HandSPX.call_own F.excBase_ValueError (fun Y => PySem.HandSPX.refsVE_contains Y bm hbm) (I1.kIn _ _ hC) (PySem.W.looks_findIn I1.kIn iC) (fun self => PySem.W.bind_fn I1.kIn self tI) hus
    (codeAny_mono (F1.run _ X.stack _ _ ⟨Value.ref (hp.objs.size + 1) :: us, []⟩ (Value.ref (hp.objs.size + 1) :: us) _ _ (fun _ _ _ => False) (hr.make C us []) (I2.env0.make C us []) hb' r2 hq) fun r s' hq' => ?_))
  cases r with
  | error er => exact hq'.elim
  | ok fl =>
    cases fl with
    | ret u =>
      obtain ⟨v, H', I3, rv, ev, q3⟩ := I2.after hq'
      subst ev
      exact ⟨rv, ⟨V.ref (hp.objs.size + 1), H', I3, rfl, q3⟩⟩
    | next => exact False.elim hq'
    | brk => exact False.elim hq'
    | cont => exact False.elim hq'
/-- an exception of class C with these fields, held -/
def IsExo (H : Hp) (a C : Addr) (fs : List (Str × V)) : Prop := ∃ d, H a = some (exo a C (some d)) ∧ H d = some (exd d fs)
theorem IsExo.same {H H' : Hp} {a C : Addr} {fs : List (Str × V)} (h : IsExo H a C fs) (s : Same H H') : IsExo H' a C fs := h.imp fun _ ⟨x, y⟩ => ⟨s _ _ x, s _ _ y⟩
theorem exo_inst {pins : List (Addr × Obj)} {σ : L2.St} {H : Hp} {s : Shared} {a C : Addr} {fs : List (Str × V)} (I : Inv X pins σ H s) (h : IsExo H a C fs) : ∃ (oe od : Obj) (mA : Str → Option Value), PySem.W.InstAt s.heap a oe C (some od) ∧ (∀ f, RelO (fs.lookup f) (mA f)) ∧ (∀ f, PySem.W.lookIn f od = some (mA f)) := by
  obtain ⟨d, e1, e2⟩ := h
  obtain ⟨t1, he⟩ := exo_at I.hok e1
  obtain ⟨mA, hns, rel⟩ := exd_at I.hok e2
  obtain ⟨od, ho, hl⟩ := lookIn_ns hns
  exact ⟨_, od, mA, ⟨he, rfl, rfl, ho⟩, rel, hl⟩
/-- e.f of such -/
def fXo (K : PySem.W.Frag) (cs : List Addr) (f : Str) (te : TE) : TE := fun σ H Q => te σ H fun x H1 => match x with
  | .ref a => ∃ C fs v, C ∈ cs ∧ IsExo H1 a C fs ∧ fs.lookup f = some v ∧ Q v H1
  | _ => False
theorem fe_xo {cs : List Addr} {e : Expr} {te : TE} {pos : Pos} {n : Str} (T : XPlain X.K cs n) (he : PE X e te) (hb : attributeBase e n X.env (eval e X.env) = eval e X.env) : PE X (.Attribute e n pos) (fXo X.K cs n te) := by
  refine ⟨fun pins s σ H Q I h => ?_⟩
  refine attr_of hb (thn (he.run pins s σ H _ I h) fun u s1 hh => ?_)
  obtain ⟨x, H1, I1, rx, q⟩ := hh
  match x, rx, q with
  | .ref a, rx, ⟨C, fs, v, m, hx, l, q⟩ =>
    obtain rfl : u = Value.ref a := rx
    obtain ⟨oe, od, mA, J, rel, hl⟩ := exo_inst I1 hx
    obtain ⟨u, hu, ru⟩ := RelO.some_of (v := v) (o := mA n) (by rw [← l]; exact rel n)
    exact HandSPX.exc_get I1.kIn J (T C m).1.ga (T C m).1.gg (T C m).1.exC (PySem.W.findObj_own (T C m).1.hdC (T C m).2 rfl (by rw [hl, hu])) (handed_of ru) ⟨v, H1, I1.tok _, ru, q⟩
/-- isinstance(e, C) of such -/
def fIsX (K : PySem.W.Frag) (cs : List Addr) : List V → Hp → VK → Prop := fun xs H Q => match xs with
  | [.ref a, .ref D] => ∃ C fs, C ∈ cs ∧ IsExo H a C fs ∧ ∃ b, PySem.W.kitOne K (.ref C) (.ref D) = some b ∧ Q (.bl b) H
  | _ => False
theorem call_fIsX {cs : List Addr} (F : ∀ C ∈ cs, ExcFact X.K C) (ob : ObjFact X.K) : CallR X (.builtin "isinstance") (fIsX X.K cs) := by
  intro pins s σ H xs us Q I r h
  match xs, r, h with
  | [.ref a, .ref D], r, ⟨C, fs, m, hx, b, e, q⟩ =>
    obtain ⟨u1, u2, rfl, r1, r2⟩ := vals2 r
    cases r1
    cases r2
    have FC := F C m
    have hcl : (PySem.W.clsIn X.K C).isSome = true := by
      obtain ⟨cd, hcd, _⟩ := PySem.W.any_some FC.hdC
      rw [hcd]; rfl
    obtain ⟨oe, od, mA, J, rel, hl⟩ := exo_inst I hx
    exact PySem.W.kia_one (PySem.W.kitx_exc hcl FC.ga FC.gg FC.exC FC.ci ob.gd ob.tk FC.mr) I.kIn J e (fun z => nomatch z) fun tk => ⟨.bl b, H, I.kept (t' := tk) fun _ _ z => z, rfl, q⟩
end
end Fx

set_option Elab.async false
set_option linter.all false
set_option maxRecDepth 100000
/-! Dk: displays of dicts with text keys, walks over their keys, by value, over Mr. -/
namespace Fx
open PySem PySem.Spec PyProof.Rows L2
/-! ### {"a": v, ..} -/
def fPairs : List (Key × TE) → L2.St → Hp → (List (Key × V) → Hp → Prop) → Prop
  | [], _, H, Q => Q [] H
  | (k, tv) :: r, σ, H, Q => tv σ H fun y H1 => fPairs r σ H1 fun ps H2 => Q ((k, y) :: ps) H2
abbrev FPs (X : Cx) (pos : Pos) (keys : List (Option Expr)) (values : List Expr) (trs : List (Key × TE)) : Prop := PPs X pos keys values (trs.map fun p => (tC (kV p.1), clos p.2))
theorem fps_nil {X : Cx} {pos : Pos} : FPs X pos [] [] [] := pps_nil
theorem fps_cons {X : Cx} {pos : Pos} {x : Str} {j : Nat} {p : Pos} {v : Expr} {ks : List (Option Expr)} {vs : List Expr} {tv : TE} {trs : List (Key × TE)} (hv : PE X v tv) (hr : FPs X pos ks vs trs) :
    FPs X pos (some (.Constant (.str x) j p) :: ks) (v :: vs) ((.inr x, tv) :: trs) := pps_cons pe_str (pe_clos hv) hr
theorem fPairs_t : ∀ {trs : List (Key × TE)} {σ : L2.St} {H : Hp} {R : List (Key × V) → Hp → Prop} {Q : List (V × V) → Hp → Prop}, fPairs trs σ H R → (∀ kvs H2, kvs.map (·.1) = trs.map (·.1) → R kvs H2 → Q (kvs.map fun kv => (kV kv.1, kv.2)) H2) → tPairs (trs.map fun p => (tC (kV p.1), clos p.2)) σ H Q
  | [], σ, H, R, Q, h, w => w [] H rfl h
  | (k, tv) :: r, σ, H, R, Q, h, w => ⟨_, h, fun y H1 q => fPairs_t q fun kvs H2 e z => w ((k, y) :: kvs) H2 (by rw [List.map_cons, List.map_cons, e]) z⟩
theorem mergeK_nd : ∀ (kvs acc : List (Key × V)), ((acc ++ kvs).map (·.1)).Nodup → mergeK acc kvs = acc ++ kvs
  | [], acc, _ => (List.append_nil acc).symm
  | p :: r, acc, h => by
    have hn : ¬ (acc.any fun kv => decide (kv.1 = p.1)) = true := by
      intro z
      obtain ⟨q, hq, e⟩ := List.any_eq_true.mp z
      have e := of_decide_eq_true e
      rw [List.map_append, List.nodup_append] at h
      exact h.2.2 _ (List.mem_map_of_mem hq) _ (List.mem_map_of_mem (List.mem_cons_self ..)) e
    have e1 : putK acc p.1 p.2 = acc ++ [p] := by unfold putK; rw [if_neg hn]
    show mergeK (putK acc p.1 p.2) r = _
    rw [e1, mergeK_nd r (acc ++ [p]) (by rw [List.append_assoc]; exact h), List.append_assoc]; rfl
def fDisp (trs : List (Key × TE)) : TE := fun σ H Q => ∀ p H0, H p = none → Same H H0 → H0 p = some (.dK []) → fPairs trs σ H0 fun kvs H2 => H2 p = some (.dK []) ∧ ∀ H3, H3 = upd H2 p (.dK kvs) → Q (.ref p) H3
theorem fe_disp {X : Cx} {pos : Pos} {keys : List (Option Expr)} {values : List Expr} {trs : List (Key × TE)} (h : FPs X pos keys values trs) (hn : (trs.map (·.1)).Nodup) (hall : keys.all (·.isSome) = true) (hl : keys.length = values.length) (h0 : keys ≠ [])
    (h15 : keys.length ≤ 15) (ht : trs.length ≤ 15) : PE X (.Dict keys values pos) (fDisp trs) :=
  pe_wk (pe_disp h hall hl h0 h15) fun σ H Q q p np => fPairs_t (q p _ np (same_new np) upd_same) fun kvs H2 e z => ⟨z.1, kvs, rfl, by
    have : kvs.length = trs.length := by have := congrArg List.length e; simpa using this
    omega, z.2 _ (by rw [mergeK_nd kvs [] (by rw [List.nil_append, e]; exact hn), List.nil_append])⟩
/-! ### for k in d -/
def iKeysK (td : TE) : TI := fun σ H R => td σ H fun x H1 => match x with
  | .ref d => ∃ o kvs, H1 d = some (.frz o (.dK kvs)) ∧ R (Itk d o kvs) H1
  | _ => False
theorem pi_keysK {X : Cx} {tg e : Expr} {td : TE} (he : PE X e td) : PI X tg e (iKeysK td) :=
  ⟨fun pins s σ H R I h => (pi_keys (pe_clos he)).run pins s σ H R I ⟨_, h, fun x H1 q => by
    match x, q with
    | .ref d, ⟨o, kvs, hd, q⟩ => exact ⟨d, o, rfl, .inl ⟨kvs, hd, q⟩⟩⟩⟩
theorem lcx_keysK {d0 : Addr} {o : Obj} {kvs : List (Key × V)} {g : TG} {tt : TT} {te : TE} {vs : List Nat} {σ : L2.St} {H1 : Hp} {D : Addr} {Q : VK} (Pv : Nat → Hp → Prop) (h0 : Pv 0 (upd H1 D (.lst []))) (hl : ∀ i H, i ≤ kvs.length → Pv i H → H d0 = some (.frz o (.dK kvs)))
    (hs : ∀ i k v H, kvs[i]? = some (k, v) → Pv i H → g (kV k) (wipe σ vs) H fun σ2 H2 => wipe σ2 vs = wipe σ vs ∧ tt σ2 H2 fun b H3 =>
      if b = true then te σ2 H3 fun y H4 => ∃ acc, H4 D = some (.lst acc) ∧ acc.length < sizeLine ∧ Pv (i + 1) (upd H4 D (.lst (acc ++ [y]))) else Pv (i + 1) H3) (hd : ∀ H, Pv kvs.length H → Q (.ref D) H) : Lc (Itk d0 o kvs) g tt te vs σ H1 D Q :=
  lc_it walk_keys Pv h0 hl (fun i x H H' hi p y => by
    obtain ⟨rfl, k, v, he, rfl⟩ := y
    exact hs i k v _ he p) hd
end Fx

set_option Elab.async false
set_option linter.all false
set_option maxRecDepth 100000
/-! Fk: one of two ways to read an expression (a method of several classes), copies of dicts. -/
namespace Fx
open PySem PySem.Spec PyProof.Rows L2
def tEither (t1 t2 : TE) : TE := fun σ H Q => t1 σ H Q ∨ t2 σ H Q
theorem pe_either {X : Cx} {e : Expr} {t1 t2 : TE} (h1 : PE X e t1) (h2 : PE X e t2) : PE X e (tEither t1 t2) := ⟨fun pins s σ H Q I q => q.elim (h1.run pins s σ H Q I) (h2.run pins s σ H Q I)⟩
/-- dict(d): a copy -/
def fDictD : List V → Hp → VK → Prop := fun xs H Q => match xs with
  | [.ref a] => ∃ kvs, Rd H a (.dK kvs) ∧ ∀ p H1, H p = none → Same H H1 → H1 p = some (.dK kvs) → Q (.ref p) H1
  | _ => False
theorem call_fDictD {X : Cx} : CallR X (.type "dict") fDictD := by
  intro pins s σ H xs us Q I r h
  match xs, r, h with
  | [.ref a], r, ⟨kvs, h1, h2⟩ =>
    obtain ⟨u, eu, rx⟩ := vals1 r
    subst eu
    cases rx
    exact d_copyOf I h1 fun p s' np I' => ⟨.ref p, _, I', rfl, h2 p _ np (same_new np) upd_same⟩
end Fx
namespace Fx
open PySem PySem.Spec PyProof.Rows L2
section
variable {X : Cx} {K : PySem.W.Frag}
theorem ix_fxK (h : X.K = K) : IxR X (fIx K) := h ▸ ix_fx
theorem call_fLenK (h : X.K = K) : CallR X (.builtin "len") (fLen K) := h ▸ call_fLen
theorem op_fAddK (h : X.K = K) : OpR X (binaryOp .Add) (fAdd K) := h ▸ op_fAdd
theorem sl_fxK (h : X.K = K) : SlR X (fSl K) := h ▸ sl_fx
theorem op_fEqK (hu : X.A.units + 64 < cLine) (h : X.K = K) : OpR X (compareOp .Eq) (fEq K false) := h ▸ op_fEq hu
theorem op_fNeK (hu : X.A.units + 64 < cLine) (h : X.K = K) : OpR X (compareOp .NotEq) (fEq K true) := h ▸ op_fNe hu
theorem op_fInK' (h : X.K = K) : OpR X (compareOp .In) (fIn K false) := h ▸ op_fIn
end
end Fx
namespace Fx
open PySem PySem.Spec PyProof.Rows L2
section
variable {X : Cx} {o e f : Expr} {apos cpos : Pos} {td ty tx : TE}
/-- sum of a list of whole numbers -/
def fSum : List V → Hp → VK → Prop := fun xs H Q => match xs with
  | [.ref a] => ∃ ns : List Int, H a = some (.lst (ns.map V.int)) ∧ Q (.int ns.sum) H
  | _ => False
theorem call_fSum (hc : X.calm = true) : CallR X (.builtin "sum") fSum := by
  intro pins s σ H xs us Q I r h
  match xs, r, h with
  | [.ref a], r, ⟨ns, h1, h2⟩ => exact cr_sum hc pins s σ H _ us Q I r ⟨a, ns, rfl, SqL.of h1, h2⟩
/-- d.get(k, x) -/
def fGetD (td ty tx : TE) : TE := fun σ H Q => td σ H fun x H1 => match x with
  | .ref a => (∃ kvs, Rd H1 a (.dK kvs)) ∧ ty σ H1 fun y H2 => tx σ H2 fun z H3 => match keyV y with
    | some k => ∃ kvs, Rd H3 a (.dK kvs) ∧ Q ((valV kvs k).getD z) H3
    | none => False
  | _ => False
theorem pe_getD (hu : X.A.units + 1 < cLine) (ho : PE X o td) (he : PE X e ty) (hf : PE X f tx) (m : M2 X o "get" apos e f cpos) : PE X (.Call (.Attribute o "get" apos) [e, f] [] cpos) (fGetD td ty tx) :=
  pe_wk (pe_dget2 hu (pe_clos ho) (pe_clos he) (pe_clos hf) m) fun σ H Q q => ⟨_, q, fun x H1 q => by
    split at q
    · rename_i a
      obtain ⟨⟨kvs, hd⟩, q⟩ := q
      exact ⟨a, rfl, .inl ⟨kvs, hd⟩, _, q, fun y H2 q => ⟨_, q, fun z H3 q => by
        split at q
        · obtain ⟨kvs', hd', q⟩ := q
          exact ⟨_, .inl ⟨kvs', _, hd', keyV_kV (by assumption), rfl⟩, q⟩
        · exact q.elim⟩⟩
    · exact q.elim⟩
end
/-! ### comprehensions of dicts -/
def Dc (J : It) (g : TG) (tt : TT) (tk tv : TE) (vs : List Nat) (σ : L2.St) (H1 : Hp) (D : Addr) (Q : VK) : Prop := ∃ W : Nat → Nat → Hp → Prop, (∃ m, W 0 m (upd H1 D (.dK []))) ∧ ∀ i m H, W i m H →
  (J.stop i H ∧ Q (.ref D) H) ∨ (J.go i H ∧ ∃ Nx : Hp → Prop, (∀ H', Nx H' → ∃ m', m' < m ∧ W (i + 1) m' H') ∧ ∀ x H', J.yld i H x H' → g x (wipe σ vs) H' fun σ2 H2 => wipe σ2 vs = wipe σ vs ∧ tt σ2 H2 fun b H3 =>
    if b = true then tk σ2 H3 fun y H4 => tv σ2 H4 fun z H5 => ∃ kvs k, y = kV k ∧ H5 D = some (.dK kvs) ∧ kvs.length < sizeLine ∧ Nx (upd H5 D (.dK (putK kvs k z))) else Nx H3)
theorem dc_ {wi : TI} {g : TG} {tt : TT} {tk tv : TE} {vs : List Nat} {σ : L2.St} {H : Hp} {Q : VK} (h : wi σ H fun J H1 => ∀ D, H1 D = none → Dc J g tt tk tv vs σ H1 D Q) : tDc wi g tt tk tv vs σ H Q := h
theorem dcx_tup {K : PySem.W.Frag} {a : Addr} {xs : List V} {g : TG} {tt : TT} {tk tv : TE} {vs : List Nat} {σ : L2.St} {H1 : Hp} {D : Addr} {Q : VK} (Pv : Nat → Hp → Prop) (h0 : Pv 0 (upd H1 D (.dK []))) (hl : ∀ i H, i ≤ xs.length → Pv i H → SqT K H a xs)
    (hs : ∀ i x H, xs[i]? = some x → Pv i H → g x (wipe σ vs) H fun σ2 H2 => wipe σ2 vs = wipe σ vs ∧ tt σ2 H2 fun b H3 =>
      if b = true then tk σ2 H3 fun y H4 => tv σ2 H4 fun z H5 => ∃ kvs k, y = kV k ∧ H5 D = some (.dK kvs) ∧ kvs.length < sizeLine ∧ Pv (i + 1) (upd H5 D (.dK (putK kvs k z))) else Pv (i + 1) H3) (hd : ∀ H, Pv xs.length H → Q (.ref D) H) : Dc (Itt K a) g tt tk tv vs σ H1 D Q :=
  dc_tup Pv h0 hl hs hd
end Fx
namespace Fx
open PySem PySem.Spec PyProof.Rows L2
def iEither (i1 i2 : TI) : TI := fun σ H R => i1 σ H R ∨ i2 σ H R
theorem pi_either {X : Cx} {tg e : Expr} {i1 i2 : TI} (h1 : PI X tg e i1) (h2 : PI X tg e i2) : PI X tg e (iEither i1 i2) := ⟨fun pins s σ H R I h => h.elim (h1.run pins s σ H R I) (h2.run pins s σ H R I)⟩
end Fx
namespace Fx
open PySem PySem.Spec PyProof.Rows L2
theorem lcx_tup {K : PySem.W.Frag} {a : Addr} {xs : List V} {g : TG} {tt : TT} {te : TE} {vs : List Nat} {σ : L2.St} {H1 : Hp} {D : Addr} {Q : VK} (Pv : Nat → Hp → Prop) (h0 : Pv 0 (upd H1 D (.lst []))) (hl : ∀ i H, i ≤ xs.length → Pv i H → SqT K H a xs)
    (hs : ∀ i x H, xs[i]? = some x → Pv i H → g x (wipe σ vs) H fun σ2 H2 => wipe σ2 vs = wipe σ vs ∧ tt σ2 H2 fun b H3 =>
      if b = true then te σ2 H3 fun y H4 => ∃ acc, H4 D = some (.lst acc) ∧ acc.length < sizeLine ∧ Pv (i + 1) (upd H4 D (.lst (acc ++ [y]))) else Pv (i + 1) H3) (hd : ∀ H, Pv xs.length H → Q (.ref D) H) : Lc (Itt K a) g tt te vs σ H1 D Q :=
  lc_it walk_tup Pv h0 hl (fun i x H H' hi p y => by
    obtain ⟨rfl, e⟩ := y
    exact hs i x _ e p) hd
end Fx
namespace Fx
open PySem PySem.Spec PyProof.Rows L2
/-- tuple(list) -/
def fTupOf : List V → Hp → VK → Prop := fun xs H Q => match xs with
  | [.ref p] => ∃ ys, H p = some (.lst ys) ∧ ∀ l H1, H l = none → Same H H1 → H1 l = some (.tup ys) → Q (.ref l) H1
  | _ => False
theorem call_fTupOf {X : Cx} : CallR X (.type "tuple") fTupOf := by
  intro pins s σ H xs us Q I r h
  match xs, r, h with
  | [.ref p], r, ⟨ys, h1, h2⟩ => exact call_tuple_of pins s σ H _ us Q I r ⟨p, ys, rfl, .inl ⟨SqL.of h1, fun l nl => h2 l _ nl (same_new nl) upd_same⟩⟩
end Fx

set_option Elab.async false
set_option linter.all false
set_option maxRecDepth 100000
set_option maxHeartbeats 1000000
/-! Zp: zip of a list and a tuple. -/
namespace Fx
open PySem PySem.Spec PyProof.Rows L2
/-- the list at a and the tuple at b as they stand at each turn -/
def ItzM (K : PySem.W.Frag) (a b : Addr) : It where
  go i H := ∃ (xs ys : List V) (x y : V), SqL K H a xs ∧ SqT K H b ys ∧ xs[i]? = some x ∧ ys[i]? = some y
  yld i H v H' := ∃ T x y, v = .ref T ∧ H T = none ∧ H' = upd H T (.tup [x, y]) ∧ (∀ xs, SqL K H a xs → xs[i]? = some x) ∧ ∀ ys, SqT K H b ys → ys[i]? = some y
  stop i H := ∃ xs ys : List V, SqL K H a xs ∧ SqT K H b ys ∧ i ≤ xs.length ∧ i ≤ ys.length ∧ (i = xs.length ∨ i = ys.length)
def StM (zp ti to j1 j2 a b : Addr) (i : Nat) (h : Heap) : Prop := IsZip h zp ti to .none ∧ IsPair h ti (.ref j1) (.ref j2) ∧ (∃ x y, IsPair h to x y) ∧ h.IsListIter j1 a i ∧ h.IsTupleIter j2 b i
theorem sepM {zp ti to j1 j2 a b : Addr} (D : ZipApart zp ti to j1 j2 a b) : ZipSep2 zp ti to j1 j2 [j1, a] [j2, b] := by
  constructor <;> simp [D.TIz, D.TOz, D.TITO, D.TIi1, D.TIi2, Ne.symm D.i1z, Ne.symm D.i2z, Ne.symm D.l1z, Ne.symm D.l2z, D.TOi1, D.TOi2, Ne.symm D.l1TO, Ne.symm D.l2TO, D.i12, Ne.symm D.i12, D.l1i2, D.l2i1, Ne.symm D.l1i2, Ne.symm D.l2i1]
theorem turn_zipM {P : Program} {w : World} {K : PySem.W.Frag} {el : List Expr} {kx : Nat} {tp : Pos} {a b zp ti to j1 j2 : Addr} (D : ZipApart zp ti to j1 j2 a b) : Turn P w K (.Tuple el kx tp) (ItzM K a b) [zp, ti, to, j1, j2] zp (StM zp ti to j1 j2 a b) where
  mem := List.mem_cons_self ..
  obj := fun i h ⟨g1, g2, ⟨x, y, g3⟩, ⟨o1, g4, _, g5⟩, ⟨o2, g6, _, g7⟩⟩ q hq => by
    simp only [List.mem_cons, List.not_mem_nil, or_false] at hq
    rcases hq with rfl | rfl | rfl | rfl | rfl
    · exact ⟨_, g1, fun v e => by cases e⟩
    · exact ⟨_, g2, fun v e => by cases e⟩
    · exact ⟨_, g3, fun v e => by cases e⟩
    · exact ⟨o1, g4, fun v e => by rw [g5] at e; cases e⟩
    · exact ⟨o2, g6, fun v e => by rw [g7] at e; cases e⟩
  keep := fun i h h' ⟨g1, g2, ⟨x, y, g3⟩, g4, g5⟩ k => ⟨k zp (by simp) _ g1, k ti (by simp) _ g2, ⟨x, y, k to (by simp) _ g3⟩, g4.at fun o e => k j1 (by simp) o e, g5.at fun o e => k j2 (by simp) o e⟩
  item := by
    intro X eP ew eK ec i pins s σ H E I hf st hg
    cases eP; cases ew; cases eK
    obtain ⟨g1, g2, ⟨x0, y0, g3⟩, g4, g5⟩ := st
    obtain ⟨xs, ys, x, y, sx, sy, ex, ey⟩ := hg
    obtain ⟨its, rv, pl, _⟩ := I.list sx
    obtain ⟨jts, rw2, pt, _⟩ := I.tuple sy
    obtain ⟨u, hu, ru⟩ := rv.get ex
    obtain ⟨v, hv, rv'⟩ := rw2.get ey
    have hh : X.A.in1.handled = none := I.ok.hd ec
    have lz : zp < s.heap.objs.size := Heap.lt_size g1
    have n1 : i < its.toArray.size := by
      have := (List.getElem?_eq_some_iff.mp hu).1
      simpa using this
    have n2 : i < jts.toArray.size := by
      have := (List.getElem?_eq_some_iff.mp hv).1
      simpa using this
    refine wpAny_pyNext_zipD2_item (sepM D) (Draws.list hh j1 a D.l1i1 its.toArray) (Draws.tuple hh j2 b D.l2i2 jts.toArray) g1 g2 g3 ⟨g4, pl.isList⟩ ⟨g5, pt⟩ n1 n2 fun u' v' hn tk e1 e2 kz ko st1 st2 hT hsz hk => ?_
    have eu : u' = u := by
      have e1 : its.toArray[i]? = some u' := e1
      rw [List.getElem?_toArray, hu] at e1
      exact (Option.some.inj e1).symm
    have ev : v' = v := by
      have e2 : jts.toArray[i]? = some v' := e2
      rw [List.getElem?_toArray, hv] at e2
      exact (Option.some.inj e2).symm
    subst eu ev
    refine ⟨_, rfl, wpAny_letOwnedTupleGo_zip (s := { s with heap := hn, toks := tk }) kz fun hm kz2 sb => ?_⟩
    have hT2 : hm.get? s.heap.objs.size = some { cls := .type "tuple", data := .seq #[u', v'] } := (sb.2 _ (Nat.ne_of_gt lz)).trans hT
    have new : ObjOk X.prog X.w (upd H s.heap.objs.size (.tup [x, y])) hm s.heap.objs.size (.tup [x, y]) := ⟨by show 2 ≤ sizeLine; decide, [u', v'], .cons ru (.cons rv' .nil), ⟨_, hT2, rfl, _, rfl⟩⟩
    have I1 : Inv X pins σ (upd H s.heap.objs.size (.tup [x, y])) { s with heap := hm, toks := tk } :=
      I.turnedNew (ch := [zp, ti, to, j1, j2]) (fun q o hq e => (sb.2 q (fun z => hq (by simp [z]))).trans (hk q o (fun z => hq (by simp [z])) (fun z => hq (by simp [z])) (fun z => hq (by simp [z])) (fun z => hq (by simp [z])) e)) hf (Nat.le_refl _) new
    refine ⟨.ref s.heap.objs.size, _, I1, rfl, ⟨_, x, y, rfl, I.hok.fresh (Nat.le_refl _), rfl, fun l hl => by rw [I.list_inj hl sx]; exact ex, fun l hl => by rw [I.tuple_inj hl sy]; exact ey⟩, ⟨kz2, ?_, ⟨u', v', ?_⟩, ?_, ?_⟩, fun q hq => ?_⟩
    · exact (sb.2 _ D.TIz).trans (hk _ _ D.TIz D.TITO D.TIi1 D.TIi2 g2)
    · exact (sb.2 _ D.TOz).trans ko
    · exact st1.1.at fun o e => (sb.2 _ D.i1z).trans e
    · exact st2.1.at fun o e => (sb.2 _ D.i2z).trans e
    · have hlt : q < s.heap.objs.size := by
        simp only [List.mem_cons, List.not_mem_nil, or_false] at hq
        rcases hq with rfl | rfl | rfl | rfl | rfl
        · exact lz
        · exact Heap.lt_size g2
        · exact Heap.lt_size g3
        · obtain ⟨_, e, _⟩ := g4; exact Heap.lt_size e
        · obtain ⟨_, e, _⟩ := g5; exact Heap.lt_size e
      rw [upd_ne (Nat.ne_of_lt hlt)]
      exact (hf q hq).1
  done := by
    intro X eP ew eK ec i pins s σ H E I hf st hg
    cases eP; cases ew; cases eK
    obtain ⟨g1, g2, ⟨x0, y0, g3⟩, g4, g5⟩ := st
    obtain ⟨xs, ys, sx, sy, l1, l2, l3⟩ := hg
    obtain ⟨its, rv, pl, _⟩ := I.list sx
    obtain ⟨jts, rw2, pt, _⟩ := I.tuple sy
    have hh : X.A.in1.handled = none := I.ok.hd ec
    have m1 : its.toArray.size = xs.length := by rw [rv.length]; simp
    have m2 : jts.toArray.size = ys.length := by rw [rw2.length]; simp
    exact wpAny_pyNext_zipD2_end (sepM D) (Draws.list hh j1 a D.l1i1 its.toArray) (Draws.tuple hh j2 b D.l2i2 jts.toArray) g1 g2 g3 ⟨g4, pl.isList⟩ ⟨g5, pt⟩ (by omega) (by omega) (by omega) fun hn tk hk =>
      ⟨rfl, I.turnedL (ch := [zp, ti, to, j1, j2]) (fun q o hq e => hk q o (fun z => hq (by simp [z])) (fun z => hq (by simp [z])) (fun z => hq (by simp [z])) (fun z => hq (by simp [z])) e) hf⟩
  self := fun A i s Q E st q => wpAny_pyIter_zip st.1 q
/-- for .. in zip(list, tuple) -/
def iZipM (K : PySem.W.Frag) (ta : TA) : TI := fun σ H R => ta σ H fun vs H1 => match vs with
  | [.ref a, .ref b] => ∃ xs ys, SqL K H1 a xs ∧ SqT K H1 b ys ∧ R (ItzM K a b) H1
  | _ => False
theorem pi_zipM {X : Cx} {e e2 : Expr} {ta : TA} {p pos tpos : Pos} {elts : List Expr} {kk : Nat} (hg : Gl X "zip") (hm : X.mg "zip" = none) (ha : PA X [e, e2] ta)
    (hs : starEach [e, e2] X.env = (false, eval e X.env) :: starEach [e2] X.env := by rfl) (hpl : (backTo pos (starEach [e2] X.env)).any (·.1) = false := by rfl) :
    PI X (.Tuple elts kk tpos) (.Call (.Name "zip" p) [e, e2] [] pos) (iZipM X.K ta) := by
  refine ⟨fun pins s σ H R I h => Call_ (ld_blt I hg hm PyProof.Rows.boot_zip (PyProof.Rows.callWith_type1 (thn (ha.run pos pins s σ H _ I h) fun us s1 ⟨vs, H1, I1, r1, q1⟩ => ?_) hs hpl))⟩
  dsimp only at q1
  split at q1
  · rename_i a b
    obtain ⟨xs, ys, sx, sy, q⟩ := q1
    cases r1 with
    | cons r t =>
     cases t with
     | cons r' t =>
      cases t
      cases r
      cases r'
      obtain ⟨its, rv, pl, _⟩ := I1.list sx
      obtain ⟨jts, rw2, pt, _⟩ := I1.tuple sy
      obtain ⟨o1, ho1, _⟩ := id pl.isList
      obtain ⟨o2, ho2, _⟩ := id pt
      have five : ∀ q, q ∈ [s1.heap.objs.size + 4, s1.heap.objs.size + 2, s1.heap.objs.size + 3, s1.heap.objs.size, s1.heap.objs.size + 1] → FpOk X pins H1 q := fun q hq => by
        have : s1.heap.objs.size ≤ q := by
          simp only [List.mem_cons, List.not_mem_nil, or_false] at hq
          omega
        exact I1.fpOk this (I1.hok.fresh this)
      refine zip_begins2 (begins_list a its.toArray) (begins_tuple b jts.toArray) pl.isList pt fun hn k1 k2 k3 k4 k5 _ hk => wpAny_pyIter_zip k1 ?_
      exact ⟨_, _, _, _, H1, rfl, I1.kept (t' := s1.toks) hk, turn_zipM (PySem.W.ktu_apart s1.heap.objs.size a b (Heap.lt_size ho1) (Heap.lt_size ho2)), ⟨k1, k2, ⟨_, _, k3⟩, ⟨_, k4, rfl, rfl⟩, ⟨_, k5, rfl, rfl⟩⟩, five, q⟩
  · exact q1.elim
/-- its loop -/
theorem loop_zipM {K : PySem.W.Frag} {a b : Addr} {xs ys : List V} {g : TG} {tb : TS} {D : Ends} {σ : L2.St} {H : Hp} (hl : xs.length = ys.length) (Pv : Nat → L2.St → Hp → Prop) (h0 : Pv 0 σ H) (hq : ∀ i σ H, Pv i σ H → SqL K H a xs ∧ SqT K H b ys)
    (hs : ∀ (i : Nat) (x y : V) (T : Addr) (σ : L2.St) (H : Hp), xs[i]? = some x → ys[i]? = some y → Pv i σ H → H T = none → g (.ref T) σ (upd H T (.tup [x, y])) fun σ2 H2 => tb { D with nx := Pv (i + 1), ct := Pv (i + 1), bk := D.nx } σ2 H2) (hd : ∀ σ H, Pv xs.length σ H → D.nx σ H) : Loop (ItzM K a b) g tb D σ H := by
  refine ⟨fun i m σ H => m = xs.length - i ∧ i ≤ xs.length ∧ Pv i σ H, ⟨_, rfl, Nat.zero_le _, h0⟩, fun i m σ H ⟨em, hi, hp⟩ => ?_⟩
  subst em
  obtain ⟨qx, qy⟩ := hq i σ H hp
  rcases Nat.lt_or_ge i xs.length with lt | ge
  · refine .inr ⟨⟨xs, ys, xs[i], ys[i]'(by omega), qx, qy, List.getElem?_eq_getElem _, List.getElem?_eq_getElem _⟩, Pv (i + 1), fun σ' H' p' => ⟨xs.length - (i + 1), by omega, rfl, lt, p'⟩, fun v H' ⟨T, x', y', e1, e2, e3, f1, f2⟩ => ?_⟩
    subst e1 e3
    exact hs i x' y' T σ H (f1 xs qx) (f2 ys qy) hp e2
  · have e : i = xs.length := by omega
    subst e
    exact .inl ⟨⟨xs, ys, qx, qy, Nat.le_refl _, by omega, .inl rfl⟩, hd σ H hp⟩
/-! ### dicts of the module whose values are tuples of scalars -/
def EntT (K : PySem.W.Frag) (d : Addr) : Str × Option (List V) → Prop
  | (z, none) => PySem.W.nsIn K d z = some none
  | (z, some xs) => ∃ a, PySem.W.nsIn K d z = some (some (.ref a)) ∧ ∀ H, SqT K H a xs
theorem entt_none {K : PySem.W.Frag} {d : Addr} {z : Str} (h : PySem.W.nsIn K d z = some none) : EntT K d (z, none) := h
theorem entt_tup {K : PySem.W.Frag} {d a : Addr} {z : Str} {xs : List V} {od : Option Addr} {its : Array Value} {n : Nat} {sl : Array (Option Value)} (h1 : PySem.W.nsIn K d z = some (some (.ref a))) (h2 : K.lookup a = some ⟨.type "tuple", od, .seq its n, sl⟩) (h3 : absVs its.toList = some xs) (h4 : its.size ≤ 1000) : EntT K d (z, some xs) :=
  ⟨a, h1, fun _ => .inr ⟨_, its, n, h2, rfl, rfl, Nat.le_trans h4 (by decide), absVs_rel h3⟩⟩
structure DTAt (K : PySem.W.Frag) (w : World) (d : Addr) (ks : List (Str × Option (List V))) : Prop where
  ex : ∃ es n, KDict K w d es n
  en : ∀ p ∈ ks, EntT K d p
def GDictT (K : PySem.W.Frag) (w : World) (mg : Str → Option Value) (x : Str) (ks : List (Str × Option (List V))) : Prop := ∃ d, mg x = some (.ref d) ∧ DTAt K w d ks
structure GDictTF (K : PySem.W.Frag) (w : World) (x : Str) (ks : List (Str × Option (List V))) : Prop where
  ex : ∃ d, PySem.W.nsIn K mainGlobals x = some (some (.ref d)) ∧ DTAt K w d ks
theorem GDictTF.of {K : PySem.W.Frag} {w : World} {x : Str} {ks : List (Str × Option (List V))} {d : Addr} {es : Array DictEntry} {n : Nat} (h1 : PySem.W.nsIn K mainGlobals x = some (some (.ref d))) (h2 : K.lookup d = some ⟨.type "dict", none, .dict es n, #[]⟩)
    (h3 : PySem.W.KeysLit w.params es.toList) (h4 : (d == sysModules) = false) (h5 : ∀ p ∈ ks, EntT K d p) : GDictTF K w x ks := ⟨d, h1, ⟨es, n, h2, h3, h4⟩, h5⟩
theorem GDictTF.get {K : PySem.W.Frag} {w : World} {mg : Str → Option Value} {x : Str} {ks : List (Str × Option (List V))} {h : Heap} (X : K.In h) (G : h.Ns mainGlobals mg) (F : GDictTF K w x ks) : GDictT K w mg x ks := by
  obtain ⟨d, h1, h2⟩ := F.ex
  exact ⟨d, PySem.W.mg_of X G h1, h2⟩
theorem entt_at {K : PySem.W.Frag} {d : Addr} {z : Str} {o : Option (List V)} : ∀ {ks : List (Str × Option (List V))}, (∀ p ∈ ks, EntT K d p) → ks.lookup z = some o → EntT K d (z, o)
  | [], _, h => by cases h
  | (y, p) :: ks, hk, h => by
    rw [List.lookup_cons] at h
    split at h
    · rename_i e
      cases h
      have e' := eq_of_beq e
      subst e'
      exact hk _ (List.mem_cons_self ..)
    · exact entt_at (fun q hq => hk q (List.mem_cons_of_mem _ hq)) h
def fGdT_ (K : PySem.W.Frag) (w : World) (ks : List (Str × Option (List V))) : TE := fun _ H Q => ∀ d, DTAt K w d ks → Q (.ref d) H
section
variable {X : Cx}
theorem fe_gdictT {x : Str} {pos : Pos} {ks : List (Str × Option (List V))} (hg : Gl X x) (h : GDictT X.K X.w X.mg x ks) (hd : (x == ("__debug__" : Str)) = false := by decide) : PE X (.Name x pos) (fGdT_ X.K X.w ks) := by
  obtain ⟨d, h, hs⟩ := h
  exact pe_wk (pe_glob hg h (v := .ref d) rfl hd) fun σ H Q q => q d hs
def fInDT (K : PySem.W.Frag) (w : World) : R2 := fun x y H Q => match x, y with
  | .str z, .ref d => ∃ ks o, DTAt K w d ks ∧ ks.lookup z = some o ∧ Q (.bl o.isSome) H
  | _, _ => False
theorem op_fInDT : OpR X (compareOp .In) (fInDT X.K X.w) := by
  intro pins s σ H x y v u Q I rx ry h
  match x, y, rx, ry, h with
  | .str z, .ref d, rx, ry, ⟨ks, o, D, e, q⟩ =>
    obtain ⟨es, n, kd⟩ := D.ex
    have en := entt_at D.en e
    cases o with
    | none => exact op_in_kd kd pins s σ H _ _ v u Q I rx ry ⟨z, none, rfl, rfl, en, q⟩
    | some xs =>
      obtain ⟨a, e0, _⟩ := en
      exact op_in_kd kd pins s σ H _ _ _ u Q I rx ry ⟨z, some (.ref a), rfl, rfl, e0, q⟩
def fIxDT (K : PySem.W.Frag) (w : World) : R2 := fun x y H Q => match x, y with
  | .ref d, .str z => ∃ ks xs, DTAt K w d ks ∧ ks.lookup z = some (some xs) ∧ ∀ a, (∀ H', SqT K H' a xs) → Q (.ref a) H
  | _, _ => False
theorem ix_fxDT : IxR X (fIxDT X.K X.w) := by
  intro e1 e2 pins s σ H x y v u Q I rx ry h hs
  match x, y, rx, ry, h with
  | .ref d, .str z, rx, ry, ⟨ks, xs, D, e, q⟩ =>
    obtain ⟨es, n, kd⟩ := D.ex
    obtain ⟨a, e0, r0⟩ := entt_at D.en e
    exact ix_kdict e1 e2 pins s σ H (.ref d) (.str z) v u Q I rx ry ⟨d, z, .ref a, rfl, rfl, ⟨es, n, .ref a, kd.at_, kd.lit, e0, rfl⟩, q a r0⟩ hs
end
end Fx
namespace Fx
open PySem PySem.Spec PyProof.Rows L2
section
variable {X : Cx} {o i e : Expr} {to ti te : TE} {tpos pos p1 p2 p3 : Pos} {k : Nat}
/-- xs[::-1] -/
def fRevL (K : PySem.W.Frag) (te : TE) : TE := fun σ H Q => te σ H fun x H1 => match x with
  | .ref a => ∃ xs, SqL K H1 a xs ∧ ∀ p H2, H1 p = none → Same H1 H2 → H2 p = some (.lst xs.reverse) → Q (.ref p) H2
  | _ => False
theorem fe_revL (he : PE X e te) : PE X (.Subscript e (.Slice none none (some (.UnaryOp .USub (.Constant (.int 1) k p1) p2)) p3) pos) (fRevL X.K te) :=
  pe_wk (pe_revL (pe_clos he)) fun σ H Q q => ⟨_, q, fun x H1 q => by
    split at q
    · rename_i a
      obtain ⟨xs, h, q⟩ := q
      exact ⟨a, xs, rfl, h, fun p np => q p _ np (same_new np) upd_same⟩
    · exact q.elim⟩
/-- del xs[i] -/
def sDelL (to ti : TE) : TS := fun D σ H => to σ H fun x H1 => ti σ H1 fun y H2 => match x, y with
  | .ref l, .int i => ∃ xs, ∃ n : Nat, H2 l = some (.lst xs) ∧ i = (n : Nat) ∧ n < xs.length ∧ n < 1000000 ∧ D.nx σ (upd H2 l (.lst (xs.eraseIdx n)))
  | _, _ => False
theorem fs_delL (ho : PE X o to) (hi : PE X i ti) : PS X (.Delete [.Subscript o i tpos] pos) (sDelL to ti) :=
  ps_wk (ps_delL (pe_clos ho) (pe_clos hi)) fun D σ H q => ⟨_, q, fun x H1 q => ⟨_, q, fun y H2 q => by
    split at q
    · obtain ⟨xs, n, h1, rfl, h2, h3, q⟩ := q
      refine ⟨_, xs, _, n, rfl, rfl, h1, by omega, by omega, ?_, q⟩
      unfold seqIndex?
      simp
      omega
    · exact q.elim⟩⟩
/-- for at, x in enumerate(xs) -/
def iEnum_ (K : PySem.W.Frag) (ta : TA) : TI := fun σ H R => ta σ H fun vs H1 => match vs with
  | [.ref a] => (∃ xs, SqL K H1 a xs) ∧ R (Ite K a) H1
  | _ => False
theorem pi_enum_ {ta : TA} {p pos tpos : Pos} {elts : List Expr} {kk : Nat} (hg : Gl X "enumerate") (hm : X.mg "enumerate" = none) (ha : PA X [e] ta) (hs : starEach [e] X.env = [(false, eval e X.env)] := by rfl) : PI X (.Tuple elts kk tpos) (.Call (.Name "enumerate" p) [e] [] pos) (iEnum_ X.K ta) :=
  ⟨fun pins s σ H R I h => (pi_enum hg hm (pa_clos ha) hs).run pins s σ H R I ⟨_, h, fun vs H1 q => by
    split at q
    · obtain ⟨⟨xs, h⟩, q⟩ := q
      exact ⟨_, xs, rfl, h, q⟩
    · exact q.elim⟩⟩
/-- list + list and the like in comprehensions over enumerate -/
theorem lcx_enum {K : PySem.W.Frag} {a : Addr} {xs : List V} {g : TG} {tt : TT} {te : TE} {vs : List Nat} {σ : L2.St} {H1 : Hp} {D : Addr} {Q : VK} (Pv : Nat → Hp → Prop) (h0 : Pv 0 (upd H1 D (.lst []))) (hl : ∀ i H, i ≤ xs.length → Pv i H → SqL K H a xs)
    (hs : ∀ (i : Nat) x T H H', xs[i]? = some x → Pv i H → H T = none → H' = upd H T (.tup [.int (i : Nat), x]) → g (.ref T) (wipe σ vs) H' fun σ2 H2 => wipe σ2 vs = wipe σ vs ∧ tt σ2 H2 fun b H3 =>
      if b = true then te σ2 H3 fun y H4 => ∃ acc, H4 D = some (.lst acc) ∧ acc.length < sizeLine ∧ Pv (i + 1) (upd H4 D (.lst (acc ++ [y]))) else Pv (i + 1) H3) (hd : ∀ H, Pv xs.length H → Q (.ref D) H) : Lc (Ite K a) g tt te vs σ H1 D Q :=
  lc_it walk_enum Pv h0 hl (fun i x H H' hi p y => by
    obtain ⟨T, u, v, e1, e2, e3, e4, e5⟩ := y
    cases e4
    subst e1
    exact hs i v T H H' e5 p e2 e3) hd
end
end Fx
namespace Fx
open PySem PySem.Spec PyProof.Rows L2
/-- a op1 b op2 c op3 d, as a test -/
def tChain3 (r1 r2 r3 : R2) (ta tb tc td : TE) : TT := fun σ H Q => ta σ H fun x H1 => tb σ H1 fun y H2 => r1 x y H2 fun v1 H3 => ∃ k, v1 = .bl k ∧ if k = true then tc σ H3 fun z H4 => r2 y z H4 fun v2 H5 => ∃ j, v2 = .bl j ∧ (if j = true then td σ H5 fun u H6 => r3 z u H6 fun v3 H7 => ∃ i, v3 = .bl i ∧ Q i H7 else Q false H5) else Q false H3
theorem pt_chain3 {X : Cx} {o1 o2 o3 : CmpOp} {r1 r2 r3 : R2} {a b c d : Expr} {ta tb tc td : TE} {pos : Pos} (h1 : OpR X (compareOp o1) r1) (h2 : OpR X (compareOp o2) r2) (h3 : OpR X (compareOp o3) r3) (ha : PE X a ta) (hb : PE X b tb) (hc : PE X c tc) (hd : PE X d td)
    (hm : lastMarks [o1, o2, o3] [b, c, d] = false := by with_unfolding_all rfl) : PT X (.Compare a [o1, o2, o3] [b, c, d] pos) (tChain3 r1 r2 r3 ta tb tc td) :=
  ⟨fun pins s σ H Q I h => isTrue_chain (thn (ha.run pins s σ H _ I h) fun v s1 ⟨x, H1, I1, e1, q1⟩ => test_link (thn (hb.run pins s1 σ H1 _ I1 q1) fun u s2 ⟨y, H2, I2, e2, q2⟩ =>
    thn (h1 pins s2 σ H2 x y v u _ I2 e1 e2 q2) fun t s3 ⟨z, H3, I3, e3, k, ek, q3⟩ => by
      subst ek
      cases e3
      refine wpAny_truthy_bool ?_
      cases k with
      | false => exact ite_ff ⟨H3, I3, q3⟩
      | true =>
        refine ite_tt (test_link (thn (hc.run pins s3 σ H3 _ I3 q3) fun v4 s4 ⟨z4, H4, I4, e4, q4⟩ => thn (h2 pins s4 σ H4 y z4 u v4 _ I4 e2 e4 q4) fun t5 s5 ⟨z5, H5, I5, e5, j, ej, q5⟩ => ?_))
        subst ej
        cases e5
        refine wpAny_truthy_bool ?_
        cases j with
        | false => exact ite_ff ⟨H5, I5, q5⟩
        | true =>
          refine ite_tt (test_last (thn (hd.run pins s5 σ H5 _ I5 q5) fun v6 s6 ⟨z6, H6, I6, e6, q6⟩ => thn (h3 pins s6 σ H6 z4 z6 v4 v6 _ I6 e4 e6 q6) fun t7 s7 ⟨z7, H7, I7, e7, i, ei, q7⟩ => ?_))
          subst ei
          cases e7
          exact wpAny_truthy_bool ⟨H7, I7, q7⟩)) hm⟩
end Fx
namespace Fx
open PySem PySem.Spec PyProof.Rows L2
theorem pg_tupK {X : Cx} {K : PySem.W.Frag} {es : List Expr} {k : Nat} {t : TGs} {n : Nat} {pos : Pos} (hK : X.K = K) (hc : X.calm = true) (h : PGs X es t) (hn : (assignEach es X.env).length = n := by rfl) (hst : (assignEach es X.env).findIdx? (·.1) = none := by rfl) : PG X (.Tuple es k pos) (gTup K n t) := hK ▸ pg_tup hc h hn hst
end Fx
namespace Fx
open PySem PySem.Spec PyProof.Rows L2
/-- what follows an expression is a word of its own -/
theorem cute_ {t : TE} {σ : L2.St} {H : Hp} {Q : VK} (h : ∀ N : VK, (∀ v H1, Q v H1 → N v H1) → t σ H N) : t σ H Q := h _ fun _ _ x => x
end Fx
namespace Fx
open PySem PySem.Spec PyProof.Rows L2
def fClear : V → List V → Hp → VK → Prop := fun x vs H Q => match x, vs with
  | .ref l, [] => match H l with
    | some (.lst _) => Q .non (upd H l (.lst []))
    | _ => False
  | _, _ => False
theorem mt_fClear {X : Cx} : MtR X "list.clear" fClear := by
  intro pins s σ H x xs v us Q I rx rs h
  unfold fClear at h
  split at h
  · split at h
    · exact mt_clear pins s σ H _ _ v us Q I rx rs ⟨_, _, rfl, rfl, by assumption, h⟩
    · exact h.elim
  · exact h.elim
end Fx

set_option Elab.async false
set_option linter.all false
set_option maxRecDepth 100000
set_option maxHeartbeats 1000000
/-! Hd: heads: what the top leaves, read off by one run of the kernel. -/
namespace Hd
open PySem PySem.Spec PyProof.Rows L2 Fx
/-! ### facts as tests -/
def opB (K : PySem.W.Frag) (C : Addr) : Bool := PySem.W.plainGet K C Str.empty && (PySem.W.hasDictIn K C && (PySem.W.plainOver K C && (decide (PySem.W.findIn K (.ref C) "__setattr__" = some (some (.builtin "object.__setattr__"))) &&
  (decide (PySem.W.findIn K (.ref C) "__class__" = some (some (.builtin "object.__class__"))) && (decide (PySem.W.mroIn K C (.type "object") = some true) && (PySem.W.makesIn K C && PySem.W.keepIn K (.ref C)))))))
theorem opB_ok {K : PySem.W.Frag} {C : Addr} (h : opB K C = true) : ClsFact K C := by
  simp only [opB, Bool.and_eq_true, decide_eq_true_eq] at h
  obtain ⟨h1, h2, h3, h4, h5, h6, h7, h8⟩ := h
  exact ⟨h1, h2, h3, h4, h5, h6, h7, h8⟩
/-- an exception class of the program -/
def exB (K : PySem.W.Frag) (C : Addr) : Bool := (match K.lookup C with
  | some ⟨.type t, _, .cls cd, sl⟩ => decide (t = "type") && (match cd.mro, sl.toList with
    | .ref D :: bm, [_, _, _, _, some (.builtin n), _] => decide (D = C) && (decide (n = "ValueError.__new__") && (!cd.hasDel && (cd.hasDict && PySem.HandSPX.refsVE bm)))
    | _, _ => false)
  | _ => false) && (decide (PySem.W.findIn K (.ref C) "__setattr__" = some (some (.builtin "object.__setattr__"))) && (decide (PySem.W.findIn K (.ref C) "__getattribute__" = some (some (.builtin "BaseException.__getattribute__"))) &&
  (decide (PySem.W.findIn K (.ref C) "__getattr__" = some none) && (decide (PySem.W.subIn K (.ref C) (.type "BaseException") = some true) && (decide (PySem.W.typeIn K (.ref C) = some (.type "type")) && (PySem.W.keepIn K (.ref C) && (PySem.W.hasDictIn K C &&
  (decide (PySem.W.findIn K (.ref C) "__class__" = some (some (.builtin "object.__class__"))) && decide (PySem.W.mroIn K C (.type "object") = some true)))))))))
theorem exB_ok {K : PySem.W.Frag} {C : Addr} (h : exB K C = true) : ExcFact K C := by
  obtain ⟨h0, h⟩ := Bool.and_eq_true_iff.mp h
  simp only [Bool.and_eq_true, decide_eq_true_eq] at h
  obtain ⟨h1, h2, h3, h4, h5, h6, h7, h8, h9⟩ := h
  refine ⟨?_, h1, h2, h3, h4, h5, h6, h7, h8, h9⟩
  split at h0
  · rename_i t dd cd sl lk
    obtain ⟨g1, g2⟩ := Bool.and_eq_true_iff.mp h0
    have g1 := of_decide_eq_true g1
    subst g1
    split at g2
    · rename_i D bm k0 k1 k2 k3 n k5 hm hs
      simp only [Bool.and_eq_true, decide_eq_true_eq, Bool.not_eq_true'] at g2
      obtain ⟨rfl, rfl, e3, e4, e5⟩ := g2
      obtain ⟨nm, bs, mro, ns, qn, hd, sn, sub, ab, col, del⟩ := cd
      obtain ⟨sl⟩ := sl
      dsimp only at hm hs e3 e4
      subst hm hs e3 e4
      exact ⟨_, _, _, _, _, _, _, _, _, _, _, _, _, _, _, lk, e5⟩
    · cases g2
  · cases h0
/-- the getter of a property -/
def pa (K : PySem.W.Frag) (C : Addr) (x : Str) : Addr := match PySem.W.recIn K (He.ma K C x) "property" with
  | some (.ref f :: _) => f
  | _ => 0
/-- a name that stands for nothing, an object, a number, a text, a tuple -/
inductive Fh where
  | glo (x : Str)
  | free (x : Str)
  | int (x : Str) (i : Int)
  | str (x z : Str)
  | tup (x : Str) (vs : List V)
  | cls (x : Str)
  | exc (x : Str)
  | noat (x f : Str)
  | sub (x y : Str) (b : Bool)
  | kit (x y : Str) (b : Bool)
  | kio (x y : Str)
  | kib (n : String) (y : Str)
  | kob (x : Str) (n : String)
  | obj
  | ne (x y : Str)
  | keep (x : Str)
  | meth (x m : Str)
  | init (x : Str)
  | prop (x m : Str)
  | dict (x : Str) (ks : List (Str × Option V))
  | dicT (x : Str) (ks : List (Str × Option (List V)))
def entB (K : PySem.W.Frag) (d : Addr) : Str × Option V → Bool
  | (z, none) => He.eqO (PySem.W.nsIn K d z) (some none)
  | (z, some v) => match PySem.W.nsIn K d z with
    | some (some u) => He.relB v u
    | _ => false
def tupAt (K : PySem.W.Frag) (a : Addr) (vs : List V) : Bool := match K.lookup a with
  | some ⟨.type c, _, .seq its _, _⟩ => decide (c = "tuple") && (decide (its.size ≤ 1000) && He.relAll vs its.toList)
  | _ => false
def enTB (K : PySem.W.Frag) (d : Addr) : Str × Option (List V) → Bool
  | (z, none) => He.eqO (PySem.W.nsIn K d z) (some none)
  | (z, some vs) => match PySem.W.nsIn K d z with
    | some (some (.ref a)) => tupAt K a vs
    | _ => false
def dicB (K : PySem.W.Frag) (d : Addr) : Bool := (match K.lookup d with
  | some ⟨.type c, none, .dict _ _, sl⟩ => decide (c = "dict") && decide (sl.toList.length = 0)
  | _ => false) && !(d == sysModules)
open He (ga ma eqO)
def Fh.ok (K : PySem.W.Frag) : Fh → Bool
  | .glo x => eqO (PySem.W.nsIn K mainGlobals x) (some (some (.ref (ga K x))))
  | .free x => eqO (PySem.W.nsIn K mainGlobals x) (some none)
  | .int x i => (match PySem.W.nsIn K mainGlobals x with
    | some (some u) => He.relB (.int i) u
    | _ => false)
  | .str x z => (match PySem.W.nsIn K mainGlobals x with
    | some (some u) => He.relB (.str z) u
    | _ => false)
  | .tup x vs => tupAt K (ga K x) vs
  | .cls x => opB K (ga K x)
  | .exc x => exB K (ga K x)
  | .noat x f => eqO (PySem.W.findIn K (.ref (ga K x)) f) (some none)
  | .sub x y b => decide (PySem.W.subIn K (.ref (ga K x)) (.ref (ga K y)) = some b)
  | .kit x y b => decide (PySem.W.kitOne K (.ref (ga K x)) (.ref (ga K y)) = some b)
  | .kio x y => decide (PySem.W.kitOne K (.ref (ga K x)) (.ref (ga K y)) = some (decide (ga K x = ga K y)))
  | .kib n y => decide (PySem.W.kitOne K (.type n) (.ref (ga K y)) = some false)
  | .kob x n => decide (PySem.W.kitOne K (.ref (ga K x)) (.type n) = some false)
  | .obj => decide (PySem.W.specialIn K (.builtin "object.__class__") "__get__" = some (some (.builtin "getset_descriptor.__get__"))) && decide (PySem.W.takesIn K (.builtin "object.__class__") = some true)
  | .ne x y => decide (ga K x ≠ ga K y)
  | .keep x => PySem.W.keepIn K (.ref (ga K x))
  | .meth x m => eqO (PySem.W.findIn K (.ref (ga K x)) m) (some (some (.ref (ma K (ga K x) m)))) && (PySem.W.keepIn K (.ref (ma K (ga K x) m)) && PySem.W.isFn K (.ref (ma K (ga K x) m)))
  | .init x => eqO (PySem.W.findIn K (.ref (ga K x)) "__init__") (some (some (.ref (ma K (ga K x) "__init__")))) && (PySem.W.keepIn K (.ref (ma K (ga K x) "__init__")) && decide (PySem.W.typeIn K (.ref (ma K (ga K x) "__init__")) = some (.type "function")))
  | .prop x m => eqO (PySem.W.findIn K (.ref (ga K x)) m) (some (some (.ref (ma K (ga K x) m)))) && (decide (PySem.W.specialIn K (.ref (ma K (ga K x) m)) "__get__" = some (some (.builtin "property.__get__"))) && (decide (PySem.W.takesIn K (.ref (ma K (ga K x) m)) = some true) &&
    ((match PySem.W.recIn K (ma K (ga K x) m) "property" with
      | some (.ref _ :: _) => true
      | _ => false) && PySem.W.keepIn K (.ref (pa K (ga K x) m)))))
  | .dict x ks => dicB K (ga K x) && ks.all (entB K (ga K x))
  | .dicT x ks => dicB K (ga K x) && ks.all (enTB K (ga K x))
/-! ### functions -/
inductive At_ where
  | glo (x : Str)
  | meth (x m : Str)
  | prop (x m : Str)
def At_.ad (K : PySem.W.Frag) : At_ → Addr
  | .glo x => ga K x
  | .meth x m => ma K (ga K x) m
  | .prop x m => pa K (ga K x) m
structure Df where
  at_ : At_
  name : Str
  qual : Str
  st : Stmt
abbrev FV : Type := Option (Str × Str × Arguments × FuncBody × Scope × Addr × List (Str × Addr) × Value × Addr)
def fv (K : PySem.W.Frag) (a : Addr) : FV := match K.lookup a with
  | some o => match o.data with
    | .func g => some (g.name, g.qualname, g.params, g.body, g.scope, g.globals, g.closure, g.defaults, g.builtins)
    | _ => none
  | none => none
def fc (K : PySem.W.Frag) (a : Addr) (q : Str) : Bool := match K.lookup a with
  | some o => match o.data with
    | .func g => PySem.W.codeIn K g.code q
    | _ => false
  | none => false
def Df.val (d : Df) : FV := some (d.name, d.qual, defArgs d.st, .stmts (defBody d.st), defScope d.st, mainGlobals, [], .none, builtinsNs)
theorem fv_ok {K : PySem.W.Frag} {a : Addr} {d : Df} (e : fv K a = d.val) (c : fc K a d.qual = true) :
    ∃ oc od sl kV dc pm an cd ct, K.lookup a = some ⟨oc, od, .func (PySem.W.fnOf d.name d.qual (defArgs d.st) (defBody d.st) (defScope d.st) .none kV dc pm an cd ct), sl⟩ ∧ PySem.W.codeIn K cd d.qual = true := by
  unfold fv at e
  unfold fc at c
  split at e
  · rename_i o lk
    rw [lk] at c
    obtain ⟨oc, od, dt, sl⟩ := o
    dsimp only at e c
    split at e
    · rename_i g
      obtain ⟨m1, m2, m3, m4, m5, m6, m7, m8, m9, m10, m11, m12, m13, m14, m15⟩ := g
      unfold Df.val at e
      simp only [Option.some.injEq, Prod.mk.injEq] at e
      obtain ⟨g1, g2, g3, g4, g5, g6, g7, g8, g9⟩ := e
      subst g1 g2 g3 g4 g5 g6 g7 g8 g9
      exact ⟨oc, od, sl, m9, m10, m11, m12, m13, m14, lk, c⟩
    · cases e
  · cases e
/-! ### dicts: their keys -/
def keyT (e : DictEntry) : Int × Option Str := (e.hash, match e.key with | .str x _ => some x | _ => none)
def dk (K : PySem.W.Frag) (d : Addr) : List (Int × Option Str) := match K.lookup d with
  | some o => match o.data with
    | .dict es _ => es.toList.map keyT
    | _ => []
  | none => []
theorem keys_lit {P : Params} : ∀ {es : List DictEntry} {ks : List Str}, es.map keyT = ks.map (fun z => (PyData.keyHash P z, some z)) → PySem.W.KeysLit P es
  | [], _, _ => trivial
  | e :: es, [], h => by cases h
  | e :: es, k :: ks, h => by
    rw [List.map_cons, List.map_cons] at h
    obtain ⟨h1, h2⟩ := List.cons.inj h
    unfold keyT at h1
    obtain ⟨h3, h4⟩ := Prod.mk.inj h1
    refine ⟨?_, keys_lit h2⟩
    split at h4
    · rename_i x t ek
      cases h4
      exact ⟨k, t, ek, h3⟩
    · cases h4
/-! ### the Hook -/
/-- what these objects reach in n steps, front by front -/
def asF (g : Addr → Option Obj) : Nat → List Addr → List Addr
  | 0, fr => fr
  | n + 1, fr => fr ++ asF g n (fr.flatMap fun a => match g a with
    | some o => He.refsD o
    | none => [])
/-- what these names of the module reach -/
def asN (g : Addr → Option Obj) (n : Nat) (xs : List Str) : List Addr := mainGlobals :: asF g n (xs.map (He.ga (He.frG g [mainGlobals])))
abbrev Al : Type := Bool × List FV × List (List (Int × Option Str))
def obsK (fa : List Fh) (fn : List Df) (ds : List (Str × List Str)) (K : PySem.W.Frag) : Al := ((fa.all fun f => f.ok K) && fn.all fun d => fc K (d.at_.ad K) d.qual, fn.map fun d => fv K (d.at_.ad K), ds.map fun d => dk K (ga K d.1))
def valK (w : World) (fn : List Df) (ds : List (Str × List Str)) : Al := (true, fn.map Df.val, ds.map fun d => d.2.map fun z => (PyData.keyHash w.params z, some z))
def Says (fa : List Fh) (fn : List Df) (ds : List (Str × List Str)) (w : World) (K : PySem.W.Frag) : Prop := obsK fa fn ds K = valK w fn ds
def obsG (n : Nat) (xs : List Str) (fa : List Fh) (fn : List Df) (ds : List (Str × List Str)) (g : Addr → Option Obj) : Al := obsK fa fn ds (He.frG g (asN g n xs))
def hook (n : Nat) (xs : List Str) (fa : List Fh) (fn : List Df) (ds : List (Str × List Str)) : PySem.W.Hook where
  α := Al
  obs := fun s => obsG n xs fa fn ds s.heap.get?
  val := fun w => valK w fn ds
  says := fun w h => ∃ K : PySem.W.Frag, K.In h ∧ Says fa fn ds w K
  of := fun _ _ e => ⟨_, He.frG_in, e⟩
  keeps := fun _ _ _ ⟨K, hK, c⟩ k => ⟨K, PySem.W.Frag.In.keeps hK k, c⟩
theorem obsG_eq {n : Nat} {xs : List Str} {fa : List Fh} {fn : List Df} {ds : List (Str × List Str)} {g : Addr → Option Obj} {s : Shared} (h : ∀ a, g a = s.heap.get? a) : obsG n xs fa fn ds g = (hook n xs fa fn ds).obs s := by
  rw [funext h]; rfl
section
variable {fa : List Fh} {fn : List Df} {ds : List (Str × List Str)} {K : PySem.W.Frag} {w : World}
theorem Says.fact (c : Says fa fn ds w K) (i : Nat) {f : Fh} (h : fa[i]? = some f) : f.ok K = true := by
  have c1 : ((fa.all fun f => f.ok K) && fn.all fun d => fc K (d.at_.ad K) d.qual) = true := congrArg (fun z : Al => z.1) c
  exact List.all_eq_true.mp (Bool.and_eq_true_iff.mp c1).1 f (List.mem_of_getElem? h)
theorem Says.def_ (c : Says fa fn ds w K) (i : Nat) {d : Df} (h : fn[i]? = some d) : ∃ oc od sl kV dc pm an cd ct, K.lookup (d.at_.ad K) = some ⟨oc, od, .func (PySem.W.fnOf d.name d.qual (defArgs d.st) (defBody d.st) (defScope d.st) .none kV dc pm an cd ct), sl⟩ ∧ PySem.W.codeIn K cd d.qual = true := by
  have c1 : ((fa.all fun f => f.ok K) && fn.all fun d => fc K (d.at_.ad K) d.qual) = true := congrArg (fun z : Al => z.1) c
  have c2 : fn.map (fun d => fv K (d.at_.ad K)) = fn.map Df.val := congrArg (fun z : Al => z.2.1) c
  have e : (fn.map fun d => fv K (d.at_.ad K))[i]? = (fn.map Df.val)[i]? := by rw [c2]
  rw [List.getElem?_map, List.getElem?_map, h] at e
  exact fv_ok (Option.some.inj e) (List.all_eq_true.mp (Bool.and_eq_true_iff.mp c1).2 d (List.mem_of_getElem? h))
theorem Says.dic (c : Says fa fn ds w K) (i : Nat) {d : Str × List Str} (h : ds[i]? = some d) : dk K (ga K d.1) = d.2.map fun z => (PyData.keyHash w.params z, some z) := by
  have c2 : ds.map (fun d => dk K (ga K d.1)) = ds.map fun d => d.2.map fun z => (PyData.keyHash w.params z, some z) := congrArg (fun z : Al => z.2.2) c
  have e : (ds.map fun d => dk K (ga K d.1))[i]? = (ds.map fun d => d.2.map fun z => (PyData.keyHash w.params z, some z))[i]? := by rw [c2]
  rw [List.getElem?_map, List.getElem?_map, h] at e
  exact Option.some.inj e
/-! ### what the walks ask -/
theorem glo_ {x : Str} (h : (Fh.glo x).ok K = true) : PySem.W.nsIn K mainGlobals x = some (some (.ref (ga K x))) := He.eqO_ok h
theorem free_ {x : Str} (h : (Fh.free x).ok K = true) : PySem.W.nsIn K mainGlobals x = some none := He.eqO_ok h
theorem int_ {x : Str} {i : Int} (h : (Fh.int x i).ok K = true) : ∃ t, PySem.W.nsIn K mainGlobals x = some (some (.int i t)) := by
  have h' : (match PySem.W.nsIn K mainGlobals x with | some (some u) => He.relB (.int i) u | _ => false) = true := h
  split at h'
  · rename_i u e
    obtain ⟨t, rfl⟩ := He.relB_ok h'
    exact ⟨t, e⟩
  · cases h'
theorem str_ {x z : Str} (h : (Fh.str x z).ok K = true) : ∃ t, PySem.W.nsIn K mainGlobals x = some (some (.str z t)) := by
  have h' : (match PySem.W.nsIn K mainGlobals x with | some (some u) => He.relB (.str z) u | _ => false) = true := h
  split at h'
  · rename_i u e
    obtain ⟨t, rfl⟩ := He.relB_ok h'
    exact ⟨t, e⟩
  · cases h'
theorem tupAt_ok {a : Addr} {vs : List V} (h : tupAt K a vs = true) : ∀ H, SqT K H a vs := fun H => by
  unfold tupAt at h
  split at h
  · rename_i cc od its n sl lk
    simp only [Bool.and_eq_true, decide_eq_true_eq] at h
    obtain ⟨rfl, h2, h3⟩ := h
    exact .inr ⟨_, its, n, lk, rfl, rfl, Nat.le_trans h2 (by decide), He.relAll_ok h3⟩
  · cases h
/-- a tuple of the module, by its address -/
theorem tup_get {mg : Str → Option Value} {hp : Heap} {x : Str} {vs : List V} (X : K.In hp) (G : hp.Ns mainGlobals mg) (g : (Fh.glo x).ok K = true) (h : (Fh.tup x vs).ok K = true) : GTup K mg x vs := ⟨ga K x, PySem.W.mg_of X G (glo_ g), tupAt_ok h⟩
theorem cls_ {x : Str} (h : (Fh.cls x).ok K = true) : ClsFact K (ga K x) := opB_ok h
theorem exc_ {x : Str} (h : (Fh.exc x).ok K = true) : ExcFact K (ga K x) := exB_ok h
theorem noat_ {x f : Str} (h : (Fh.noat x f).ok K = true) : PySem.W.findIn K (.ref (ga K x)) f = some none := He.eqO_ok h
theorem sub_ {x y : Str} {b : Bool} (h : (Fh.sub x y b).ok K = true) : PySem.W.subIn K (.ref (ga K x)) (.ref (ga K y)) = some b := of_decide_eq_true h
theorem kit_ {x y : Str} {b : Bool} (h : (Fh.kit x y b).ok K = true) : PySem.W.kitOne K (.ref (ga K x)) (.ref (ga K y)) = some b := of_decide_eq_true h
theorem kio_ {x y : Str} (h : (Fh.kio x y).ok K = true) : PySem.W.kitOne K (.ref (ga K x)) (.ref (ga K y)) = some (decide (ga K x = ga K y)) := of_decide_eq_true h
theorem kib_ {n : String} {y : Str} (h : (Fh.kib n y).ok K = true) : PySem.W.kitOne K (.type n) (.ref (ga K y)) = some false := of_decide_eq_true h
theorem kob_ {x : Str} {n : String} (h : (Fh.kob x n).ok K = true) : PySem.W.kitOne K (.ref (ga K x)) (.type n) = some false := of_decide_eq_true h
theorem obj_ (h : Fh.obj.ok K = true) : ObjFact K := by
  have h : (decide (PySem.W.specialIn K (.builtin "object.__class__") "__get__" = some (some (.builtin "getset_descriptor.__get__"))) && decide (PySem.W.takesIn K (.builtin "object.__class__") = some true)) = true := h
  obtain ⟨h1, h2⟩ := Bool.and_eq_true_iff.mp h
  exact ⟨of_decide_eq_true h1, of_decide_eq_true h2⟩
theorem ne_ {x y : Str} (h : (Fh.ne x y).ok K = true) : ga K x ≠ ga K y := of_decide_eq_true h
theorem fn_ {x : Str} {qual : Str} {st : Stmt} (c : Says fa fn ds w K) (i j k : Nat) (h : fn[i]? = some ⟨.glo x, x, qual, st⟩) (g : fa[j]? = some (.glo x)) (p : fa[k]? = some (.keep x)) : FnFact K x qual st := by
  obtain ⟨oc, od, sl, kV, dc, pm, an, cd, ct, l, e⟩ := c.def_ i h
  exact FnFact.of (glo_ (c.fact j g)) l e (c.fact k p)
theorem meth_ {x m : Str} {qual : Str} {st : Stmt} (c : Says fa fn ds w K) (i j : Nat) (h : fn[i]? = some ⟨.meth x m, m, qual, st⟩) (g : fa[j]? = some (.meth x m)) : MFact K (ga K x) m qual st := by
  obtain ⟨oc, od, sl, kV, dc, pm, an, cd, ct, l, e⟩ := c.def_ i h
  have g := c.fact j g
  obtain ⟨g1, g⟩ := Bool.and_eq_true_iff.mp g
  obtain ⟨g2, g3⟩ := Bool.and_eq_true_iff.mp g
  exact MFact.of (He.eqO_ok g1) l e g2 g3
theorem init_ {x : Str} {qual : Str} {st : Stmt} (c : Says fa fn ds w K) (i j : Nat) (h : fn[i]? = some ⟨.meth x "__init__", "__init__", qual, st⟩) (g : fa[j]? = some (.init x)) : EFact K (ga K x) qual st := by
  obtain ⟨oc, od, sl, kV, dc, pm, an, cd, ct, l, e⟩ := c.def_ i h
  have g := c.fact j g
  obtain ⟨g1, g⟩ := Bool.and_eq_true_iff.mp g
  obtain ⟨g2, g3⟩ := Bool.and_eq_true_iff.mp g
  exact EFact.of (He.eqO_ok g1) l e g2 (of_decide_eq_true g3)
theorem prop_ {x m : Str} {qual : Str} {st : Stmt} (c : Says fa fn ds w K) (i j : Nat) (h : fn[i]? = some ⟨.prop x m, m, qual, st⟩) (g : fa[j]? = some (.prop x m)) : PFact K (ga K x) m qual st := by
  obtain ⟨oc, od, sl, kV, dc, pm, an, cd, ct, l, e⟩ := c.def_ i h
  have g := c.fact j g
  obtain ⟨g1, g⟩ := Bool.and_eq_true_iff.mp g
  obtain ⟨g2, g⟩ := Bool.and_eq_true_iff.mp g
  obtain ⟨g3, g⟩ := Bool.and_eq_true_iff.mp g
  obtain ⟨g4, g5⟩ := Bool.and_eq_true_iff.mp g
  have l : K.lookup (pa K (ga K x) m) = _ := l
  have g5 : PySem.W.keepIn K (.ref (pa K (ga K x) m)) = true := g5
  split at g4
  · rename_i f rest er
    have ep : pa K (ga K x) m = f := by unfold pa; rw [er]
    rw [ep] at l g5
    exact PFact.of (He.eqO_ok g1) (of_decide_eq_true g2) (of_decide_eq_true g3) er l e g5
  · cases g4
theorem dic_ent {d : Addr} : ∀ {ks : List (Str × Option V)}, ks.all (entB K d) = true → ∀ p ∈ ks, EntOk K d p := fun h p m => by
  have h1 := List.all_eq_true.mp h p m
  obtain ⟨z, o⟩ := p
  cases o with
  | none => exact He.eqO_ok h1
  | some v =>
    have h2 : (match PySem.W.nsIn K d z with | some (some u) => He.relB v u | _ => false) = true := h1
    split at h2
    · rename_i u e
      exact ⟨u, e, He.relB_ok h2⟩
    · cases h2
theorem dic_enT {d : Addr} : ∀ {ks : List (Str × Option (List V))}, ks.all (enTB K d) = true → ∀ p ∈ ks, EntT K d p := fun h p m => by
  have h1 := List.all_eq_true.mp h p m
  obtain ⟨z, o⟩ := p
  cases o with
  | none => exact He.eqO_ok h1
  | some v =>
    have h2 : (match PySem.W.nsIn K d z with | some (some (.ref a)) => tupAt K a v | _ => false) = true := h1
    split at h2
    · rename_i a e
      exact ⟨a, e, tupAt_ok h2⟩
    · cases h2
theorem dic_at {x : Str} {ks : List Str} (e : dk K (ga K x) = ks.map fun z => (PyData.keyHash w.params z, some z)) (h : dicB K (ga K x) = true) : ∃ es n, KDict K w (ga K x) es n := by
  obtain ⟨h1, h2⟩ := Bool.and_eq_true_iff.mp h
  unfold dk at e
  split at h1
  · rename_i cc es n sl lk
    rw [lk] at e
    simp only [Bool.and_eq_true, decide_eq_true_eq] at h1
    obtain ⟨rfl, h3⟩ := h1
    have h4 : sl = #[] := by
      obtain ⟨sl⟩ := sl
      have : sl = [] := List.eq_nil_of_length_eq_zero h3
      rw [this]
    subst h4
    exact ⟨es, n, lk, keys_lit e, by simpa using h2⟩
  · cases h1
theorem dict_ {x : Str} {ks : List Str} {es : List (Str × Option V)} (c : Says fa fn ds w K) (i j k : Nat) (h : ds[i]? = some (x, ks)) (g : fa[j]? = some (.glo x)) (p : fa[k]? = some (.dict x es)) : GDictF K w x es := by
  obtain ⟨p1, p2⟩ := Bool.and_eq_true_iff.mp (c.fact k p)
  exact ⟨_, glo_ (c.fact j g), dic_at (c.dic i h) p1, dic_ent p2⟩
theorem dicT_ {x : Str} {ks : List Str} {es : List (Str × Option (List V))} (c : Says fa fn ds w K) (i j k : Nat) (h : ds[i]? = some (x, ks)) (g : fa[j]? = some (.glo x)) (p : fa[k]? = some (.dicT x es)) : GDictTF K w x es := by
  obtain ⟨p1, p2⟩ := Bool.and_eq_true_iff.mp (c.fact k p)
  exact ⟨_, glo_ (c.fact j g), dic_at (c.dic i h) p1, dic_enT p2⟩
end
end Hd

set_option Elab.async false
set_option linter.all false
set_option maxRecDepth 100000
set_option maxHeartbeats 1000000
/-! Wr: text.replace of written texts, loops over enumerate. -/
namespace Fx
open PySem PySem.Spec PyProof.Rows L2
section
variable {X : Cx}
/-- e.replace("a", "b") by value -/
def fReplC (to : TE) (y z : Str) : TE := fun σ H Q => to σ H fun v H1 => match v with
  | .str x => x.length + (x.length + 1) * z.length ≤ 16777216 ∧ Q (.str (Txt.replace x y z)) H1
  | _ => False
theorem pet_wk {e : Expr} {t t' : TE} (h : PET X e t) (wk : ∀ σ H Q, t' σ H Q → t σ H Q) : PET X e t' := fun pins s σ H Q h0 I q => h pins s σ H Q h0 I (wk σ H Q q)
theorem pet_clos {e : Expr} {t : TE} (h : PET X e t) : PET X e (clos t) := fun pins s σ H Q h0 I ⟨Q0, q, wk⟩ => wpAny_mono (h pins s σ H Q0 h0 I q) (fun u s' ⟨v, H', I', r, q⟩ => ⟨v, H', I', r, wk v H' q⟩) fun _ _ x => x
theorem fet_repl {o : Expr} {to : TE} {y z : Str} {j k : Nat} {c0 c1 apos pos : Pos} (ho : PET X o to) (hyz : (y == z) = false)
    (hst : starEach [.Constant (.str y) j c0, .Constant (.str z) k c1] X.env = [(false, eval (.Constant (.str y) j c0) X.env), (false, eval (.Constant (.str z) k c1) X.env)] := by rfl)
    (hbase : attributeBase o "replace" X.env (eval o X.env) = eval o X.env := by rfl) (hline : (apos.endLine == pos.line) = true := by rfl) :
    PET X (.Call (.Attribute o "replace" apos) [.Constant (.str y) j c0, .Constant (.str z) k c1] [] pos) (fReplC to y z) :=
  pet_wk (CwR.pet_replT (pet_clos ho) hyz hst hbase hline) fun σ H Q q => ⟨_, q, fun v H1 q => by
    split at q
    · exact ⟨_, rfl, q⟩
    · exact q.elim⟩
/-- i ** j, small -/
def fPow : R2 := fun x y H Q => match x, y with
  | .int i, .int j => (0 ≤ j ∧ j ≤ 1000000 ∧ i.natAbs < 18446744073709551616) ∧ Q (.int (i ^ j.toNat)) H
  | _, _ => False
theorem op_fPow : OpR X (binaryOp .Pow) fPow := by
  intro pins s σ H x y v u Q I rx ry h
  match x, y, rx, ry, h with
  | .int i, .int j, rx, ry, h => exact op_pow pins s σ H _ _ v u Q I rx ry ⟨i, j, rfl, rfl, h.1, h.2⟩
/-- x = e, e with a token -/
theorem pst_set {i : Nat} {x : Str} {e : Expr} {te : TE} {pos pos' : Pos} (hN : X.N.Nodup) (hi : X.N[i]? = some x) (hx : Loc X.env.scope x) (he : PET X e te) (hs : swapsWith e (some (.Name x pos')) pos.line X.env = pure false) (hf : X.fn x = true ∨ X.env.scope.names.lookup x = some .local := by first | exact .inl rfl | exact .inr rfl | assumption) :
    PST X (.Assign [.Name x pos'] e pos) (tAsg te (gName i)) := fun pins s σ H D h0 I h =>
  wpAny_Assign_Name (thn (he pins s σ H _ h0 I h) fun _ s1 ⟨_, H1, I1, r1, q1⟩ => store_ok I1 hN hi hx r1 (fun _ I2 => ⟨_, H1, I2, q1⟩) hf) hs
end
section
variable {P : Program} {w : World} {K : PySem.W.Frag} {mg : Str → Option Value} {base : Heap}
/-- a def whose body takes a token -/
theorem hasT_of {x qual : Str} {st : Stmt} {N ps : List Str} {k : Nat} {sp : Sp} (A : At K mg x qual st ps) (S : FnScope N ps (defScope st)) (hnc : ∀ y ∈ (defScope st).names, y.2 ≠ .cell) (hps : 1 ≤ ps.length) (len : ∀ vs H Q E, sp vs H Q E → vs.length = ps.length)
    (hbody : ∀ (cdv : Value) (f : Addr) (A : Around) (outer : List Env) (s : Shared) (H : Hp) (vs : List V) (Q : VK) (E : XK), Room k (A.deeper (envOfC qual (defScope st) s.heap.objs.size f cdv)) → sp vs H Q E →
      ∃ t, PSsT (cxOf CX0 P w K mg base N qual (defScope st) f cdv A outer s H E) (defBody st) t ∧ t { nx := fun _ H' => Q .non H', rt := Q } (start N vs) H) : Has P w K mg base CX0 x (k + 1) ps sp := by
  obtain ⟨f, fd, F, B, G⟩ := A.ex
  have F2 := F
  obtain ⟨oc, od, kV, doc, pm, an, cdv, ct, osl, rfl, lk, hcd⟩ := F.ex
  exact ⟨f, _, fn_ofT lk hcd S hnc hps len fun A outer s H vs Q E hr hsp => hbody cdv f A outer s H vs Q E hr hsp, B, G, F2.kp⟩
end
/-- the loop of for at, x in enumerate(xs) -/
theorem loop_enum {K : PySem.W.Frag} {a : Addr} {xs : List V} {g : TG} {tb : TS} {D : Ends} {σ : L2.St} {H : Hp} (Pv : Nat → L2.St → Hp → Prop) (h0 : Pv 0 σ H) (hl : ∀ i σ H, i ≤ xs.length → Pv i σ H → SqL K H a xs)
    (hs : ∀ (i : Nat) x T σ H, xs[i]? = some x → Pv i σ H → H T = none → g (.ref T) σ (upd H T (.tup [.int (i : Nat), x])) fun σ2 H2 => tb { D with nx := Pv (i + 1), ct := Pv (i + 1), bk := D.nx } σ2 H2) (hd : ∀ σ H, Pv xs.length σ H → D.nx σ H) : Loop (Ite K a) g tb D σ H :=
  L2.for_it walk_enum Pv h0 hl (fun i x σ H H' hi p y => by
    obtain ⟨T, u, v, e1, e2, e3, e4, e5⟩ := y
    cases e4
    subst e1
    rw [e3]
    exact hs i v T σ H e5 p e2) hd
end Fx

set_option Elab.async false
set_option linter.all false
set_option maxRecDepth 100000
set_option maxHeartbeats 1000000
namespace My
open PySem L2 Fx
local macro_rules | `(tactic| walk_at "fx") => `(tactic| try simp only [L2.start, List.map_cons, List.map_nil, List.length_cons, List.length_nil, Nat.reduceAdd, Nat.reduceSub, List.reduceReplicate, List.cons_append, List.nil_append, List.append_nil,
  tSeq, fVar, tVar, tC, tOp, tUn, tCons, tNil, fTup, fLst, tAsg, gName, tRet, tRetN, tDrop, tNext, tIf, tAnd, tOr, tNot, tTest, tB, tAug, tChain, tNotV, tAndV, tOrV, tSl, tPart, tNoPart, tCB, tCall, fBM, fBM0, tBreak, tCont, gTup, gCons, gNil,
  fAdd, fSub, fMul, fDiv, fMod, fNeg, fLt, fLe, fGt, fGe, fIx, fSl, fLen, fInt, fStr, fAbs, fMax, fMin, fOrd, fIsN, fNotN, fIsi, fListOf, isLst, isStr, isDct, fAppend, fS1, fJoin, fLstripC, fIAdd, fISub, fSet, tyOf, fEq, scal, fIn, iRng1, iRng2, iList, iTup, iStr, gSub, fGt_,
  List.getElem?_cons_zero, List.getElem?_cons_succ, List.set_cons_zero, List.set_cons_succ, upd_same, S_cps, S_len, L_S, one_list, flatV,
  V.int.injEq, V.str.injEq, V.bl.injEq, V.ref.injEq, Option.some.injEq, List.cons.injEq, exists_eq_left', exists_eq_left, exists_and_left, ex2, and_true, true_and, decide_eq_true_eq, Bool.not_eq_true', decide_eq_false_iff_not, Bool.false_eq_true, Bool.true_eq_false, Int.zero_add, Int.toNat_natCast, if_true, if_false, ite_true, ite_false, reduceIte, Int.reduceLT, Int.reduceLE, Int.reduceNeg, Int.reduceAdd, Nat.reduceLT, Nat.reduceLeDiff, Bool.not_true, Bool.not_false, kitBv, kitBs, not_true_eq_false, not_false_eq_true, Bool.or_false, Bool.false_or, Bool.or_true, Bool.true_or])
local macro_rules | `(tactic| walk_at "fx0") => `(tactic| try dsimp only [cxOf, Cx.nox, Cx.wish])
local macro_rules | `(tactic| walk_at "mul") => `(tactic| first | exact mul_left (by decide) (by decide) | exact mul_right (by decide) (by decide) | exact mul_left (by omega) (by omega) | exact mul_right (by omega) (by omega))
local macro_rules | `(tactic| walk_at "rm") => `(tactic| first | decide | exact Nat.le_refl _ | omega)
set_option hygiene false in
local macro_rules | `(tactic| walk_at "ox") => `(tactic| try simp only [WE_wOf, two, fTru, fLenD, fDisp, fPairs, iKeysK, fGetK, fInK, sPutK, sDelK, keyV, fListD, fDictD, tChain3, iZipM, fGdT_, fInDT, fIxDT, fRevL, sDelL, iEnum_, fTupOf, fSum, fGetD, fMkV, fXo, fIsX, fPop, fPopAt, fClear, fReplC, fPow, fReverse, fExtend, fInsert, fGetN, fInN, sPutN, sDelN, fNewN, fLenN, iKeysN, fProp, fRaise, fXf, fIsE, fMethS, tCallS, fFmt, fJs, fJoined, fDivZ, fGd_, fInD, fIxD, WE, wOf, fDead, sDead, upd2, wipe, tYes, fIsB, beq_self_eq_true, List.not_mem_nil, or_false, false_or, fDnew, T.ne, fFld, fSetF, fMeth, isOb, fIsiO, fIsiP, fIsiA, tyV2, okT, kit2, kits2, allIn, putF, List.lookup_cons, List.lookup_nil, keyEq, List.mem_cons, true_or, or_true, L2.start, List.map_cons, List.map_nil, List.length_cons, List.length_nil, Nat.reduceAdd, Nat.reduceSub, List.reduceReplicate, List.cons_append, List.nil_append, List.append_nil,
  tSeq, fVar, tVar, tC, tOp, tUn, tCons, tNil, fTup, fLst, tAsg, gName, tRet, tRetN, tDrop, tNext, tIf, tAnd, tOr, tNot, tTest, tB, tAug, tChain, tNotV, tAndV, tOrV, tSl, tPart, tNoPart, tCB, tCall, fBM, fBM0, tBreak, tCont, gTup, gCons, gNil,
  fAdd, fSub, fMul, fDiv, fMod, fNeg, fLt, fLe, fGt, fGe, fIx, fSl, fLen, fInt, fStr, fAbs, fMax, fMin, fOrd, fIsN, fNotN, fIsi, fListOf, isLst, isStr, isDct, fAppend, fS1, fJoin, fLstripC, fIAdd, fISub, fSet, tyOf, fEq, scal, fIn, iRng1, iRng2, iList, iTup, iStr, gSub, fGt_,
  List.getElem?_cons_zero, List.getElem?_cons_succ, List.set_cons_zero, List.set_cons_succ, upd_same, S_cps, S_len, L_S, one_list, flatV,
  V.int.injEq, V.str.injEq, V.bl.injEq, V.ref.injEq, Option.some.injEq, List.cons.injEq, exists_eq_left', exists_eq_left, exists_and_left, ex2, and_true, true_and, decide_eq_true_eq, Bool.not_eq_true', decide_eq_false_iff_not, Bool.false_eq_true, Bool.true_eq_false, Int.zero_add, Int.toNat_natCast, if_true, if_false, ite_true, ite_false, reduceIte, Int.reduceLT, Int.reduceLE, Int.reduceNeg, Int.reduceAdd, Nat.reduceLT, Nat.reduceLeDiff, Bool.not_true, Bool.not_false, kitBv, kitBs, not_true_eq_false, not_false_eq_true, Bool.or_false, Bool.false_or, Bool.or_true, Bool.true_or])
set_option hygiene false in
local macro_rules | `(tactic| walk_at "oxs") => `(tactic| simp only [tIfS, WE_wOf, two, fTru, fLenD, fDisp, fPairs, iKeysK, fGetK, fInK, sPutK, sDelK, keyV, fListD, fDictD, tChain3, iZipM, fGdT_, fInDT, fIxDT, fRevL, sDelL, iEnum_, fTupOf, fSum, fGetD, fMkV, fXo, fIsX, fPop, fPopAt, fClear, fReplC, fPow, fReverse, fExtend, fInsert, fGetN, fInN, sPutN, sDelN, fNewN, fLenN, iKeysN, fProp, fRaise, fXf, fIsE, fMethS, tCallS, fFmt, fJs, fJoined, fDivZ, fGd_, fInD, fIxD, WE, wOf, fDead, sDead,  reduceCtorEq, upd2, wipe, tYes, fIsB, beq_self_eq_true, List.not_mem_nil, or_false, false_or, fDnew, T.ne, fFld, fSetF, fMeth, isOb, fIsiO, fIsiP, fIsiA, tyV2, okT, kit2, kits2, allIn, putF, List.lookup_cons, List.lookup_nil, keyEq, List.mem_cons, true_or, or_true, L2.start, List.map_cons, List.map_nil, List.length_cons, List.length_nil, Nat.reduceAdd, Nat.reduceSub, List.reduceReplicate, List.cons_append, List.nil_append, List.append_nil,
  tSeq, fVar, tVar, tC, tOp, tUn, tCons, tNil, fTup, fLst, tAsg, gName, tRet, tRetN, tDrop, tNext, tIf, tAnd, tOr, tNot, tTest, tB, tAug, tChain, tNotV, tAndV, tOrV, tSl, tPart, tNoPart, tCB, tCall, fBM, fBM0, tBreak, tCont, gTup, gCons, gNil,
  fAdd, fSub, fMul, fDiv, fMod, fNeg, fLt, fLe, fGt, fGe, fIx, fSl, fLen, fInt, fStr, fAbs, fMax, fMin, fOrd, fIsN, fNotN, fIsi, fListOf, isLst, isStr, isDct, fAppend, fS1, fJoin, fLstripC, fIAdd, fISub, fSet, tyOf, fEq, scal, fIn, iRng1, iRng2, iList, iTup, iStr, gSub, fGt_,
  List.getElem?_cons_zero, List.getElem?_cons_succ, List.set_cons_zero, List.set_cons_succ, upd_same, S_cps, S_len, L_S, one_list, flatV,
  V.int.injEq, V.str.injEq, V.bl.injEq, V.ref.injEq, Option.some.injEq, List.cons.injEq, exists_eq_left', exists_eq_left, exists_and_left, ex2, and_true, true_and, decide_eq_true_eq, Bool.not_eq_true', decide_eq_false_iff_not, Bool.false_eq_true, Bool.true_eq_false, Int.zero_add, Int.toNat_natCast, if_true, if_false, ite_true, ite_false, reduceIte, Int.reduceLT, Int.reduceLE, Int.reduceNeg, Int.reduceAdd, Nat.reduceLT, Nat.reduceLeDiff, Bool.not_true, Bool.not_false, kitBv, kitBs, not_true_eq_false, not_false_eq_true, Bool.or_false, Bool.false_or, Bool.or_true, Bool.true_or])

def topS (i : Nat) : Stmt := PySem.Challenge.pw_livequill_k24_written_forms.main.body.getD i (.Pass ⟨0, 0, 0, 0⟩)
abbrev s_Ref___init__ : Stmt := inClass (topS 2) 0
theorem sc_Ref___init__ : FnScope ["self", "number"] ["self", "number"] (defScope s_Ref___init__) := ⟨rfl, rfl, rfl, by decide +kernel, rfl, by decide +kernel, by decide +kernel⟩
abbrev s_Ref___eq__ : Stmt := inClass (topS 2) 1
theorem sc_Ref___eq__ : FnScope ["self", "other"] ["self", "other"] (defScope s_Ref___eq__) := ⟨rfl, rfl, rfl, by decide +kernel, rfl, by decide +kernel, by decide +kernel⟩
abbrev s_Builtin___init__ : Stmt := inClass (topS 3) 0
theorem sc_Builtin___init__ : FnScope ["self", "name"] ["self", "name"] (defScope s_Builtin___init__) := ⟨rfl, rfl, rfl, by decide +kernel, rfl, by decide +kernel, by decide +kernel⟩
abbrev s_Builtin___eq__ : Stmt := inClass (topS 3) 1
theorem sc_Builtin___eq__ : FnScope ["self", "other"] ["self", "other"] (defScope s_Builtin___eq__) := ⟨rfl, rfl, rfl, by decide +kernel, rfl, by decide +kernel, by decide +kernel⟩
abbrev s_key_of : Stmt := topS 5
theorem sc_key_of : FnScope ["value"] ["value"] (defScope s_key_of) := ⟨rfl, rfl, rfl, by decide +kernel, rfl, by decide +kernel, by decide +kernel⟩
abbrev s_Parts___init__ : Stmt := inClass (topS 6) 0
theorem sc_Parts___init__ : FnScope ["self", "held"] ["self", "held"] (defScope s_Parts___init__) := ⟨rfl, rfl, rfl, by decide +kernel, rfl, by decide +kernel, by decide +kernel⟩
abbrev s_Parts_fork : Stmt := inClass (topS 6) 1
theorem sc_Parts_fork : FnScope ["self"] ["self"] (defScope s_Parts_fork) := ⟨rfl, rfl, rfl, by decide +kernel, rfl, by decide +kernel, by decide +kernel⟩
abbrev s_Table___init__ : Stmt := inClass (topS 7) 0
theorem sc_Table___init__ : FnScope ["self"] ["self"] (defScope s_Table___init__) := ⟨rfl, rfl, rfl, by decide +kernel, rfl, by decide +kernel, by decide +kernel⟩
abbrev s_Table_many : Stmt := inClass (topS 7) 1
theorem sc_Table_many : FnScope ["self"] ["self"] (defScope s_Table_many) := ⟨rfl, rfl, rfl, by decide +kernel, rfl, by decide +kernel, by decide +kernel⟩
abbrev s_Table_has : Stmt := inClass (topS 7) 2
theorem sc_Table_has : FnScope ["self", "key"] ["self", "key"] (defScope s_Table_has) := ⟨rfl, rfl, rfl, by decide +kernel, rfl, by decide +kernel, by decide +kernel⟩
abbrev s_Table_value_of : Stmt := inClass (topS 7) 3
theorem sc_Table_value_of : FnScope ["self", "key"] ["self", "key"] (defScope s_Table_value_of) := ⟨rfl, rfl, rfl, by decide +kernel, rfl, by decide +kernel, by decide +kernel⟩
abbrev s_Table_put : Stmt := inClass (topS 7) 4
theorem sc_Table_put : FnScope ["self", "key", "value"] ["self", "key", "value"] (defScope s_Table_put) := ⟨rfl, rfl, rfl, by decide +kernel, rfl, by decide +kernel, by decide +kernel⟩
abbrev s_Table_take_out : Stmt := inClass (topS 7) 5
theorem sc_Table_take_out : FnScope ["self", "key"] ["self", "key"] (defScope s_Table_take_out) := ⟨rfl, rfl, rfl, by decide +kernel, rfl, by decide +kernel, by decide +kernel⟩
abbrev s_Table_pairs : Stmt := inClass (topS 7) 6
theorem sc_Table_pairs : FnScope ["self", "at"] ["self"] (defScope s_Table_pairs) := ⟨rfl, rfl, rfl, by decide +kernel, rfl, by decide +kernel, by decide +kernel⟩
abbrev s_Table_fork : Stmt := inClass (topS 7) 7
theorem sc_Table_fork : FnScope ["self"] ["self"] (defScope s_Table_fork) := ⟨rfl, rfl, rfl, by decide +kernel, rfl, by decide +kernel, by decide +kernel⟩
abbrev s_Instance___init__ : Stmt := inClass (topS 8) 0
theorem sc_Instance___init__ : FnScope ["self", "owner"] ["self", "owner"] (defScope s_Instance___init__) := ⟨rfl, rfl, rfl, by decide +kernel, rfl, by decide +kernel, by decide +kernel⟩
abbrev s_Instance_fork : Stmt := inClass (topS 8) 1
theorem sc_Instance_fork : FnScope ["self"] ["self"] (defScope s_Instance_fork) := ⟨rfl, rfl, rfl, by decide +kernel, rfl, by decide +kernel, by decide +kernel⟩
abbrev s_Kin___init__ : Stmt := inClass (topS 9) 0
theorem sc_Kin___init__ : FnScope ["self", "name", "parent"] ["self", "name", "parent"] (defScope s_Kin___init__) := ⟨rfl, rfl, rfl, by decide +kernel, rfl, by decide +kernel, by decide +kernel⟩
abbrev s_Kin_fork : Stmt := inClass (topS 9) 1
theorem sc_Kin_fork : FnScope ["self"] ["self"] (defScope s_Kin_fork) := ⟨rfl, rfl, rfl, by decide +kernel, rfl, by decide +kernel, by decide +kernel⟩
abbrev s_Closure___init__ : Stmt := inClass (topS 10) 0
theorem sc_Closure___init__ : FnScope ["self", "number", "wanted", "scope"] ["self", "number", "wanted", "scope"] (defScope s_Closure___init__) := ⟨rfl, rfl, rfl, by decide +kernel, rfl, by decide +kernel, by decide +kernel⟩
abbrev s_Closure_fork : Stmt := inClass (topS 10) 1
theorem sc_Closure_fork : FnScope ["self"] ["self"] (defScope s_Closure_fork) := ⟨rfl, rfl, rfl, by decide +kernel, rfl, by decide +kernel, by decide +kernel⟩
abbrev s_Bound___init__ : Stmt := inClass (topS 11) 0
theorem sc_Bound___init__ : FnScope ["self", "owner", "function"] ["self", "owner", "function"] (defScope s_Bound___init__) := ⟨rfl, rfl, rfl, by decide +kernel, rfl, by decide +kernel, by decide +kernel⟩
abbrev s_Bound_fork : Stmt := inClass (topS 11) 1
theorem sc_Bound_fork : FnScope ["self"] ["self"] (defScope s_Bound_fork) := ⟨rfl, rfl, rfl, by decide +kernel, rfl, by decide +kernel, by decide +kernel⟩
abbrev s_Cursor___init__ : Stmt := inClass (topS 12) 0
theorem sc_Cursor___init__ : FnScope ["self", "rest"] ["self", "rest"] (defScope s_Cursor___init__) := ⟨rfl, rfl, rfl, by decide +kernel, rfl, by decide +kernel, by decide +kernel⟩
abbrev s_Cursor_fork : Stmt := inClass (topS 12) 1
theorem sc_Cursor_fork : FnScope ["self"] ["self"] (defScope s_Cursor_fork) := ⟨rfl, rfl, rfl, by decide +kernel, rfl, by decide +kernel, by decide +kernel⟩
abbrev s_thing_of : Stmt := topS 14
theorem sc_thing_of : FnScope ["store", "value"] ["store", "value"] (defScope s_thing_of) := ⟨rfl, rfl, rfl, by decide +kernel, rfl, by decide +kernel, by decide +kernel⟩
abbrev s_quoted : Stmt := topS 18
theorem sc_quoted : FnScope ["text"] ["text"] (defScope s_quoted) := ⟨rfl, rfl, rfl, by decide +kernel, rfl, by decide +kernel, by decide +kernel⟩
abbrev s_plain : Stmt := topS 19
theorem sc_plain : FnScope ["value"] ["value"] (defScope s_plain) := ⟨rfl, rfl, rfl, by decide +kernel, rfl, by decide +kernel, by decide +kernel⟩
abbrev s_head_of : Stmt := topS 20
theorem sc_head_of : FnScope ["store", "thing"] ["store", "thing"] (defScope s_head_of) := ⟨rfl, rfl, rfl, by decide +kernel, rfl, by decide +kernel, by decide +kernel⟩
abbrev s_Writer___init__ : Stmt := inClass (topS 21) 0
theorem sc_Writer___init__ : FnScope ["self", "store", "most"] ["self", "store", "most"] (defScope s_Writer___init__) := ⟨rfl, rfl, rfl, by decide +kernel, rfl, by decide +kernel, by decide +kernel⟩
abbrev s_Writer_put : Stmt := inClass (topS 21) 1
theorem sc_Writer_put : FnScope ["self", "piece"] ["self", "piece"] (defScope s_Writer_put) := ⟨rfl, rfl, rfl, by decide +kernel, rfl, by decide +kernel, by decide +kernel⟩
abbrev s_Writer_write : Stmt := inClass (topS 21) 2
theorem sc_Writer_write : FnScope ["self", "value", "thing"] ["self", "value"] (defScope s_Writer_write) := ⟨rfl, rfl, rfl, by decide +kernel, rfl, by decide +kernel, by decide +kernel⟩
abbrev s_Writer_write_box : Stmt := inClass (topS 21) 3
theorem sc_Writer_write_box : FnScope ["self", "number", "thing", "first", "last"] ["self", "number", "thing"] (defScope s_Writer_write_box) := ⟨rfl, rfl, rfl, by decide +kernel, rfl, by decide +kernel, by decide +kernel⟩
abbrev s_Writer_write_parts : Stmt := inClass (topS 21) 4
theorem sc_Writer_write_parts : FnScope ["self", "held", "at", "value"] ["self", "held"] (defScope s_Writer_write_parts) := ⟨rfl, rfl, rfl, by decide +kernel, rfl, by decide +kernel, by decide +kernel⟩
abbrev s_Writer_write_pairs : Stmt := inClass (topS 21) 5
theorem sc_Writer_write_pairs : FnScope ["self", "pairs", "at", "pair"] ["self", "pairs"] (defScope s_Writer_write_pairs) := ⟨rfl, rfl, rfl, by decide +kernel, rfl, by decide +kernel, by decide +kernel⟩
abbrev s_write_value : Stmt := topS 22
theorem sc_write_value : FnScope ["store", "value", "most", "writer"] ["store", "value", "most"] (defScope s_write_value) := ⟨rfl, rfl, rfl, by decide +kernel, rfl, by decide +kernel, by decide +kernel⟩
abbrev s_text_of : Stmt := topS 23
theorem sc_text_of : FnScope ["store", "value", "most"] ["store", "value", "most"] (defScope s_text_of) := ⟨rfl, rfl, rfl, by decide +kernel, rfl, by decide +kernel, by decide +kernel⟩
abbrev s_show : Stmt := topS 24
theorem sc_show : FnScope ["store", "value", "text"] ["store", "value"] (defScope s_show) := ⟨rfl, rfl, rfl, by decide +kernel, rfl, by decide +kernel, by decide +kernel⟩
abbrev s_Store___init__ : Stmt := inClass (topS 27) 0
theorem sc_Store___init__ : FnScope ["self", "lines"] ["self", "lines"] (defScope s_Store___init__) := ⟨rfl, rfl, rfl, by decide +kernel, rfl, by decide +kernel, by decide +kernel⟩
abbrev s_Store_make : Stmt := inClass (topS 27) 1
theorem sc_Store_make : FnScope ["self", "thing"] ["self", "thing"] (defScope s_Store_make) := ⟨rfl, rfl, rfl, by decide +kernel, rfl, by decide +kernel, by decide +kernel⟩
abbrev s_Store_at : Stmt := inClass (topS 27) 2
theorem sc_Store_at : FnScope ["self", "ref"] ["self", "ref"] (defScope s_Store_at) := ⟨rfl, rfl, rfl, by decide +kernel, rfl, by decide +kernel, by decide +kernel⟩
abbrev s_Store_fork : Stmt := inClass (topS 27) 3
theorem sc_Store_fork : FnScope ["self"] ["self"] (defScope s_Store_fork) := ⟨rfl, rfl, rfl, by decide +kernel, rfl, by decide +kernel, by decide +kernel⟩
abbrev s_law_cell : Stmt := topS 29
theorem sc_law_cell : FnScope ["script", "k"] ["script", "k"] (defScope s_law_cell) := ⟨rfl, rfl, rfl, by decide +kernel, rfl, by decide +kernel, by decide +kernel⟩
abbrev s_law_begin : Stmt := topS 30
theorem sc_law_begin : FnScope ["script", "k"] ["script", "k"] (defScope s_law_begin) := ⟨rfl, rfl, rfl, by decide +kernel, rfl, by decide +kernel, by decide +kernel⟩
abbrev s_law_draw : Stmt := topS 31
theorem sc_law_draw : FnScope ["state", "many", "k", "cell", "prime", "mixed", "digit"] ["state", "many"] (defScope s_law_draw) := ⟨rfl, rfl, rfl, by decide +kernel, rfl, by decide +kernel, by decide +kernel⟩
abbrev s_law_pick : Stmt := topS 32
theorem sc_law_pick : FnScope ["state", "row"] ["state", "row"] (defScope s_law_pick) := ⟨rfl, rfl, rfl, by decide +kernel, rfl, by decide +kernel, by decide +kernel⟩
abbrev s_law_value : Stmt := topS 33
theorem sc_law_value : FnScope ["state", "many", "kind", "chars", "text", "k"] ["state", "many"] (defScope s_law_value) := ⟨rfl, rfl, rfl, by decide +kernel, rfl, by decide +kernel, by decide +kernel⟩
abbrev s_law_fill : Stmt := topS 34
theorem sc_law_fill : FnScope ["store", "state", "many", "k", "kind", "thing", "j"] ["store", "state", "many"] (defScope s_law_fill) := ⟨rfl, rfl, rfl, by decide +kernel, rfl, by decide +kernel, by decide +kernel⟩
abbrev s_law_quoted : Stmt := topS 35
theorem sc_law_quoted : FnScope ["text", "told", "at", "char"] ["text"] (defScope s_law_quoted) := ⟨rfl, rfl, rfl, by decide +kernel, rfl, by decide +kernel, by decide +kernel⟩
abbrev s_law_plain : Stmt := topS 36
theorem sc_law_plain : FnScope ["store", "value", "thing"] ["store", "value"] (defScope s_law_plain) := ⟨rfl, rfl, rfl, by decide +kernel, rfl, by decide +kernel, by decide +kernel⟩
abbrev s_law_form : Stmt := topS 37
theorem sc_law_form : FnScope ["store", "value", "around", "room", "thing", "marks", "inner", "told", "k", "pairs"] ["store", "value", "around", "room"] (defScope s_law_form) := ⟨rfl, rfl, rfl, by decide +kernel, rfl, by decide +kernel, by decide +kernel⟩
abbrev s_law : Stmt := topS 38
theorem sc_law : FnScope ["script", "state", "store", "many", "k", "value", "most", "due", "told"] ["script"] (defScope s_law) := ⟨rfl, rfl, rfl, by decide +kernel, rfl, by decide +kernel, by decide +kernel⟩
structure Cs where
  Ref : Addr
  Builtin : Addr
  Parts : Addr
  Table : Addr
  Instance : Addr
  Kin : Addr
  Closure : Addr
  Bound : Addr
  Cursor : Addr
  Writer : Addr
  Store : Addr
theorem keyEq : (("__eq__" : Str) == "name") = false ∧ ¬ (("__eq__" : Str) = "name") ∧ (("__eq__" : Str) == "number") = false ∧ ¬ (("__eq__" : Str) = "number") ∧ (("__init__" : Str) == "_rows") = false ∧ ¬ (("__init__" : Str) = "_rows") ∧ (("__init__" : Str) == "around") = false ∧ ¬ (("__init__" : Str) = "around") ∧ (("__init__" : Str) == "function") = false ∧ ¬ (("__init__" : Str) = "function") ∧ (("__init__" : Str) == "held") = false ∧ ¬ (("__init__" : Str) = "held") ∧ (("__init__" : Str) == "lines") = false ∧ ¬ (("__init__" : Str) = "lines") ∧ (("__init__" : Str) == "methods") = false ∧ ¬ (("__init__" : Str) = "methods") ∧ (("__init__" : Str) == "most") = false ∧ ¬ (("__init__" : Str) = "most") ∧ (("__init__" : Str) == "name") = false ∧ ¬ (("__init__" : Str) = "name") ∧ (("__init__" : Str) == "named") = false ∧ ¬ (("__init__" : Str) = "named") ∧ (("__init__" : Str) == "number") = false ∧ ¬ (("__init__" : Str) = "number") ∧ (("__init__" : Str) == "output") = false ∧ ¬ (("__init__" : Str) = "output") ∧ (("__init__" : Str) == "owner") = false ∧ ¬ (("__init__" : Str) = "owner") ∧ (("__init__" : Str) == "parent") = false ∧ ¬ (("__init__" : Str) = "parent") ∧ (("__init__" : Str) == "pieces") = false ∧ ¬ (("__init__" : Str) = "pieces") ∧ (("__init__" : Str) == "rest") = false ∧ ¬ (("__init__" : Str) = "rest") ∧ (("__init__" : Str) == "scope") = false ∧ ¬ (("__init__" : Str) = "scope") ∧ (("__init__" : Str) == "store") = false ∧ ¬ (("__init__" : Str) = "store") ∧ (("__init__" : Str) == "taken") = false ∧ ¬ (("__init__" : Str) = "taken") ∧ (("__init__" : Str) == "things") = false ∧ ¬ (("__init__" : Str) = "things") ∧ (("__init__" : Str) == "wanted") = false ∧ ¬ (("__init__" : Str) = "wanted") ∧ (("__init__" : Str) == "written") = false ∧ ¬ (("__init__" : Str) = "written") ∧ (("around" : Str) == "most") = false ∧ ¬ (("around" : Str) = "most") ∧ (("around" : Str) == "pieces") = false ∧ ¬ (("around" : Str) = "pieces") ∧ (("around" : Str) == "store") = false ∧ ¬ (("around" : Str) = "store") ∧ (("around" : Str) == "written") = false ∧ ¬ (("around" : Str) = "written") ∧ (("at" : Str) == "lines") = false ∧ ¬ (("at" : Str) = "lines") ∧ (("at" : Str) == "output") = false ∧ ¬ (("at" : Str) = "output") ∧ (("at" : Str) == "taken") = false ∧ ¬ (("at" : Str) = "taken") ∧ (("at" : Str) == "things") = false ∧ ¬ (("at" : Str) = "things") ∧ (("fork" : Str) == "_rows") = false ∧ ¬ (("fork" : Str) = "_rows") ∧ (("fork" : Str) == "function") = false ∧ ¬ (("fork" : Str) = "function") ∧ (("fork" : Str) == "held") = false ∧ ¬ (("fork" : Str) = "held") ∧ (("fork" : Str) == "lines") = false ∧ ¬ (("fork" : Str) = "lines") ∧ (("fork" : Str) == "methods") = false ∧ ¬ (("fork" : Str) = "methods") ∧ (("fork" : Str) == "name") = false ∧ ¬ (("fork" : Str) = "name") ∧ (("fork" : Str) == "named") = false ∧ ¬ (("fork" : Str) = "named") ∧ (("fork" : Str) == "number") = false ∧ ¬ (("fork" : Str) = "number") ∧ (("fork" : Str) == "output") = false ∧ ¬ (("fork" : Str) = "output") ∧ (("fork" : Str) == "owner") = false ∧ ¬ (("fork" : Str) = "owner") ∧ (("fork" : Str) == "parent") = false ∧ ¬ (("fork" : Str) = "parent") ∧ (("fork" : Str) == "rest") = false ∧ ¬ (("fork" : Str) = "rest") ∧ (("fork" : Str) == "scope") = false ∧ ¬ (("fork" : Str) = "scope") ∧ (("fork" : Str) == "taken") = false ∧ ¬ (("fork" : Str) = "taken") ∧ (("fork" : Str) == "things") = false ∧ ¬ (("fork" : Str) = "things") ∧ (("fork" : Str) == "wanted") = false ∧ ¬ (("fork" : Str) = "wanted") ∧ (("function" : Str) == "owner") = false ∧ ¬ (("function" : Str) = "owner") ∧ (("has" : Str) == "_rows") = false ∧ ¬ (("has" : Str) = "_rows") ∧ (("lines" : Str) == "output") = false ∧ ¬ (("lines" : Str) = "output") ∧ (("lines" : Str) == "taken") = false ∧ ¬ (("lines" : Str) = "taken") ∧ (("lines" : Str) == "things") = false ∧ ¬ (("lines" : Str) = "things") ∧ (("make" : Str) == "lines") = false ∧ ¬ (("make" : Str) = "lines") ∧ (("make" : Str) == "output") = false ∧ ¬ (("make" : Str) = "output") ∧ (("make" : Str) == "taken") = false ∧ ¬ (("make" : Str) = "taken") ∧ (("make" : Str) == "things") = false ∧ ¬ (("make" : Str) = "things") ∧ (("many" : Str) == "_rows") = false ∧ ¬ (("many" : Str) = "_rows") ∧ (("methods" : Str) == "name") = false ∧ ¬ (("methods" : Str) = "name") ∧ (("methods" : Str) == "parent") = false ∧ ¬ (("methods" : Str) = "parent") ∧ (("most" : Str) == "around") = false ∧ ¬ (("most" : Str) = "around") ∧ (("most" : Str) == "pieces") = false ∧ ¬ (("most" : Str) = "pieces") ∧ (("most" : Str) == "store") = false ∧ ¬ (("most" : Str) = "store") ∧ (("most" : Str) == "written") = false ∧ ¬ (("most" : Str) = "written") ∧ (("name" : Str) == "methods") = false ∧ ¬ (("name" : Str) = "methods") ∧ (("name" : Str) == "parent") = false ∧ ¬ (("name" : Str) = "parent") ∧ (("named" : Str) == "owner") = false ∧ ¬ (("named" : Str) = "owner") ∧ (("number" : Str) == "scope") = false ∧ ¬ (("number" : Str) = "scope") ∧ (("number" : Str) == "wanted") = false ∧ ¬ (("number" : Str) = "wanted") ∧ (("output" : Str) == "lines") = false ∧ ¬ (("output" : Str) = "lines") ∧ (("output" : Str) == "taken") = false ∧ ¬ (("output" : Str) = "taken") ∧ (("output" : Str) == "things") = false ∧ ¬ (("output" : Str) = "things") ∧ (("owner" : Str) == "function") = false ∧ ¬ (("owner" : Str) = "function") ∧ (("owner" : Str) == "named") = false ∧ ¬ (("owner" : Str) = "named") ∧ (("pairs" : Str) == "_rows") = false ∧ ¬ (("pairs" : Str) = "_rows") ∧ (("parent" : Str) == "methods") = false ∧ ¬ (("parent" : Str) = "methods") ∧ (("parent" : Str) == "name") = false ∧ ¬ (("parent" : Str) = "name") ∧ (("pieces" : Str) == "around") = false ∧ ¬ (("pieces" : Str) = "around") ∧ (("pieces" : Str) == "most") = false ∧ ¬ (("pieces" : Str) = "most") ∧ (("pieces" : Str) == "store") = false ∧ ¬ (("pieces" : Str) = "store") ∧ (("pieces" : Str) == "written") = false ∧ ¬ (("pieces" : Str) = "written") ∧ (("put" : Str) == "_rows") = false ∧ ¬ (("put" : Str) = "_rows") ∧ (("put" : Str) == "around") = false ∧ ¬ (("put" : Str) = "around") ∧ (("put" : Str) == "most") = false ∧ ¬ (("put" : Str) = "most") ∧ (("put" : Str) == "pieces") = false ∧ ¬ (("put" : Str) = "pieces") ∧ (("put" : Str) == "store") = false ∧ ¬ (("put" : Str) = "store") ∧ (("put" : Str) == "written") = false ∧ ¬ (("put" : Str) = "written") ∧ (("scope" : Str) == "number") = false ∧ ¬ (("scope" : Str) = "number") ∧ (("scope" : Str) == "wanted") = false ∧ ¬ (("scope" : Str) = "wanted") ∧ (("store" : Str) == "around") = false ∧ ¬ (("store" : Str) = "around") ∧ (("store" : Str) == "most") = false ∧ ¬ (("store" : Str) = "most") ∧ (("store" : Str) == "pieces") = false ∧ ¬ (("store" : Str) = "pieces") ∧ (("store" : Str) == "written") = false ∧ ¬ (("store" : Str) = "written") ∧ (("take_out" : Str) == "_rows") = false ∧ ¬ (("take_out" : Str) = "_rows") ∧ (("taken" : Str) == "lines") = false ∧ ¬ (("taken" : Str) = "lines") ∧ (("taken" : Str) == "output") = false ∧ ¬ (("taken" : Str) = "output") ∧ (("taken" : Str) == "things") = false ∧ ¬ (("taken" : Str) = "things") ∧ (("things" : Str) == "lines") = false ∧ ¬ (("things" : Str) = "lines") ∧ (("things" : Str) == "output") = false ∧ ¬ (("things" : Str) = "output") ∧ (("things" : Str) == "taken") = false ∧ ¬ (("things" : Str) = "taken") ∧ (("value_of" : Str) == "_rows") = false ∧ ¬ (("value_of" : Str) = "_rows") ∧ (("wanted" : Str) == "number") = false ∧ ¬ (("wanted" : Str) = "number") ∧ (("wanted" : Str) == "scope") = false ∧ ¬ (("wanted" : Str) = "scope") ∧ (("write" : Str) == "around") = false ∧ ¬ (("write" : Str) = "around") ∧ (("write" : Str) == "most") = false ∧ ¬ (("write" : Str) = "most") ∧ (("write" : Str) == "pieces") = false ∧ ¬ (("write" : Str) = "pieces") ∧ (("write" : Str) == "store") = false ∧ ¬ (("write" : Str) = "store") ∧ (("write" : Str) == "written") = false ∧ ¬ (("write" : Str) = "written") ∧ (("write_box" : Str) == "around") = false ∧ ¬ (("write_box" : Str) = "around") ∧ (("write_box" : Str) == "most") = false ∧ ¬ (("write_box" : Str) = "most") ∧ (("write_box" : Str) == "pieces") = false ∧ ¬ (("write_box" : Str) = "pieces") ∧ (("write_box" : Str) == "store") = false ∧ ¬ (("write_box" : Str) = "store") ∧ (("write_box" : Str) == "written") = false ∧ ¬ (("write_box" : Str) = "written") ∧ (("write_pairs" : Str) == "around") = false ∧ ¬ (("write_pairs" : Str) = "around") ∧ (("write_pairs" : Str) == "most") = false ∧ ¬ (("write_pairs" : Str) = "most") ∧ (("write_pairs" : Str) == "pieces") = false ∧ ¬ (("write_pairs" : Str) = "pieces") ∧ (("write_pairs" : Str) == "store") = false ∧ ¬ (("write_pairs" : Str) = "store") ∧ (("write_pairs" : Str) == "written") = false ∧ ¬ (("write_pairs" : Str) = "written") ∧ (("write_parts" : Str) == "around") = false ∧ ¬ (("write_parts" : Str) = "around") ∧ (("write_parts" : Str) == "most") = false ∧ ¬ (("write_parts" : Str) = "most") ∧ (("write_parts" : Str) == "pieces") = false ∧ ¬ (("write_parts" : Str) = "pieces") ∧ (("write_parts" : Str) == "store") = false ∧ ¬ (("write_parts" : Str) = "store") ∧ (("write_parts" : Str) == "written") = false ∧ ¬ (("write_parts" : Str) = "written") ∧ (("written" : Str) == "around") = false ∧ ¬ (("written" : Str) = "around") ∧ (("written" : Str) == "most") = false ∧ ¬ (("written" : Str) = "most") ∧ (("written" : Str) == "pieces") = false ∧ ¬ (("written" : Str) = "pieces") ∧ (("written" : Str) == "store") = false ∧ ¬ (("written" : Str) = "store") := by (repeat' apply And.intro) <;> decide +kernel
--!none range len int isinstance bool list tuple str abs min max dict zip enumerate
section
open PySem PySem.Spec PyProof.Rows L2 Fx
set_option maxHeartbeats 0
abbrev Rw : PySem.W.OpenRow := PySem.W.OpenLaw.row PySem.Challenge.rw_livequill_k24_written_forms
def nm0 : List Str := [("_wall" : Str), ("Ref" : Str), ("Builtin" : Str), ("key_of" : Str), ("Parts" : Str), ("Table" : Str), ("Instance" : Str), ("Kin" : Str), ("Closure" : Str), ("Bound" : Str), ("Cursor" : Str), ("thing_of" : Str), ("MOST_DEEP" : Str), ("MOST_SHOWN" : Str), ("quoted" : Str), ("plain" : Str), ("head_of" : Str), ("Writer" : Str), ("write_value" : Str), ("text_of" : Str)]
def nm1 : List Str := [("show" : Str), ("ERROR" : Str), ("Store" : Str), ("_law_cell" : Str), ("_law_begin" : Str), ("_law_draw" : Str), ("_law_pick" : Str), ("_law_value" : Str), ("_law_fill" : Str), ("_law_quoted" : Str), ("_law_plain" : Str), ("_law_form" : Str)]
abbrev nms : List Str := nm0 ++ nm1
def fa0 : List Hd.Fh := [.glo "Ref", .glo "Builtin", .glo "Parts", .glo "Table", .glo "Instance", .glo "Kin", .glo "Closure", .glo "Bound", .glo "Cursor", .glo "Writer", .glo "Store", .cls "Ref", .cls "Builtin", .cls "Parts", .cls "Table", .cls "Instance", .cls "Kin", .cls "Closure", .cls "Bound", .cls "Cursor"]
def fa1 : List Hd.Fh := [.cls "Writer", .cls "Store", .obj, .noat "Table" "_rows", .noat "Writer" "around", .noat "Bound" "function", .noat "Parts" "held", .noat "Store" "lines", .noat "Kin" "methods", .noat "Writer" "most", .noat "Builtin" "name", .noat "Kin" "name", .noat "Instance" "named", .noat "Ref" "number", .noat "Closure" "number", .noat "Store" "output", .noat "Instance" "owner", .noat "Bound" "owner", .noat "Kin" "parent", .noat "Writer" "pieces"]
def fa2 : List Hd.Fh := [.noat "Cursor" "rest", .noat "Closure" "scope", .noat "Writer" "store", .noat "Store" "taken", .noat "Store" "things", .noat "Closure" "wanted", .noat "Writer" "written", .kio "Ref" "Ref", .kio "Ref" "Builtin", .kio "Ref" "Kin", .kio "Ref" "Instance", .kio "Ref" "Table", .kio "Ref" "Parts", .kio "Builtin" "Ref", .kio "Builtin" "Builtin", .kio "Builtin" "Kin", .kio "Builtin" "Instance", .kio "Builtin" "Table", .kio "Builtin" "Parts", .kio "Parts" "Ref"]
def fa3 : List Hd.Fh := [.kio "Parts" "Builtin", .kio "Parts" "Kin", .kio "Parts" "Instance", .kio "Parts" "Table", .kio "Parts" "Parts", .kio "Table" "Ref", .kio "Table" "Builtin", .kio "Table" "Kin", .kio "Table" "Instance", .kio "Table" "Table", .kio "Table" "Parts", .kio "Instance" "Ref", .kio "Instance" "Builtin", .kio "Instance" "Kin", .kio "Instance" "Instance", .kio "Instance" "Table", .kio "Instance" "Parts", .kio "Kin" "Ref", .kio "Kin" "Builtin", .kio "Kin" "Kin"]
def fa4 : List Hd.Fh := [.kio "Kin" "Instance", .kio "Kin" "Table", .kio "Kin" "Parts", .kio "Closure" "Ref", .kio "Closure" "Builtin", .kio "Closure" "Kin", .kio "Closure" "Instance", .kio "Closure" "Table", .kio "Closure" "Parts", .kio "Bound" "Ref", .kio "Bound" "Builtin", .kio "Bound" "Kin", .kio "Bound" "Instance", .kio "Bound" "Table", .kio "Bound" "Parts", .kio "Cursor" "Ref", .kio "Cursor" "Builtin", .kio "Cursor" "Kin", .kio "Cursor" "Instance", .kio "Cursor" "Table"]
def fa5 : List Hd.Fh := [.kio "Cursor" "Parts", .kio "Writer" "Ref", .kio "Writer" "Builtin", .kio "Writer" "Kin", .kio "Writer" "Instance", .kio "Writer" "Table", .kio "Writer" "Parts", .kio "Store" "Ref", .kio "Store" "Builtin", .kio "Store" "Kin", .kio "Store" "Instance", .kio "Store" "Table", .kio "Store" "Parts", .kib "NoneType" "Ref", .kib "NoneType" "Builtin", .kib "NoneType" "Kin", .kib "NoneType" "Instance", .kib "NoneType" "Table", .kib "NoneType" "Parts", .kib "bool" "Ref"]
def fa6 : List Hd.Fh := [.kib "bool" "Builtin", .kib "bool" "Kin", .kib "bool" "Instance", .kib "bool" "Table", .kib "bool" "Parts", .kib "int" "Ref", .kib "int" "Builtin", .kib "int" "Kin", .kib "int" "Instance", .kib "int" "Table", .kib "int" "Parts", .kib "str" "Ref", .kib "str" "Builtin", .kib "str" "Kin", .kib "str" "Instance", .kib "str" "Table", .kib "str" "Parts", .kib "list" "Ref", .kib "list" "Builtin", .kib "list" "Kin"]
def fa7 : List Hd.Fh := [.kib "list" "Instance", .kib "list" "Table", .kib "list" "Parts", .kib "tuple" "Ref", .kib "tuple" "Builtin", .kib "tuple" "Kin", .kib "tuple" "Instance", .kib "tuple" "Table", .kib "tuple" "Parts", .kib "dict" "Ref", .kib "dict" "Builtin", .kib "dict" "Kin", .kib "dict" "Instance", .kib "dict" "Table", .kib "dict" "Parts", .kob "Ref" "bool", .kob "Ref" "int", .kob "Ref" "str", .kob "Ref" "list", .kob "Ref" "tuple"]
def fa8 : List Hd.Fh := [.kob "Ref" "dict", .kob "Builtin" "bool", .kob "Builtin" "int", .kob "Builtin" "str", .kob "Builtin" "list", .kob "Builtin" "tuple", .kob "Builtin" "dict", .kob "Parts" "bool", .kob "Parts" "int", .kob "Parts" "str", .kob "Parts" "list", .kob "Parts" "tuple", .kob "Parts" "dict", .kob "Table" "bool", .kob "Table" "int", .kob "Table" "str", .kob "Table" "list", .kob "Table" "tuple", .kob "Table" "dict", .kob "Instance" "bool"]
def fa9 : List Hd.Fh := [.kob "Instance" "int", .kob "Instance" "str", .kob "Instance" "list", .kob "Instance" "tuple", .kob "Instance" "dict", .kob "Kin" "bool", .kob "Kin" "int", .kob "Kin" "str", .kob "Kin" "list", .kob "Kin" "tuple", .kob "Kin" "dict", .kob "Closure" "bool", .kob "Closure" "int", .kob "Closure" "str", .kob "Closure" "list", .kob "Closure" "tuple", .kob "Closure" "dict", .kob "Bound" "bool", .kob "Bound" "int", .kob "Bound" "str"]
def fa10 : List Hd.Fh := [.kob "Bound" "list", .kob "Bound" "tuple", .kob "Bound" "dict", .kob "Cursor" "bool", .kob "Cursor" "int", .kob "Cursor" "str", .kob "Cursor" "list", .kob "Cursor" "tuple", .kob "Cursor" "dict", .kob "Writer" "bool", .kob "Writer" "int", .kob "Writer" "str", .kob "Writer" "list", .kob "Writer" "tuple", .kob "Writer" "dict", .kob "Store" "bool", .kob "Store" "int", .kob "Store" "str", .kob "Store" "list", .kob "Store" "tuple"]
def fa11 : List Hd.Fh := [.kob "Store" "dict", .ne "Ref" "Builtin", .ne "Ref" "Parts", .ne "Ref" "Table", .ne "Ref" "Instance", .ne "Ref" "Kin", .ne "Ref" "Closure", .ne "Ref" "Bound", .ne "Ref" "Cursor", .ne "Ref" "Writer", .ne "Ref" "Store", .ne "Builtin" "Parts", .ne "Builtin" "Table", .ne "Builtin" "Instance", .ne "Builtin" "Kin", .ne "Builtin" "Closure", .ne "Builtin" "Bound", .ne "Builtin" "Cursor", .ne "Builtin" "Writer", .ne "Builtin" "Store"]
def fa12 : List Hd.Fh := [.ne "Parts" "Table", .ne "Parts" "Instance", .ne "Parts" "Kin", .ne "Parts" "Closure", .ne "Parts" "Bound", .ne "Parts" "Cursor", .ne "Parts" "Writer", .ne "Parts" "Store", .ne "Table" "Instance", .ne "Table" "Kin", .ne "Table" "Closure", .ne "Table" "Bound", .ne "Table" "Cursor", .ne "Table" "Writer", .ne "Table" "Store", .ne "Instance" "Kin", .ne "Instance" "Closure", .ne "Instance" "Bound", .ne "Instance" "Cursor", .ne "Instance" "Writer"]
def fa13 : List Hd.Fh := [.ne "Instance" "Store", .ne "Kin" "Closure", .ne "Kin" "Bound", .ne "Kin" "Cursor", .ne "Kin" "Writer", .ne "Kin" "Store", .ne "Closure" "Bound", .ne "Closure" "Cursor", .ne "Closure" "Writer", .ne "Closure" "Store", .ne "Bound" "Cursor", .ne "Bound" "Writer", .ne "Bound" "Store", .ne "Cursor" "Writer", .ne "Cursor" "Store", .ne "Writer" "Store", .glo "_law_cell", .keep "_law_cell", .glo "_law_begin", .keep "_law_begin"]
def fa14 : List Hd.Fh := [.glo "_law_draw", .keep "_law_draw", .meth "Ref" "__init__", .meth "Builtin" "__init__", .meth "Instance" "__init__", .meth "Kin" "__init__", .meth "Parts" "__init__", .meth "Closure" "__init__", .meth "Bound" "__init__", .meth "Cursor" "__init__", .meth "Writer" "__init__", .meth "Table" "__init__", .glo "key_of", .keep "key_of", .meth "Table" "put", .meth "Table" "pairs", .meth "Store" "__init__", .meth "Store" "make", .meth "Store" "at", .glo "thing_of"]
def fa15 : List Hd.Fh := [.keep "thing_of", .glo "_law_pick", .keep "_law_pick", .glo "quoted", .keep "quoted", .glo "plain", .keep "plain", .glo "head_of", .keep "head_of", .meth "Writer" "put", .meth "Writer" "write_box", .meth "Writer" "write_parts", .meth "Writer" "write_pairs", .meth "Writer" "write", .glo "write_value", .keep "write_value", .glo "text_of", .keep "text_of", .glo "show", .keep "show"]
def fa16 : List Hd.Fh := [.glo "_law_quoted", .keep "_law_quoted", .glo "_law_plain", .keep "_law_plain", .glo "_law_form", .keep "_law_form", .glo "_law_value", .keep "_law_value", .meth "Ref" "__eq__", .meth "Builtin" "__eq__", .glo "_law_fill", .keep "_law_fill", .glo "law", .keep "law", .free "abs", .free "bool", .free "dict", .free "enumerate", .free "int", .free "isinstance"]
def fa17 : List Hd.Fh := [.free "len", .free "list", .free "max", .free "min", .free "range", .free "str", .free "tuple", .free "zip", .str "ERROR" "Error", .int "MOST_DEEP" 10, .int "MOST_SHOWN" 100]
abbrev fas : List Hd.Fh := fa0 ++ (fa1 ++ (fa2 ++ (fa3 ++ (fa4 ++ (fa5 ++ (fa6 ++ (fa7 ++ (fa8 ++ (fa9 ++ (fa10 ++ (fa11 ++ (fa12 ++ (fa13 ++ (fa14 ++ (fa15 ++ (fa16 ++ (fa17)))))))))))))))))
def fns : List Hd.Df := [⟨.glo "_law_cell", "_law_cell", "_law_cell", s_law_cell⟩,
  ⟨.glo "_law_begin", "_law_begin", "_law_begin", s_law_begin⟩,
  ⟨.glo "_law_draw", "_law_draw", "_law_draw", s_law_draw⟩,
  ⟨.meth "Ref" "__init__", "__init__", "Ref.__init__", s_Ref___init__⟩,
  ⟨.meth "Builtin" "__init__", "__init__", "Builtin.__init__", s_Builtin___init__⟩,
  ⟨.meth "Instance" "__init__", "__init__", "Instance.__init__", s_Instance___init__⟩,
  ⟨.meth "Kin" "__init__", "__init__", "Kin.__init__", s_Kin___init__⟩,
  ⟨.meth "Parts" "__init__", "__init__", "Parts.__init__", s_Parts___init__⟩,
  ⟨.meth "Closure" "__init__", "__init__", "Closure.__init__", s_Closure___init__⟩,
  ⟨.meth "Bound" "__init__", "__init__", "Bound.__init__", s_Bound___init__⟩,
  ⟨.meth "Cursor" "__init__", "__init__", "Cursor.__init__", s_Cursor___init__⟩,
  ⟨.meth "Writer" "__init__", "__init__", "Writer.__init__", s_Writer___init__⟩,
  ⟨.meth "Table" "__init__", "__init__", "Table.__init__", s_Table___init__⟩,
  ⟨.glo "key_of", "key_of", "key_of", s_key_of⟩,
  ⟨.meth "Table" "put", "put", "Table.put", s_Table_put⟩,
  ⟨.meth "Table" "pairs", "pairs", "Table.pairs", s_Table_pairs⟩,
  ⟨.meth "Store" "__init__", "__init__", "Store.__init__", s_Store___init__⟩,
  ⟨.meth "Store" "make", "make", "Store.make", s_Store_make⟩,
  ⟨.meth "Store" "at", "at", "Store.at", s_Store_at⟩,
  ⟨.glo "thing_of", "thing_of", "thing_of", s_thing_of⟩,
  ⟨.glo "_law_pick", "_law_pick", "_law_pick", s_law_pick⟩,
  ⟨.glo "quoted", "quoted", "quoted", s_quoted⟩,
  ⟨.glo "plain", "plain", "plain", s_plain⟩,
  ⟨.glo "head_of", "head_of", "head_of", s_head_of⟩,
  ⟨.meth "Writer" "put", "put", "Writer.put", s_Writer_put⟩,
  ⟨.meth "Writer" "write_box", "write_box", "Writer.write_box", s_Writer_write_box⟩,
  ⟨.meth "Writer" "write_parts", "write_parts", "Writer.write_parts", s_Writer_write_parts⟩,
  ⟨.meth "Writer" "write_pairs", "write_pairs", "Writer.write_pairs", s_Writer_write_pairs⟩,
  ⟨.meth "Writer" "write", "write", "Writer.write", s_Writer_write⟩,
  ⟨.glo "write_value", "write_value", "write_value", s_write_value⟩,
  ⟨.glo "text_of", "text_of", "text_of", s_text_of⟩,
  ⟨.glo "show", "show", "show", s_show⟩,
  ⟨.glo "_law_quoted", "_law_quoted", "_law_quoted", s_law_quoted⟩,
  ⟨.glo "_law_plain", "_law_plain", "_law_plain", s_law_plain⟩,
  ⟨.glo "_law_form", "_law_form", "_law_form", s_law_form⟩,
  ⟨.glo "_law_value", "_law_value", "_law_value", s_law_value⟩,
  ⟨.meth "Ref" "__eq__", "__eq__", "Ref.__eq__", s_Ref___eq__⟩,
  ⟨.meth "Builtin" "__eq__", "__eq__", "Builtin.__eq__", s_Builtin___eq__⟩,
  ⟨.glo "_law_fill", "_law_fill", "_law_fill", s_law_fill⟩,
  ⟨.glo "law", "law", "law", s_law⟩]
def dcs : List (Str × List Str) := []
def rt0 : List Str := [("Ref" : Str), ("Builtin" : Str), ("Parts" : Str), ("Table" : Str), ("Instance" : Str), ("Kin" : Str), ("Closure" : Str), ("Bound" : Str), ("Cursor" : Str), ("Writer" : Str), ("Store" : Str), ("_law_cell" : Str), ("_law_begin" : Str), ("_law_draw" : Str), ("key_of" : Str), ("thing_of" : Str), ("_law_pick" : Str), ("quoted" : Str), ("plain" : Str), ("head_of" : Str)]
def rt1 : List Str := [("write_value" : Str), ("text_of" : Str), ("show" : Str), ("_law_quoted" : Str), ("_law_plain" : Str), ("_law_form" : Str), ("_law_value" : Str), ("_law_fill" : Str), ("law" : Str)]
abbrev rts : List Str := rt0 ++ rt1
abbrev hk : PySem.W.Hook := Hd.hook 5 rts fas fns dcs
def ob (s : PySem.W.SharedT) : Hd.Al := Hd.obsG 5 rts fas fns dcs (HandSHeadRun.getT s)
theorem ob_eq (s : PySem.W.SharedT) : ob s = hk.obs s.abs := Hd.obsG_eq (HandSHeadRun.getT_eq s)
def Run (w : World) : Prop := HandSHeadRun.RunEq Rw (PySem.W.view Rw.prog [38]) hk ob 300000 nms w
theorem run_f (w : World) : Run (w.withFollow "special-get-raises" false) := fun os => by kernel_rfl
theorem run_t (w : World) : Run (w.withFollow "special-get-raises" true) := fun os => by kernel_rfl
theorem run (w : World) : Run w := PySem.W.byRow2 "special-get-raises" (P := Run) run_f run_t w
end
structure Txt (K : PySem.W.Frag) (mg : Str → Option Value) (c : Cs) : Prop where
  no_abs : mg "abs" = none
  no_bool : mg "bool" = none
  no_dict : mg "dict" = none
  no_enumerate : mg "enumerate" = none
  no_int : mg "int" = none
  no_isinstance : mg "isinstance" = none
  no_len : mg "len" = none
  no_list : mg "list" = none
  no_max : mg "max" = none
  no_min : mg "min" = none
  no_range : mg "range" = none
  no_str : mg "str" = none
  no_tuple : mg "tuple" = none
  no_zip : mg "zip" = none
  g_ERROR : ∃ t, mg "ERROR" = some (.str "Error" t)
  g_MOST_DEEP : ∃ t, mg "MOST_DEEP" = some (.int 10 t)
  g_MOST_SHOWN : ∃ t, mg "MOST_SHOWN" = some (.int 100 t)
  mg_Ref : mg "Ref" = some (.ref c.Ref)
  cl_Ref : Cls K c.Ref
  mk_Ref : MkAt K mg "Ref" c.Ref
  mg_Builtin : mg "Builtin" = some (.ref c.Builtin)
  cl_Builtin : Cls K c.Builtin
  mk_Builtin : MkAt K mg "Builtin" c.Builtin
  mg_Parts : mg "Parts" = some (.ref c.Parts)
  cl_Parts : Cls K c.Parts
  mk_Parts : MkAt K mg "Parts" c.Parts
  mg_Table : mg "Table" = some (.ref c.Table)
  cl_Table : Cls K c.Table
  mk_Table : MkAt K mg "Table" c.Table
  mg_Instance : mg "Instance" = some (.ref c.Instance)
  cl_Instance : Cls K c.Instance
  mk_Instance : MkAt K mg "Instance" c.Instance
  mg_Kin : mg "Kin" = some (.ref c.Kin)
  cl_Kin : Cls K c.Kin
  mk_Kin : MkAt K mg "Kin" c.Kin
  mg_Closure : mg "Closure" = some (.ref c.Closure)
  cl_Closure : Cls K c.Closure
  mk_Closure : MkAt K mg "Closure" c.Closure
  mg_Bound : mg "Bound" = some (.ref c.Bound)
  cl_Bound : Cls K c.Bound
  mk_Bound : MkAt K mg "Bound" c.Bound
  mg_Cursor : mg "Cursor" = some (.ref c.Cursor)
  cl_Cursor : Cls K c.Cursor
  mk_Cursor : MkAt K mg "Cursor" c.Cursor
  mg_Writer : mg "Writer" = some (.ref c.Writer)
  cl_Writer : Cls K c.Writer
  mk_Writer : MkAt K mg "Writer" c.Writer
  mg_Store : mg "Store" = some (.ref c.Store)
  cl_Store : Cls K c.Store
  mk_Store : MkAt K mg "Store" c.Store
  pl__rows : Plain K [c.Table] "_rows"
  pl_around : Plain K [c.Writer] "around"
  pl_function : Plain K [c.Bound] "function"
  pl_held : Plain K [c.Parts] "held"
  pl_lines : Plain K [c.Store] "lines"
  pl_methods : Plain K [c.Kin] "methods"
  pl_most : Plain K [c.Writer] "most"
  pl_name : Plain K [c.Builtin, c.Kin] "name"
  pl_named : Plain K [c.Instance] "named"
  pl_number : Plain K [c.Ref, c.Closure] "number"
  pl_output : Plain K [c.Store] "output"
  pl_owner : Plain K [c.Instance, c.Bound] "owner"
  pl_parent : Plain K [c.Kin] "parent"
  pl_pieces : Plain K [c.Writer] "pieces"
  pl_rest : Plain K [c.Cursor] "rest"
  pl_scope : Plain K [c.Closure] "scope"
  pl_store : Plain K [c.Writer] "store"
  pl_taken : Plain K [c.Store] "taken"
  pl_things : Plain K [c.Store] "things"
  pl_wanted : Plain K [c.Closure] "wanted"
  pl_written : Plain K [c.Writer] "written"
  ob : ObjFact K
  kit : Kit K [c.Ref, c.Builtin, c.Parts, c.Table, c.Instance, c.Kin, c.Closure, c.Bound, c.Cursor, c.Writer, c.Store] [c.Ref, c.Builtin, c.Kin, c.Instance, c.Table, c.Parts]
  ne : (c.Ref = c.Builtin) = False ∧ (c.Ref = c.Parts) = False ∧ (c.Ref = c.Table) = False ∧ (c.Ref = c.Instance) = False ∧ (c.Ref = c.Kin) = False ∧ (c.Ref = c.Closure) = False ∧ (c.Ref = c.Bound) = False ∧ (c.Ref = c.Cursor) = False ∧ (c.Ref = c.Writer) = False ∧ (c.Ref = c.Store) = False ∧ (c.Builtin = c.Ref) = False ∧ (c.Builtin = c.Parts) = False ∧ (c.Builtin = c.Table) = False ∧ (c.Builtin = c.Instance) = False ∧ (c.Builtin = c.Kin) = False ∧ (c.Builtin = c.Closure) = False ∧ (c.Builtin = c.Bound) = False ∧ (c.Builtin = c.Cursor) = False ∧ (c.Builtin = c.Writer) = False ∧ (c.Builtin = c.Store) = False ∧ (c.Parts = c.Ref) = False ∧ (c.Parts = c.Builtin) = False ∧ (c.Parts = c.Table) = False ∧ (c.Parts = c.Instance) = False ∧ (c.Parts = c.Kin) = False ∧ (c.Parts = c.Closure) = False ∧ (c.Parts = c.Bound) = False ∧ (c.Parts = c.Cursor) = False ∧ (c.Parts = c.Writer) = False ∧ (c.Parts = c.Store) = False ∧ (c.Table = c.Ref) = False ∧ (c.Table = c.Builtin) = False ∧ (c.Table = c.Parts) = False ∧ (c.Table = c.Instance) = False ∧ (c.Table = c.Kin) = False ∧ (c.Table = c.Closure) = False ∧ (c.Table = c.Bound) = False ∧ (c.Table = c.Cursor) = False ∧ (c.Table = c.Writer) = False ∧ (c.Table = c.Store) = False ∧ (c.Instance = c.Ref) = False ∧ (c.Instance = c.Builtin) = False ∧ (c.Instance = c.Parts) = False ∧ (c.Instance = c.Table) = False ∧ (c.Instance = c.Kin) = False ∧ (c.Instance = c.Closure) = False ∧ (c.Instance = c.Bound) = False ∧ (c.Instance = c.Cursor) = False ∧ (c.Instance = c.Writer) = False ∧ (c.Instance = c.Store) = False ∧ (c.Kin = c.Ref) = False ∧ (c.Kin = c.Builtin) = False ∧ (c.Kin = c.Parts) = False ∧ (c.Kin = c.Table) = False ∧ (c.Kin = c.Instance) = False ∧ (c.Kin = c.Closure) = False ∧ (c.Kin = c.Bound) = False ∧ (c.Kin = c.Cursor) = False ∧ (c.Kin = c.Writer) = False ∧ (c.Kin = c.Store) = False ∧ (c.Closure = c.Ref) = False ∧ (c.Closure = c.Builtin) = False ∧ (c.Closure = c.Parts) = False ∧ (c.Closure = c.Table) = False ∧ (c.Closure = c.Instance) = False ∧ (c.Closure = c.Kin) = False ∧ (c.Closure = c.Bound) = False ∧ (c.Closure = c.Cursor) = False ∧ (c.Closure = c.Writer) = False ∧ (c.Closure = c.Store) = False ∧ (c.Bound = c.Ref) = False ∧ (c.Bound = c.Builtin) = False ∧ (c.Bound = c.Parts) = False ∧ (c.Bound = c.Table) = False ∧ (c.Bound = c.Instance) = False ∧ (c.Bound = c.Kin) = False ∧ (c.Bound = c.Closure) = False ∧ (c.Bound = c.Cursor) = False ∧ (c.Bound = c.Writer) = False ∧ (c.Bound = c.Store) = False ∧ (c.Cursor = c.Ref) = False ∧ (c.Cursor = c.Builtin) = False ∧ (c.Cursor = c.Parts) = False ∧ (c.Cursor = c.Table) = False ∧ (c.Cursor = c.Instance) = False ∧ (c.Cursor = c.Kin) = False ∧ (c.Cursor = c.Closure) = False ∧ (c.Cursor = c.Bound) = False ∧ (c.Cursor = c.Writer) = False ∧ (c.Cursor = c.Store) = False ∧ (c.Writer = c.Ref) = False ∧ (c.Writer = c.Builtin) = False ∧ (c.Writer = c.Parts) = False ∧ (c.Writer = c.Table) = False ∧ (c.Writer = c.Instance) = False ∧ (c.Writer = c.Kin) = False ∧ (c.Writer = c.Closure) = False ∧ (c.Writer = c.Bound) = False ∧ (c.Writer = c.Cursor) = False ∧ (c.Writer = c.Store) = False ∧ (c.Store = c.Ref) = False ∧ (c.Store = c.Builtin) = False ∧ (c.Store = c.Parts) = False ∧ (c.Store = c.Table) = False ∧ (c.Store = c.Instance) = False ∧ (c.Store = c.Kin) = False ∧ (c.Store = c.Closure) = False ∧ (c.Store = c.Bound) = False ∧ (c.Store = c.Cursor) = False ∧ (c.Store = c.Writer) = False
section
variable {P : Program} {w : World} {K : PySem.W.Frag} {mg : Str → Option Value} {base : Heap} {c : Cs}
/-- the law's own state: a number, a place, the script; H0: the heap at the law's start -/
structure Dr (K : PySem.W.Frag) (H0 : Hp) (s sc : Addr) (ns : List Int) (H : Hp) : Prop where
  st : ∃ a k : Int, H s = some (.lst [.int a, .int k, .ref sc]) ∧ 0 ≤ a ∧ 0 ≤ k
  sq : SqL K H0 sc (ns.map V.int)
  sm : Same H0 H
  nw : H0 s = none
  le : ns.length ≤ 63
theorem same_keep {H0 H H' : Hp} {ps : List Addr} (s : Same H0 H) (k : Keep ps H H') (n : ∀ q ∈ ps, H0 q = none) : Same H0 H' := fun a o e => k a o (fun m => by rw [n a m] at e; cases e) (s a o e)
theorem Dr.keep {H0 : Hp} {s sc : Addr} {ns : List Int} {ps : List Addr} {H H' : Hp} (d : Dr K H0 s sc ns H) (k : Keep ps H H') (n1 : s ∉ ps) (n2 : ∀ q ∈ ps, H0 q = none) : Dr K H0 s sc ns H' := by
  obtain ⟨a, j, e, h1, h2⟩ := d.st
  exact ⟨⟨a, j, k _ _ n1 e, h1, h2⟩, d.sq, same_keep d.sm k n2, d.nw, d.le⟩
theorem Dr.same {H0 : Hp} {s sc : Addr} {ns : List Int} {H H' : Hp} (d : Dr K H0 s sc ns H) (k : Same H H') : Dr K H0 s sc ns H' := d.keep (Keep.of (ps := []) k) (by simp) (fun _ h => by cases h)
def spCell (K : PySem.W.Frag) : Sp := fun vs H Q _ => match vs with
  | [.ref a, .int k] => ∃ ns : List Int, SqL K H a (ns.map V.int) ∧ ns.length ≤ 63 ∧ 0 ≤ k ∧ ∀ v : Int, Q (.int v) H
  | _ => False
theorem ok_cell (A : At K mg "_law_cell" "_law_cell" s_law_cell ["script", "k"]) (T : Txt K mg c) : Has P w K mg base CX0 "_law_cell" 1 ["script", "k"] (spCell K) := by
  have Sc := sc_law_cell
  refine has_of A Sc (fun vs H Q E h => ?_) (fun cdv f A outer s H vs Q E hr h => ?_)
  · unfold spCell at h; split at h; rfl; cases h
  · unfold spCell at h
    split at h
    · rename_i a k
      obtain ⟨ns, hS, hn, h0, kk⟩ := h
      refine ⟨_, (pss_cons (ps_if (pt_cmpR op_fLt (fe_var 1) (pe_callB call_fLen (by rfl) T.no_len (by decide +kernel) (pa_cons (fe_var 0) pa_nil)) (nomark _)) (pss_one (ps_ret (pe_ix ix_fx (fe_var 0) (fe_var 1) (fun _ _ => rfl)))) pss_nil)
      (pss_one (ps_ret pe_int))), ?_⟩
      walk_at "fx0"
      walk_at "fx"
      refine ifs_ ?_
      walk_at "fx"
      refine ⟨_, .inl hS, ?_⟩
      rw [List.length_map]
      split
      · rename_i hlt
        obtain ⟨z, ez⟩ := at_ints (ns := ns) (i := k) h0 hlt
        exact ⟨_, .inl hS, _, ez, kk z⟩
      · exact kk 0
    · cases h
def spBegin (K : PySem.W.Frag) : Sp := fun vs H Q _ => match vs with
  | [.ref a, .int k] => 0 ≤ k ∧ ∀ s H1, H s = none → Same H H1 → H1 s = some (.lst [.int 0, .int k, .ref a]) → Q (.ref s) H1
  | _ => False
theorem ok_begin (A : At K mg "_law_begin" "_law_begin" s_law_begin ["script", "k"]) (T : Txt K mg c) : Has P w K mg base CX0 "_law_begin" 1 ["script", "k"] (spBegin K) := by
  have Sc := sc_law_begin
  refine has_of A Sc (fun vs H Q E h => ?_) (fun cdv f A outer s H vs Q E hr h => ?_)
  · unfold spBegin at h; split at h; rfl; cases h
  · unfold spBegin at h
    split at h
    · rename_i a k
      obtain ⟨h0, kk⟩ := h
      refine ⟨_, (pss_one (ps_ret (fe_lst (pa_cons pe_int (pa_cons (fe_var 1) (pa_cons (fe_var 0) pa_nil)))))), ?_⟩
      walk_at "fx0"
      walk_at "fx"
      exact kk
    · cases h
def spDraw (K : PySem.W.Frag) : Sp := fun vs H Q _ => match vs with
  | [.ref s, .int m] => ∃ H0 sc ns, Dr K H0 s sc ns H ∧ 0 < m ∧ m < 1000000000000000000000000000000 ∧ ∀ H1 (d : Int), Keep [s] H H1 → Dr K H0 s sc ns H1 → 0 ≤ d → d < m → Q (.int d) H1
  | _ => False
theorem big_mul {i : Int} (h0 : 0 ≤ i) (h : i < 2 ^ 100) : IntMulOk i i := by
  have b : Builtin.Int.intBits i ≤ 128 := by
    unfold Builtin.Int.intBits
    by_cases hz : i = 0
    · subst hz; decide
    · rw [if_neg (by simpa using hz)]
      have : i.natAbs.log2 < 100 := (Nat.log2_lt (by omega)).mpr (by omega)
      omega
  exact IntMulOk.of_le b b (by decide)
theorem ok_draw (A : At K mg "_law_draw" "_law_draw" s_law_draw ["state", "many"]) (T : Txt K mg c) (H_law_cell : Has P w K mg base CX0 "_law_cell" 1 ["script", "k"] (spCell K)) : Has P w K mg base CX0 "_law_draw" 2 ["state", "many"] (spDraw K) := by
  have Sc := sc_law_draw
  refine has_of A Sc (fun vs H Q E h => ?_) (fun cdv f A outer s H vs Q E hr h => ?_)
  · unfold spDraw at h; split at h; rfl; cases h
  · unfold spDraw at h
    split at h
    · rename_i st m
      obtain ⟨H0, sc, ns, D, h0, h1, kk⟩ := h
      obtain ⟨x, k, es, hx, hk⟩ := D.st
      refine ⟨_, (pss_cons (ps_if (pt_cmpR op_fLt (pe_ix ix_fx (fe_var 0) pe_int (fun _ _ => rfl)) (fe_var 1) (nomark _)) (pss_cons (ps_set (i := 2) Sc.nd rfl (.inl rfl) (pe_ix ix_fx (fe_var 0) pe_int (fun _ _ => rfl)))
      (pss_cons (ps_set (i := 3) Sc.nd rfl (.inl rfl) (fe_call H_law_cell (hr.mono (by walk_at "rm")) (by rfl) pass0 (pa_cons (pe_ix ix_fx (fe_var 0) pe_int (fun _ _ => rfl)) (pa_cons (fe_var 2) pa_nil))))
      (pss_cons (ps_set (i := 4) Sc.nd rfl (.inl rfl) pe_int)
      (pss_cons (ps_asg (pe_op op_fAdd (fe_var 2) pe_int) (pg_sub (fe_var 0) pe_int set_fx))
      (pss_cons (ps_asg (pe_callB call_fAbs (by rfl) T.no_abs (by decide +kernel) (pa_cons (fe_var 3) pa_nil)) (pg_sub (fe_var 0) pe_int set_fx))
      (pss_one (ps_if (pt_chain op_fLt op_fLt (pe_un un_fNeg pe_int) (fe_var 3) pe_int) (pss_cons (ps_set (i := 5) Sc.nd rfl (.inl rfl) (pe_op op_fMod (pe_callTy call_fInt (by rfl) T.no_int (by decide +kernel) (pa_cons (pe_op op_fAdd (pe_op op_fMul (fe_var 3) pe_int) (pe_op op_fMul (pe_op op_fAdd (fe_var 2) pe_int) pe_int)) pa_nil)) (fe_var 4)))
      (pss_one (ps_asg (pe_op op_fAdd (pe_op op_fMod (pe_callTy call_fInt (by rfl) T.no_int (by decide +kernel) (pa_cons (pe_op op_fAdd (pe_op op_fAdd (pe_op op_fMul (fe_var 5) (fe_var 5)) (pe_op op_fMul pe_int (fe_var 5))) (fe_var 2)) pa_nil)) (fe_var 4)) (fe_var 4)) (pg_sub (fe_var 0) pe_int set_fx)))) pss_nil))))))) pss_nil)
      (pss_cons (ps_set (i := 6) Sc.nd rfl (.inl rfl) (pe_op op_fMod (pe_callTy call_fInt (by rfl) T.no_int (by decide +kernel) (pa_cons (pe_ix ix_fx (fe_var 0) pe_int (fun _ _ => rfl)) pa_nil)) (fe_var 1)))
      (pss_cons (ps_asg (pe_op op_fDiv (pe_ix ix_fx (fe_var 0) pe_int (fun _ _ => rfl)) (fe_var 1)) (pg_sub (fe_var 0) pe_int set_fx))
      (pss_one (ps_ret (fe_var 6)))))), ?_⟩
      walk_at "fx0"
      walk_at "fx"
      refine cut_ fun N hN => ifs_ ?_
      walk_at "fx"
      refine ⟨_, rl_l es, _, atI_nat (j := 0) rfl, ?_⟩
      walk_at "fx"
      have fin : ∀ (y : Int) (k' : Int) (v2 v3 v4 v5 : Option V) (H1 : Hp), Keep [st] H H1 → H1 st = some (.lst [.int y, .int k', .ref sc]) → 0 ≤ y → 0 ≤ k' → N [some (.ref st), some (.int m), v2, v3, v4, v5, none] H1 := by
        intro y k' v3 v4 v5 v6 H1 kp e1 g0 g1
        refine hN _ _ ?_
        walk_at "fx"
        refine ⟨_, rl_l e1, _, atI_nat (j := 0) rfl, h0, _, rl_l e1, _, atI_nat (j := 0) rfl, wide_div (b := 100) h0 (by omega) (by decide) (by decide), ?_⟩
        rw [e1]
        refine ⟨0, rfl, ?_⟩
        have kp2 : Keep [st] H (upd H1 st (.lst ([V.int y, .int k', .ref sc].set 0 (.int (y / m))))) := kp.upd (by simp)
        exact kk _ _ kp2 ⟨⟨y / m, k', upd_same, Int.ediv_nonneg g0 (by omega), g1⟩, D.sq, same_keep D.sm kp2 (by intro q hq; rw [List.mem_singleton.mp hq]; exact D.nw), D.nw, D.le⟩ (emod_lo y h0) (emod_hi y h0)
      split
      · refine ⟨_, rl_l es, _, atI_nat (j := 1) rfl, _, rl_l es, _, atI_nat (j := 2) rfl, ?_⟩
        unfold spCell
        refine ⟨ns, D.sm.seq D.sq, D.le, hk, fun v => ?_⟩
        walk_at "fx"
        simp only [es]
        walk_at "fx"
        refine ⟨1, rfl, 0, rfl, ?_⟩
        refine ifs_ ?_
        walk_at "fx"
        have kp : Keep [st] H (upd (upd H st (.lst [.int x, .int (k + 1), .ref sc])) st (.lst [.int (if v < 0 then -v else v), .int (k + 1), .ref sc])) := (Keep.refl.upd (by simp)).upd (by simp)
        have ha : 0 ≤ (if v < 0 then -v else v) := by split <;> omega
        split
        · split
          · have g0 := emod_lo (v * 2654435761 + (k + 1) * 6700417) (m := 618970019642690137449562111) (by decide)
            have g1 := emod_hi (v * 2654435761 + (k + 1) * 6700417) (m := 618970019642690137449562111) (by decide)
            generalize (v * 2654435761 + (k + 1) * 6700417) % 618970019642690137449562111 = y at g0 g1
            have g2 := emod_lo (y * y + 7 * y + k) (m := 618970019642690137449562111) (by decide)
            refine ⟨by walk_at "mul", by walk_at "mul", big_mul g0 (by omega), by walk_at "mul", 0, rfl, ?_⟩
            exact fin _ (k + 1) _ _ _ _ _ (kp.upd (by simp)) upd_same (by omega) (by omega)
          · exact fin _ (k + 1) _ _ _ _ _ kp upd_same ha (by omega)
        · exact fin _ (k + 1) _ _ _ _ _ kp upd_same ha (by omega)
      · exact fin x k _ _ _ _ H Keep.refl es hx hk
    · cases h
end

section
variable {P : Program} {w : World} {K : PySem.W.Frag} {mg : Str → Option Value} {base : Heap} {c : Cs}
def spMk_Ref (K : PySem.W.Frag) (c : Cs) : Sp := fun vs H Q _ => match vs with
  | [v_number] => ∀ y dx H1, H y = none → Same H H1 → H1 y = some (.ins c.Ref dx [("number", v_number)]) → Q (.ref y) H1
  | _ => False
theorem mk_Ref (A : AtM K c.Ref "__init__" "Ref.__init__" s_Ref___init__ ["self", "number"]) (T : Txt K mg c) : HasC P w K mg base CX0 c.Ref "Ref" 1 ["self", "number"] (spMk_Ref K c) := by
  have Sc := sc_Ref___init__
  refine hasC_of T.mk_Ref A Sc (fun vs H Q E h => ?_) (fun cdv f A outer s H vs Q E y dx H0 hr h hy hs h0 => ?_)
  · unfold spMk_Ref at h; split at h; rfl; cases h
  · unfold spMk_Ref at h
    split at h
    · rename_i v_number
      refine ⟨_, (pss_one (fs_fld (fe_var 0) (fe_var 1) T.pl_number rfl)), ?_⟩
      walk_at "fx0"
      walk_at "ox"
      simp only [h0]
      walk_at "ox"
      first
        | exact h y dx _ hy (mk_same hs hy) upd_same
        | exact ⟨by decide, h y dx _ hy (mk_same hs hy) upd_same⟩
    · cases h
def spMk_Builtin (K : PySem.W.Frag) (c : Cs) : Sp := fun vs H Q _ => match vs with
  | [v_name] => ∀ y dx H1, H y = none → Same H H1 → H1 y = some (.ins c.Builtin dx [("name", v_name)]) → Q (.ref y) H1
  | _ => False
theorem mk_Builtin (A : AtM K c.Builtin "__init__" "Builtin.__init__" s_Builtin___init__ ["self", "name"]) (T : Txt K mg c) : HasC P w K mg base CX0 c.Builtin "Builtin" 1 ["self", "name"] (spMk_Builtin K c) := by
  have Sc := sc_Builtin___init__
  refine hasC_of T.mk_Builtin A Sc (fun vs H Q E h => ?_) (fun cdv f A outer s H vs Q E y dx H0 hr h hy hs h0 => ?_)
  · unfold spMk_Builtin at h; split at h; rfl; cases h
  · unfold spMk_Builtin at h
    split at h
    · rename_i v_name
      refine ⟨_, (pss_one (fs_fld (fe_var 0) (fe_var 1) T.pl_name rfl)), ?_⟩
      walk_at "fx0"
      walk_at "ox"
      simp only [h0]
      walk_at "ox"
      first
        | exact h y dx _ hy (mk_same hs hy) upd_same
        | exact ⟨by decide, h y dx _ hy (mk_same hs hy) upd_same⟩
    · cases h
def spMk_Instance (K : PySem.W.Frag) (c : Cs) : Sp := fun vs H Q _ => match vs with
  | [v_owner] => ∀ y dx p_named H1, H y = none → Same H H1 → H1 y = some (.ins c.Instance dx [("owner", v_owner), ("named", (.ref p_named))]) → H p_named = none → H1 p_named = some (.dK []) → p_named ≠ y → Q (.ref y) H1
  | _ => False
theorem mk_Instance (A : AtM K c.Instance "__init__" "Instance.__init__" s_Instance___init__ ["self", "owner"]) (T : Txt K mg c) : HasC P w K mg base CX0 c.Instance "Instance" 1 ["self", "owner"] (spMk_Instance K c) := by
  have Sc := sc_Instance___init__
  refine hasC_of T.mk_Instance A Sc (fun vs H Q E h => ?_) (fun cdv f A outer s H vs Q E y dx H0 hr h hy hs h0 => ?_)
  · unfold spMk_Instance at h; split at h; rfl; cases h
  · unfold spMk_Instance at h
    split at h
    · rename_i v_owner
      refine ⟨_, (pss_cons (fs_fld (fe_var 0) (fe_var 1) T.pl_owner rfl)
      (pss_one (fs_fld (fe_var 0) fe_dnew T.pl_named rfl))), ?_⟩
      walk_at "fx0"
      walk_at "ox"
      simp only [h0]
      walk_at "ox"
      intro p_named G_named n_named s_named e_named
      have ny_named : p_named ≠ y := fun q => by rw [q, upd_same] at n_named; cases n_named
      have y_named := s_named _ _ (upd_same)
      have t_named := (mk_same hs hy).trans s_named
      have f_named := Same.free (mk_same hs hy) n_named
      simp only [y_named]
      walk_at "ox"
      first
        | exact h y dx p_named _ hy (mk_same t_named hy) upd_same f_named ((upd_ne ny_named).trans e_named) ny_named
        | exact ⟨by decide, h y dx p_named _ hy (mk_same t_named hy) upd_same f_named ((upd_ne ny_named).trans e_named) ny_named⟩
    · cases h
def spMk_Kin (K : PySem.W.Frag) (c : Cs) : Sp := fun vs H Q _ => match vs with
  | [v_name, v_parent] => ∀ y dx p_methods H1, H y = none → Same H H1 → H1 y = some (.ins c.Kin dx [("name", v_name), ("parent", v_parent), ("methods", (.ref p_methods))]) → H p_methods = none → H1 p_methods = some (.dK []) → p_methods ≠ y → Q (.ref y) H1
  | _ => False
theorem mk_Kin (A : AtM K c.Kin "__init__" "Kin.__init__" s_Kin___init__ ["self", "name", "parent"]) (T : Txt K mg c) : HasC P w K mg base CX0 c.Kin "Kin" 1 ["self", "name", "parent"] (spMk_Kin K c) := by
  have Sc := sc_Kin___init__
  refine hasC_of T.mk_Kin A Sc (fun vs H Q E h => ?_) (fun cdv f A outer s H vs Q E y dx H0 hr h hy hs h0 => ?_)
  · unfold spMk_Kin at h; split at h; rfl; cases h
  · unfold spMk_Kin at h
    split at h
    · rename_i v_name v_parent
      refine ⟨_, (pss_cons (fs_fld (fe_var 0) (fe_var 1) T.pl_name rfl)
      (pss_cons (fs_fld (fe_var 0) (fe_var 2) T.pl_parent rfl)
      (pss_one (fs_fld (fe_var 0) fe_dnew T.pl_methods rfl)))), ?_⟩
      walk_at "fx0"
      walk_at "ox"
      simp only [h0]
      walk_at "ox"
      intro p_methods G_methods n_methods s_methods e_methods
      have ny_methods : p_methods ≠ y := fun q => by rw [q, upd_same] at n_methods; cases n_methods
      have y_methods := s_methods _ _ (upd_same)
      have t_methods := (mk_same hs hy).trans s_methods
      have f_methods := Same.free (mk_same hs hy) n_methods
      simp only [y_methods]
      walk_at "ox"
      first
        | exact h y dx p_methods _ hy (mk_same t_methods hy) upd_same f_methods ((upd_ne ny_methods).trans e_methods) ny_methods
        | exact ⟨by decide, h y dx p_methods _ hy (mk_same t_methods hy) upd_same f_methods ((upd_ne ny_methods).trans e_methods) ny_methods⟩
    · cases h
def spMk_Parts (K : PySem.W.Frag) (c : Cs) : Sp := fun vs H Q _ => match vs with
  | [.ref v_held] => ∃ xs_held, Rl K H v_held xs_held ∧ ∀ y dx p_held H1, H y = none → Same H H1 → H1 y = some (.ins c.Parts dx [("held", (.ref p_held))]) → H p_held = none → H1 p_held = some (.lst xs_held) → p_held ≠ y → Q (.ref y) H1
  | _ => False
theorem mk_Parts (A : AtM K c.Parts "__init__" "Parts.__init__" s_Parts___init__ ["self", "held"]) (T : Txt K mg c) : HasC P w K mg base CX0 c.Parts "Parts" 1 ["self", "held"] (spMk_Parts K c) := by
  have Sc := sc_Parts___init__
  refine hasC_of T.mk_Parts A Sc (fun vs H Q E h => ?_) (fun cdv f A outer s H vs Q E y dx H0 hr h hy hs h0 => ?_)
  · unfold spMk_Parts at h; split at h; rfl; cases h
  · unfold spMk_Parts at h
    split at h
    · rename_i v_held
      obtain ⟨xs_held, r_held, h⟩ := h
      refine ⟨_, (pss_one (fs_fld (fe_var 0) (pe_callTy call_fListOf (by rfl) T.no_list (by decide +kernel) (pa_cons (fe_var 1) pa_nil)) T.pl_held rfl)), ?_⟩
      walk_at "fx0"
      walk_at "ox"
      refine ⟨_, rl_keep (hs) r_held, ?_⟩
      intro p_held G_held n_held s_held e_held
      have ny_held : p_held ≠ y := fun q => by rw [q, h0] at n_held; cases n_held
      have y_held := s_held _ _ (h0)
      have t_held := (hs).trans s_held
      have f_held := Same.free (hs) n_held
      simp only [y_held]
      walk_at "ox"
      first
        | exact h y dx p_held _ hy (mk_same t_held hy) upd_same f_held ((upd_ne ny_held).trans e_held) ny_held
        | exact ⟨by decide, h y dx p_held _ hy (mk_same t_held hy) upd_same f_held ((upd_ne ny_held).trans e_held) ny_held⟩
    · cases h
def spMk_Closure (K : PySem.W.Frag) (c : Cs) : Sp := fun vs H Q _ => match vs with
  | [v_number, v_wanted, v_scope] => ∀ y dx H1, H y = none → Same H H1 → H1 y = some (.ins c.Closure dx [("number", v_number), ("wanted", v_wanted), ("scope", v_scope)]) → Q (.ref y) H1
  | _ => False
theorem mk_Closure (A : AtM K c.Closure "__init__" "Closure.__init__" s_Closure___init__ ["self", "number", "wanted", "scope"]) (T : Txt K mg c) : HasC P w K mg base CX0 c.Closure "Closure" 1 ["self", "number", "wanted", "scope"] (spMk_Closure K c) := by
  have Sc := sc_Closure___init__
  refine hasC_of T.mk_Closure A Sc (fun vs H Q E h => ?_) (fun cdv f A outer s H vs Q E y dx H0 hr h hy hs h0 => ?_)
  · unfold spMk_Closure at h; split at h; rfl; cases h
  · unfold spMk_Closure at h
    split at h
    · rename_i v_number v_wanted v_scope
      refine ⟨_, (pss_cons (fs_fld (fe_var 0) (fe_var 1) T.pl_number rfl)
      (pss_cons (fs_fld (fe_var 0) (fe_var 2) T.pl_wanted rfl)
      (pss_one (fs_fld (fe_var 0) (fe_var 3) T.pl_scope rfl)))), ?_⟩
      walk_at "fx0"
      walk_at "ox"
      simp only [h0]
      walk_at "ox"
      first
        | exact h y dx _ hy (mk_same hs hy) upd_same
        | exact ⟨by decide, h y dx _ hy (mk_same hs hy) upd_same⟩
    · cases h
def spMk_Bound (K : PySem.W.Frag) (c : Cs) : Sp := fun vs H Q _ => match vs with
  | [v_owner, v_function] => ∀ y dx H1, H y = none → Same H H1 → H1 y = some (.ins c.Bound dx [("owner", v_owner), ("function", v_function)]) → Q (.ref y) H1
  | _ => False
theorem mk_Bound (A : AtM K c.Bound "__init__" "Bound.__init__" s_Bound___init__ ["self", "owner", "function"]) (T : Txt K mg c) : HasC P w K mg base CX0 c.Bound "Bound" 1 ["self", "owner", "function"] (spMk_Bound K c) := by
  have Sc := sc_Bound___init__
  refine hasC_of T.mk_Bound A Sc (fun vs H Q E h => ?_) (fun cdv f A outer s H vs Q E y dx H0 hr h hy hs h0 => ?_)
  · unfold spMk_Bound at h; split at h; rfl; cases h
  · unfold spMk_Bound at h
    split at h
    · rename_i v_owner v_function
      refine ⟨_, (pss_cons (fs_fld (fe_var 0) (fe_var 1) T.pl_owner rfl)
      (pss_one (fs_fld (fe_var 0) (fe_var 2) T.pl_function rfl))), ?_⟩
      walk_at "fx0"
      walk_at "ox"
      simp only [h0]
      walk_at "ox"
      first
        | exact h y dx _ hy (mk_same hs hy) upd_same
        | exact ⟨by decide, h y dx _ hy (mk_same hs hy) upd_same⟩
    · cases h
def spMk_Cursor (K : PySem.W.Frag) (c : Cs) : Sp := fun vs H Q _ => match vs with
  | [.ref v_rest] => ∃ xs_rest, Rl K H v_rest xs_rest ∧ ∀ y dx p_rest H1, H y = none → Same H H1 → H1 y = some (.ins c.Cursor dx [("rest", (.ref p_rest))]) → H p_rest = none → H1 p_rest = some (.lst xs_rest) → p_rest ≠ y → Q (.ref y) H1
  | _ => False
theorem mk_Cursor (A : AtM K c.Cursor "__init__" "Cursor.__init__" s_Cursor___init__ ["self", "rest"]) (T : Txt K mg c) : HasC P w K mg base CX0 c.Cursor "Cursor" 1 ["self", "rest"] (spMk_Cursor K c) := by
  have Sc := sc_Cursor___init__
  refine hasC_of T.mk_Cursor A Sc (fun vs H Q E h => ?_) (fun cdv f A outer s H vs Q E y dx H0 hr h hy hs h0 => ?_)
  · unfold spMk_Cursor at h; split at h; rfl; cases h
  · unfold spMk_Cursor at h
    split at h
    · rename_i v_rest
      obtain ⟨xs_rest, r_rest, h⟩ := h
      refine ⟨_, (pss_one (fs_fld (fe_var 0) (pe_callTy call_fListOf (by rfl) T.no_list (by decide +kernel) (pa_cons (fe_var 1) pa_nil)) T.pl_rest rfl)), ?_⟩
      walk_at "fx0"
      walk_at "ox"
      refine ⟨_, rl_keep (hs) r_rest, ?_⟩
      intro p_rest G_rest n_rest s_rest e_rest
      have ny_rest : p_rest ≠ y := fun q => by rw [q, h0] at n_rest; cases n_rest
      have y_rest := s_rest _ _ (h0)
      have t_rest := (hs).trans s_rest
      have f_rest := Same.free (hs) n_rest
      simp only [y_rest]
      walk_at "ox"
      first
        | exact h y dx p_rest _ hy (mk_same t_rest hy) upd_same f_rest ((upd_ne ny_rest).trans e_rest) ny_rest
        | exact ⟨by decide, h y dx p_rest _ hy (mk_same t_rest hy) upd_same f_rest ((upd_ne ny_rest).trans e_rest) ny_rest⟩
    · cases h
def spMk_Writer (K : PySem.W.Frag) (c : Cs) : Sp := fun vs H Q _ => match vs with
  | [v_store, v_most] => ∀ y dx p_pieces p_around H1, H y = none → Same H H1 → H1 y = some (.ins c.Writer dx [("store", v_store), ("most", v_most), ("pieces", (.ref p_pieces)), ("written", (.int 0)), ("around", (.ref p_around))]) → H p_pieces = none → H1 p_pieces = some (.lst []) → H p_around = none → H1 p_around = some (.lst []) → p_pieces ≠ y → p_around ≠ y → p_around ≠ p_pieces → Q (.ref y) H1
  | _ => False
theorem mk_Writer (A : AtM K c.Writer "__init__" "Writer.__init__" s_Writer___init__ ["self", "store", "most"]) (T : Txt K mg c) : HasC P w K mg base CX0 c.Writer "Writer" 1 ["self", "store", "most"] (spMk_Writer K c) := by
  have Sc := sc_Writer___init__
  refine hasC_of T.mk_Writer A Sc (fun vs H Q E h => ?_) (fun cdv f A outer s H vs Q E y dx H0 hr h hy hs h0 => ?_)
  · unfold spMk_Writer at h; split at h; rfl; cases h
  · unfold spMk_Writer at h
    split at h
    · rename_i v_store v_most
      refine ⟨_, (pss_cons (fs_fld (fe_var 0) (fe_var 1) T.pl_store rfl)
      (pss_cons (fs_fld (fe_var 0) (fe_var 2) T.pl_most rfl)
      (pss_cons (fs_fld (fe_var 0) (fe_lst pa_nil) T.pl_pieces rfl)
      (pss_cons (fs_fld (fe_var 0) pe_int T.pl_written rfl)
      (pss_one (fs_fld (fe_var 0) (fe_lst pa_nil) T.pl_around rfl)))))), ?_⟩
      walk_at "fx0"
      walk_at "ox"
      simp only [h0]
      walk_at "ox"
      intro p_pieces G_pieces n_pieces s_pieces e_pieces
      have ny_pieces : p_pieces ≠ y := fun q => by rw [q, upd_same] at n_pieces; cases n_pieces
      have y_pieces := s_pieces _ _ (upd_same)
      have t_pieces := (mk_same hs hy).trans s_pieces
      have f_pieces := Same.free (mk_same hs hy) n_pieces
      simp only [y_pieces]
      walk_at "ox"
      intro p_around G_around n_around s_around e_around
      have ny_around : p_around ≠ y := fun q => by rw [q, upd_same] at n_around; cases n_around
      have y_around := s_around _ _ (upd_same)
      have t_around := (mk_same t_pieces hy).trans s_around
      have f_around := Same.free (mk_same t_pieces hy) n_around
      simp only [y_around]
      walk_at "ox"
      have q_1_0 : p_around ≠ p_pieces := fun q => by rw [q, (upd_ne ny_pieces).trans e_pieces] at n_around; cases n_around
      first
        | exact h y dx p_pieces p_around _ hy (mk_same t_around hy) upd_same f_pieces ((upd_ne ny_pieces).trans (s_around _ _ ((upd_ne ny_pieces).trans e_pieces))) f_around ((upd_ne ny_around).trans e_around) ny_pieces ny_around q_1_0
        | exact ⟨by decide, h y dx p_pieces p_around _ hy (mk_same t_around hy) upd_same f_pieces ((upd_ne ny_pieces).trans (s_around _ _ ((upd_ne ny_pieces).trans e_pieces))) f_around ((upd_ne ny_around).trans e_around) ny_pieces ny_around q_1_0⟩
    · cases h
end
section
variable {P : Program} {w : World} {K : PySem.W.Frag} {mg : Str → Option Value} {base : Heap} {c : Cs}
/-- the content of a key's tuple -/
def kxs (v : V) : List V := match v with
  | .bl _ => [.str "boolean", v]
  | _ => [.str "key", v]
def kN (v : V) : NestedKey := tupK (kxs v)
theorem kxs_sc {v : V} (h : scV v = true) : (kxs v).all scV = true := by cases v <;> first | rfl | cases h
theorem leaf_bl {p q : Bool} (h : leafK (.bl p) = leafK (.bl q)) : p = q := by
  have h' := NestedKey.num.inj (show NestedKey.num (if p = true then 1 else 0) = .num (if q = true then 1 else 0) from h)
  cases p <;> cases q <;> first
    | rfl
    | exact absurd h' (by decide)
theorem leafK_inj {x y : V} (hx : scV x = true) (hy : scV y = true) (b : (∃ p, x = .bl p) ↔ ∃ p, y = .bl p) (h : leafK x = leafK y) : x = y := by
  cases x <;> cases y <;> first
    | rfl
    | (exact congrArg V.bl (leaf_bl h))
    | (cases hx; done)
    | (cases hy; done)
    | (exact absurd (b.mp ⟨_, rfl⟩) (fun ⟨_, z⟩ => by cases z))
    | (exact absurd (b.mpr ⟨_, rfl⟩) (fun ⟨_, z⟩ => by cases z))
    | (cases h; done)
    | (cases h; rfl)
def tagV : V → Str
  | .bl _ => "boolean"
  | _ => "key"
theorem kN_inj {x y : V} (hx : scV x = true) (hy : scV y = true) (h : kN x = kN y) : x = y := by
  have h' := NestedKey.tup.inj (show NestedKey.tup ((kxs x).map leafK) = .tup ((kxs y).map leafK) from h)
  have e : ∀ v : V, (kxs v).map leafK = [.text (tagV v), leafK v] := fun v => by cases v <;> rfl
  rw [e, e] at h'
  have ht := NestedKey.text.inj (List.cons.inj h').1
  have hl := (List.cons.inj (List.cons.inj h').2).1
  refine leafK_inj hx hy ?_ hl
  have n1 : ¬ ((Str.ofString "boolean") = Str.ofString "key") := by decide +kernel
  have n2 : ¬ ((Str.ofString "key") = Str.ofString "boolean") := by decide +kernel
  cases x <;> cases y <;> first
    | (exact absurd ht n1)
    | (exact absurd ht n2)
    | (simp; done)
/-- the entries of a table: keys and values in order -/
def RowE (H : Hp) (e : NEnt) (r : V × V) : Prop := e.1 = kN r.1 ∧ scV r.1 = true ∧ ∃ tp, e.2.2 = .ref tp ∧ H tp = some (.tup [r.1, r.2])
structure TabR (w : World) (H : Hp) (d : Addr) (rows : List (V × V)) : Prop where
  ex : ∃ es, DN w H d es ∧ H d = some (nkO w d es) ∧ Paired (RowE H) es rows
  nd : (rows.map (·.1)).Nodup
def IsTab (c : Cs) (H : Hp) (a d : Addr) : Prop := ∃ dx, H a = some (.ins c.Table dx [("_rows", .ref d)])
theorem IsTab.same {H H' : Hp} {a d : Addr} (h : IsTab c H a d) (s : Same H H') : IsTab c H' a d := h.imp fun _ e => s _ _ e
theorem RowE.mono {H H' : Hp} {e : NEnt} {r : V × V} (h : RowE H e r) (s : ∀ b xs, H b = some (.tup xs) → H' b = some (.tup xs)) : RowE H' e r := ⟨h.1, h.2.1, h.2.2.imp fun _ ⟨x, y⟩ => ⟨x, s _ _ y⟩⟩
theorem TabR.mono {H H' : Hp} {d : Addr} {rows : List (V × V)} (h : TabR w H d rows) (hd : ∀ o, H d = some o → H' d = some o) (s : ∀ b xs, H b = some (.tup xs) → H' b = some (.tup xs)) : TabR w H' d rows := by
  obtain ⟨⟨es, D, e0, r⟩, nd⟩ := h
  exact ⟨⟨es, ⟨.inl (hd _ e0), fun e he => (D.ks e he).mono s⟩, hd _ e0, Paired.mapP r fun _ _ q => q.mono s⟩, nd⟩
theorem TabR.same {H H' : Hp} {d : Addr} {rows : List (V × V)} (h : TabR w H d rows) (s : Same H H') : TabR w H' d rows := h.mono (fun _ e => s _ _ e) fun _ _ e => s _ _ e
/-- behind a change of something that is no tuple, elsewhere -/
theorem TabR.keep {H H' : Hp} {d : Addr} {rows : List (V × V)} {ps : List Addr} (h : TabR w H d rows) (k : Keep ps H H') (n : d ∉ ps) (nt : ∀ p ∈ ps, ∀ xs, H p ≠ some (.tup xs)) : TabR w H' d rows :=
  h.mono (fun _ e => k _ _ n e) fun b xs e => k _ _ (fun m => nt b m xs e) e
def rowAt (rows : List (V × V)) (k : V) : Option V := (rows.find? fun r => decide (r.1 = k)).map (·.2)
def putR (rows : List (V × V)) (k v : V) : List (V × V) := if (rowAt rows k).isSome = true then rows.map (fun r => if r.1 = k then (k, v) else r) else rows ++ [(k, v)]
def dropR (rows : List (V × V)) (k : V) : List (V × V) := rows.filter fun r => decide (r.1 ≠ k)
theorem rows_at {H : Hp} {k : V} (hk : scV k = true) : ∀ {es : List NEnt} {rows : List (V × V)}, Paired (RowE H) es rows → match atN es (kN k), rowAt rows k with
    | some (.ref tp), some v => H tp = some (.tup [k, v])
    | none, none => True
    | _, _ => False := by
  intro es rows h
  induction h with
  | nil => exact trivial
  | @cons e r es rows h t ih =>
    obtain ⟨h1, h2, tp, h3, h4⟩ := h
    by_cases q : r.1 = k
    · have a : atN (e :: es) (kN k) = some e.2.2 := by simp [atN, List.find?_cons, h1, q]
      have b : rowAt (r :: rows) k = some r.2 := by simp [rowAt, List.find?_cons, q]
      rw [a, b, h3]
      rw [q] at h4
      exact h4
    · have nq : ¬ e.1 = kN k := fun z => q (kN_inj h2 hk (h1.symm.trans z))
      have a : atN (e :: es) (kN k) = atN es (kN k) := by simp [atN, List.find?_cons, nq]
      have b : rowAt (r :: rows) k = rowAt rows k := by simp [rowAt, List.find?_cons, q]
      rw [a, b]
      exact ih
theorem rows_some {H : Hp} {k : V} (hk : scV k = true) {es : List NEnt} {rows : List (V × V)} (h : Paired (RowE H) es rows) : (atN es (kN k)).isSome = (rowAt rows k).isSome := by
  have := rows_at hk h
  split at this
  · rename_i e1 e2; rw [e1, e2]; rfl
  · rename_i e1 e2; rw [e1, e2]
  · exact this.elim
theorem rows_put {H : Hp} {k v : V} {q tp : Addr} (hk : scV k = true) (ht : H tp = some (.tup [k, v])) {es : List NEnt} {rows : List (V × V)} (h : Paired (RowE H) es rows) : Paired (RowE H) (putN es (kN k) q (.ref tp)) (putR rows k v) := by
  unfold putN putR
  rw [rows_some hk h]
  split
  · rename_i hs
    clear hs
    induction h with
    | nil => exact .nil
    | @cons e r es rows h t ih =>
      rw [List.map_cons, List.map_cons]
      refine .cons ?_ ih
      obtain ⟨h1, h2, h3⟩ := h
      by_cases z : r.1 = k
      · rw [if_pos z, if_pos (by rw [h1, z])]
        exact ⟨by rw [h1, z], hk, tp, rfl, ht⟩
      · rw [if_neg z, if_neg (fun w => z (kN_inj h2 hk (h1.symm.trans w)))]
        exact ⟨h1, h2, h3⟩
  · exact Paired.snoc h ⟨rfl, hk, tp, rfl, ht⟩
theorem rows_drop {H : Hp} {k : V} (hk : scV k = true) {es : List NEnt} {rows : List (V × V)} (h : Paired (RowE H) es rows) : Paired (RowE H) (dropN es (kN k)) (dropR rows k) := by
  unfold dropN dropR
  induction h with
  | nil => exact .nil
  | @cons e r es rows h t ih =>
    obtain ⟨h1, h2, h3⟩ := h
    rw [List.filter_cons, List.filter_cons]
    by_cases z : r.1 = k
    · rw [if_neg (by simp [h1, z]), if_neg (by simp [z])]
      exact ih
    · rw [if_pos (by simpa using fun w => z (kN_inj h2 hk (h1.symm.trans w))), if_pos (by simp [z])]
      exact .cons ⟨h1, h2, h3⟩ ih
theorem rowAt_mem {rows : List (V × V)} {k : V} : (rowAt rows k).isSome = true ↔ k ∈ rows.map (·.1) := by
  unfold rowAt
  rw [Option.isSome_map, List.find?_isSome]
  simp
theorem putR_nd {rows : List (V × V)} {k v : V} (h : (rows.map (·.1)).Nodup) : ((putR rows k v).map (·.1)).Nodup := by
  unfold putR
  split
  · have e : (rows.map fun r => if r.1 = k then (k, v) else r).map (·.1) = rows.map (·.1) := by
      rw [List.map_map]
      refine List.map_congr_left fun r _ => ?_
      show (if r.1 = k then (k, v) else r).1 = r.1
      split
      · rename_i z; exact z.symm
      · rfl
    rw [e]; exact h
  · rename_i z
    rw [rowAt_mem] at z
    rw [List.map_append, List.nodup_append]
    refine ⟨h, by simp, fun a ha b hb e => ?_⟩
    simp at hb
    subst hb
    subst e
    exact z ha
theorem dropR_nd {rows : List (V × V)} {k : V} (h : (rows.map (·.1)).Nodup) : ((dropR rows k).map (·.1)).Nodup := (List.filter_sublist.map _).nodup h
theorem rows_get {H : Hp} : ∀ {es : List NEnt} {rows : List (V × V)}, Paired (RowE H) es rows → (rows.map (·.1)).Nodup → ∀ {i : Nat} {x : NEnt}, es[i]? = some x → atN es x.1 = some x.2.2 := by
  intro es rows h
  induction h with
  | nil => intro _ i x hx; simp at hx
  | @cons e r es rows h t ih =>
    intro nd i x hx
    obtain ⟨h1, h2, h3⟩ := h
    rw [List.map_cons, List.nodup_cons] at nd
    cases i with
    | zero =>
      simp at hx
      subst hx
      simp [atN, List.find?_cons]
    | succ j =>
      simp at hx
      obtain ⟨r', hr', k1, k2, k3⟩ := paired_get t hx
      have ne : ¬ e.1 = x.1 := fun z => by
        rw [h1, k1] at z
        have := kN_inj h2 k2 z
        exact nd.1 (by rw [this]; exact List.mem_map_of_mem (List.mem_of_getElem? hr'))
      have a : atN (e :: es) x.1 = atN es x.1 := by simp [atN, List.find?_cons, ne]
      rw [a]
      exact ih nd.2 hx
theorem rowAt_get : ∀ {rows : List (V × V)}, (rows.map (·.1)).Nodup → ∀ {i : Nat} {r : V × V}, rows[i]? = some r → rowAt rows r.1 = some r.2
  | [], _, i, r, h => by simp at h
  | q :: rows, nd, 0, r, h => by
    simp at h
    subst h
    simp [rowAt, List.find?_cons]
  | q :: rows, nd, i + 1, r, h => by
    simp at h
    rw [List.map_cons, List.nodup_cons] at nd
    have ne : ¬ q.1 = r.1 := fun z => nd.1 (by rw [z]; exact List.mem_map_of_mem (List.mem_of_getElem? h))
    have a : rowAt (q :: rows) r.1 = rowAt rows r.1 := by simp [rowAt, List.find?_cons, ne]
    rw [a]
    exact rowAt_get nd.2 h
theorem map_off {rows : List (V × V)} {k v : V} (h : k ∉ rows.map (·.1)) : (rows.map fun r => if r.1 = k then (k, v) else r) = rows := by
  induction rows with
  | nil => rfl
  | cons r rows ih =>
    rw [List.map_cons, List.mem_cons, not_or] at h
    rw [List.map_cons, if_neg (Ne.symm h.1), ih h.2]
theorem drop_off {rows : List (V × V)} {k : V} (h : k ∉ rows.map (·.1)) : dropR rows k = rows := by
  unfold dropR
  rw [List.filter_eq_self]
  intro r hr
  exact decide_eq_true fun e => h (by rw [← e]; exact List.mem_map_of_mem hr)
/-- where a key stands -/
theorem row_cases (k : V) : ∀ {rows : List (V × V)}, (rows.map (·.1)).Nodup → (∃ i r, rows[i]? = some r ∧ r.1 = k ∧ rows.findIdx? (fun r => decide (r.1 = k)) = some i ∧ (rowAt rows k).isSome = true ∧ dropR rows k = rows.eraseIdx i ∧ ∀ v, putR rows k v = rows.set i (k, v)) ∨
    (rows.findIdx? (fun r => decide (r.1 = k)) = none ∧ (rowAt rows k).isSome = false ∧ k ∉ rows.map (·.1) ∧ ∀ v, putR rows k v = rows ++ [(k, v)])
  | [], _ => .inr ⟨rfl, rfl, by simp, fun v => rfl⟩
  | r :: rows, nd => by
    rw [List.map_cons, List.nodup_cons] at nd
    by_cases e : r.1 = k
    · have hno : k ∉ rows.map (·.1) := by rw [← e]; exact nd.1
      have hs : (rowAt (r :: rows) k).isSome = true := by simp [rowAt, List.find?_cons, e]
      refine .inl ⟨0, r, rfl, e, by simp [List.findIdx?_cons, e], hs, ?_, fun v => ?_⟩
      · have : dropR (r :: rows) k = dropR rows k := by
          unfold dropR
          rw [List.filter_cons, if_neg (by simp [e])]
        rw [this, drop_off hno]
        rfl
      · unfold putR
        rw [if_pos hs, List.map_cons, if_pos e, map_off hno]
        rfl
    · have hs : (rowAt (r :: rows) k) = rowAt rows k := by simp [rowAt, List.find?_cons, e]
      rcases row_cases k nd.2 with ⟨i, r', h1, h2, h3, h4, h5, h6⟩ | ⟨h3, h4, hno, h6⟩
      · refine .inl ⟨i + 1, r', h1, h2, by simp [List.findIdx?_cons, e, h3], by rw [hs]; exact h4, ?_, fun v => ?_⟩
        · have : dropR (r :: rows) k = r :: dropR rows k := by
            unfold dropR
            rw [List.filter_cons, if_pos (by simp [e])]
          rw [this, h5]
          first | rfl | skip
        · have := h6 v
          unfold putR at this ⊢
          rw [if_pos h4] at this
          rw [hs, if_pos h4, List.map_cons, if_neg e, this]
          try rfl
      · refine .inr ⟨by simp [List.findIdx?_cons, e, h3], by rw [hs]; exact h4, by rw [List.map_cons, List.mem_cons, not_or]; exact ⟨Ne.symm e, hno⟩, fun v => ?_⟩
        unfold putR
        rw [hs, if_neg (by rw [h4]; decide)]
        try rfl
theorem paired_erase {α β : Type} {F : α → β → Prop} {xs : List α} {ys : List β} (h : Paired F xs ys) : ∀ i : Nat, Paired F (xs.eraseIdx i) (ys.eraseIdx i) := by
  induction h with
  | nil => intro i; exact .nil
  | cons r t ih =>
    intro i
    cases i with
    | zero => exact t
    | succ j => exact .cons r (ih j)
theorem paired_set {α β : Type} {F : α → β → Prop} {xs : List α} {ys : List β} {a : α} {b : β} (h : Paired F xs ys) (hab : F a b) : ∀ i : Nat, Paired F (xs.set i a) (ys.set i b) := by
  induction h with
  | nil => intro i; exact .nil
  | cons r t ih =>
    intro i
    cases i with
    | zero => exact .cons hab t
    | succ j => exact .cons r (ih j)
theorem putR_len (rows : List (V × V)) (k v : V) : (putR rows k v).length ≤ rows.length + 1 := by
  unfold putR
  split
  · rw [List.length_map]; omega
  · rw [List.length_append]; exact Nat.le_refl _
end

section
variable {P : Program} {w : World} {K : PySem.W.Frag} {mg : Str → Option Value} {base : Heap} {c : Cs}
def spMkTab (w : World) (c : Cs) : Sp := fun vs H Q _ => match vs with
  | [] => ∀ y d H1, H y = none → H d = none → Same H H1 → IsTab c H1 y d → TabR w H1 d [] → Q (.ref y) H1
  | _ => False
theorem ok_mktab (A : AtM K c.Table "__init__" "Table.__init__" s_Table___init__ ["self"]) (T : Txt K mg c) : HasC P w K mg base CX0 c.Table "Table" 1 ["self"] (spMkTab w c) := by
  have Sc := sc_Table___init__
  refine hasC_of T.mk_Table A Sc (fun vs H Q E h => ?_) (fun cdv f A outer s H vs Q E y dx H0 hr h hy hs h0 => ?_)
  · unfold spMkTab at h; split at h; rfl; cases h
  · unfold spMkTab at h
    split at h
    · refine ⟨_, (pss_one (fs_fld (fe_var 0) (pe_newN (w := w) rfl) T.pl__rows rfl)), ?_⟩
      walk_at "fx0"
      walk_at "ox"
      intro d H1 nd s1 e1
      have ny : d ≠ y := fun q => by rw [q, h0] at nd; cases nd
      have ey := s1 _ _ h0
      simp only [ey]
      walk_at "ox"
      first
        | exact h y d _ hy (hs.free nd) (mk_same (hs.trans s1) hy) ⟨dx, upd_same⟩ ⟨⟨[], ⟨.inl ((upd_ne ny).trans e1), fun _ z => by cases z⟩, (upd_ne ny).trans e1, .nil⟩, List.nodup_nil⟩
        | exact ⟨by decide, h y d _ hy (hs.free nd) (mk_same (hs.trans s1) hy) ⟨dx, upd_same⟩ ⟨⟨[], ⟨.inl ((upd_ne ny).trans e1), fun _ z => by cases z⟩, (upd_ne ny).trans e1, .nil⟩, List.nodup_nil⟩⟩
    · cases h
def spKeyOf : Sp := fun vs H Q _ => match vs with
  | [v] => scV v = true ∧ ∀ q H1, H q = none → Same H H1 → isKey H1 q (kxs v) → Q (.ref q) H1
  | _ => False
theorem ok_keyof (A : At K mg "key_of" "key_of" s_key_of ["value"]) (T : Txt K mg c) : Has P w K mg base CX0 "key_of" 1 ["value"] spKeyOf := by
  have Sc := sc_key_of
  refine has_of A Sc (fun vs H Q E h => ?_) (fun cdv f A outer s H vs Q E hr h => ?_)
  · unfold spKeyOf at h; split at h; rfl; cases h
  · unfold spKeyOf at h
    split at h
    · rename_i v
      obtain ⟨hv, h⟩ := h
      refine ⟨_, (pss_cons (ps_if (pt_val (pe_callB (call_fIsiA T.kit) (by rfl) T.no_isinstance (by decide +kernel) (pa_cons (fe_var 0) (pa_cons (fe_ty (n := "bool") (by rfl) T.no_bool (by decide +kernel)) pa_nil)))) (pss_one (ps_ret (fe_tup (pa_cons pe_str (pa_cons (fe_var 0) pa_nil))))) pss_nil)
      (pss_one (ps_ret (fe_tup (pa_cons pe_str (pa_cons (fe_var 0) pa_nil)))))), ?_⟩
      walk_at "fx0"
      cases v <;> first
        | (cases hv; done)
        | (repeat (walk_at "oxs")
           intro q H1 nq sm eq
           exact h q H1 nq sm ⟨eq, rfl⟩)
    · cases h
def spHas (w : World) (c : Cs) : Sp := fun vs H Q _ => match vs with
  | [.ref a, v] => ∃ d rows, IsTab c H a d ∧ TabR w H d rows ∧ scV v = true ∧ ∀ H1, Same H H1 → Q (.bl (rowAt rows v).isSome) H1
  | _ => False

def spValOf (w : World) (c : Cs) : Sp := fun vs H Q _ => match vs with
  | [.ref a, v] => ∃ d rows x, IsTab c H a d ∧ TabR w H d rows ∧ scV v = true ∧ rowAt rows v = some x ∧ ∀ H1, Same H H1 → Q x H1
  | _ => False

def spPut (w : World) (c : Cs) : Sp := fun vs H Q _ => match vs with
  | [.ref a, k, v] => ∃ d rows, IsTab c H a d ∧ TabR w H d rows ∧ scV k = true ∧ rows.length < 100000 ∧ ∀ H1, Keep [d] H H1 → TabR w H1 d (putR rows k v) → Q .non H1
  | _ => False
theorem DN.upd {H : Hp} {d : Addr} {es es' : List NEnt} (D : DN w H d es) (e0 : H d = some (nkO w d es)) (sub : ∀ e ∈ es', KeyT H e.1 e.2.1) : DN w (upd H d (nkO w d es')) d es' :=
  ⟨.inl upd_same, fun e he => (sub e he).mono fun b xs eb => by rw [upd_ne (ne_of eb e0 (Ne.symm nkO_ne_tup))]; exact eb⟩
theorem putN_mem {es : List NEnt} {k : NestedKey} {q : Addr} {v : V} {e : NEnt} (h : e ∈ putN es k q v) : (∃ e0 ∈ es, e.1 = e0.1 ∧ e.2.1 = e0.2.1) ∨ (e.1 = k ∧ e.2.1 = q) := by
  unfold putN at h
  split at h
  · obtain ⟨e0, he, rfl⟩ := List.mem_map.mp h
    refine .inl ⟨e0, he, ?_⟩
    split <;> exact ⟨rfl, rfl⟩
  · rcases List.mem_append.mp h with h | h
    · exact .inl ⟨e, h, rfl, rfl⟩
    · rw [List.mem_singleton.mp h]; exact .inr ⟨rfl, rfl⟩
theorem ok_put (A : AtM K c.Table "put" "Table.put" s_Table_put ["self", "key", "value"]) (T : Txt K mg c) (H_key_of : Has P w K mg base CX0 "key_of" 1 ["value"] spKeyOf) : HasM P w K mg base CX0 c.Table "put" 2 ["self", "key", "value"] (spPut w c) := by
  have Sc := sc_Table_put
  refine hasM_of A Sc (fun vs H Q E h => ?_) (fun cdv f A outer s H vs Q E hr h => ?_)
  · unfold spPut at h; split at h; rfl; cases h
  · unfold spPut at h
    split at h
    · rename_i a k v
      obtain ⟨d, rows, ⟨dx, ea⟩, TR, hk, hl, h⟩ := h
      refine ⟨_, (pss_one (ps_putN (w := w) rfl hr.units (fe_fld (fe_var 0) T.pl__rows rfl) (fe_call H_key_of (hr.mono (by walk_at "rm")) (by rfl) pass0 (pa_cons (fe_var 1) pa_nil)) (fe_tup (pa_cons (fe_var 1) (pa_cons (fe_var 2) pa_nil))) rfl)), ?_⟩
      walk_at "fx0"
      walk_at "ox"
      intro tp H1 ntp s1 etp
      have ea1 := s1 _ _ ea
      simp only [ea1]
      walk_at "ox"
      refine ⟨hk, fun q H2 nq s2 kq => ?_⟩
      obtain ⟨⟨es, D, e0, r⟩, nd⟩ := TR.same (s1.trans s2)
      have hle : es.length = rows.length := Paired.length r
      refine ⟨es, D, e0, _, kq, len_line' (by omega), ?_⟩
      have ne : ∀ b xs, H2 b = some (.tup xs) → upd H2 d (nkO w d (putN es (tupK (kxs k)) q (.ref tp))) b = some (.tup xs) := fun b xs eb => by
        rw [upd_ne (ne_of eb e0 (Ne.symm nkO_ne_tup))]; exact eb
      refine h _ ((Keep.of (s1.trans s2)).upd (by simp)) ⟨⟨_, DN.upd D e0 (fun e he => ?_), upd_same, Paired.mapP (rows_put (q := q) hk (s2 _ _ etp) r) fun _ _ z => z.mono ne⟩, putR_nd nd⟩
      rcases putN_mem he with ⟨e', he', h1, h2⟩ | ⟨h1, h2⟩
      · rw [h1, h2]; exact D.ks e' he'
      · rw [h1, h2]; exact kq.t
    · cases h
def spTake (w : World) (c : Cs) : Sp := fun vs H Q _ => match vs with
  | [.ref a, k] => ∃ d rows, IsTab c H a d ∧ TabR w H d rows ∧ scV k = true ∧ (rowAt rows k).isSome = true ∧ ∀ H1, Keep [d] H H1 → TabR w H1 d (dropR rows k) → Q .non H1
  | _ => False

def spMany (w : World) (c : Cs) : Sp := fun vs H Q _ => match vs with
  | [.ref a] => ∃ d rows, IsTab c H a d ∧ TabR w H d rows ∧ Q (.int rows.length) H
  | _ => False
theorem ok_many (A : AtP K c.Table "many" "Table.many" s_Table_many ["self"]) (T : Txt K mg c) : HasP P w K mg base CX0 c.Table "many" 1 ["self"] (spMany w c) := by
  have Sc := sc_Table_many
  refine hasP_of A Sc (fun vs H Q E h => ?_) (fun cdv f A outer s H vs Q E hr h => ?_)
  · unfold spMany at h; split at h; rfl; cases h
  · unfold spMany at h
    split at h
    · rename_i a
      obtain ⟨d, rows, ⟨dx, ea⟩, ⟨⟨es, D, e0, r⟩, nd⟩, h⟩ := h
      refine ⟨_, (pss_one (ps_ret (pe_callB (call_fLenN (w := w) rfl) (by rfl) T.no_len (by decide +kernel) (pa_cons (fe_fld (fe_var 0) T.pl__rows rfl) pa_nil)))), ?_⟩
      walk_at "fx0"
      walk_at "ox"
      simp only [ea]
      walk_at "ox"
      refine ⟨es, D, ?_⟩
      rw [show es.length = rows.length from Paired.length r]
      exact h
    · cases h
/-- the entries as tuples -/
def RowsT (H : Hp) (ts : List Addr) (rows : List (V × V)) : Prop := Paired (fun t r => H t = some (.tup [r.1, r.2])) ts rows
def spPairs (w : World) (c : Cs) : Sp := fun vs H Q _ => match vs with
  | [.ref a] => ∃ d rows, IsTab c H a d ∧ TabR w H d rows ∧ rows.length ≤ 100000 ∧ ∀ p ts H1, H p = none → Same H H1 → H1 p = some (.lst (ts.map V.ref)) → RowsT H1 ts rows → Q (.ref p) H1
  | _ => False
theorem paired_take {α β : Type} {F : α → β → Prop} {xs : List α} {ys : List β} (h : Paired F xs ys) {i : Nat} {x : α} (e : xs[i]? = some x) : ∃ y, ys[i]? = some y ∧ F x y := paired_get h e
theorem ok_pairs (A : AtM K c.Table "pairs" "Table.pairs" s_Table_pairs ["self"]) (T : Txt K mg c) : HasM P w K mg base CX0 c.Table "pairs" 1 ["self"] (spPairs w c) := by
  have Sc := sc_Table_pairs
  refine hasM_of A Sc (fun vs H Q E h => ?_) (fun cdv f A outer s H vs Q E hr h => ?_)
  · unfold spPairs at h; split at h; rfl; cases h
  · unfold spPairs at h
    split at h
    · rename_i a
      obtain ⟨d, rows, ⟨dx, ea⟩, ⟨⟨es, D, e0, r⟩, nd⟩, hl, h⟩ := h
      refine ⟨_, (pss_one (ps_ret (pe_lock (pe_lc (own := [("at", 1)]) (by rfl) Sc.nd (pi_keysN (w := w) rfl (fe_fld (fe_var 0) T.pl__rows rfl)) (blkOk_by (own := [("at", 1)]) (N := ["self", "at"]) (sc := defScope s_Table_pairs) (by decide +kernel)) (fun _ _ _ _ _ => (pg_name (i := 1) Sc.nd rfl (.inl rfl))) (fun _ _ _ _ _ => pts_nil) (fun _ _ _ _ _ => (pe_getN (w := w) rfl hr.units (fe_fld (fe_var 0) T.pl__rows rfl) (fe_var 1) (fun _ _ => rfl))))))), ?_⟩
      walk_at "fx0"
      refine ⟨d, _, e0, trivial, fun od => ?_⟩
      have nad : a ≠ d := fun q => by
        rw [q, e0] at ea
        have z' : HO.ext _ = HO.ins _ _ _ := Option.some.inj ea
        cases z'
      have ea1 : upd H d (.frz od (nkO w d es)) a = some (.ins c.Table dx [("_rows", .ref d)]) := (upd_ne nad).trans ea
      refine lc_ ?_
      repeat (first | walk_at "oxs" | simp only [ea1])
      refine ⟨od, es, rfl, fun D0 nD => ?_⟩
      have nDd : D0 ≠ d := fun q => by rw [q, upd_same] at nD; cases nD
      have nDH : H D0 = none := by rw [upd_ne nDd] at nD; exact nD
      have hle : es.length = rows.length := Paired.length r
      refine lcx_keysN (fun i H1 => H1 d = some (.frz od (nkO w d es)) ∧ (∀ b o, b ≠ d → H b = some o → H1 b = some o) ∧ ∃ ts : List Addr, H1 D0 = some (.lst (ts.map V.ref)) ∧ RowsT H ts (rows.take i)) ⟨?_, ?_, [], upd_same, .nil⟩ ?_ ?_ ?_
      · rw [upd_ne (Ne.symm nDd)]; exact upd_same
      · intro b o nb eb
        rw [upd_ne (ne_of_none eb nDH), upd_ne nb]
        exact eb
      · rintro i H1 _ ⟨h1, _⟩
        exact h1
      · rintro i x H1 hx ⟨h1, h2, ts, h3, h4⟩
        obtain ⟨row, hr1, k1, k2, tp, k3, k4⟩ := paired_get r hx
        obtain ⟨kxs', g1, g2, g3⟩ := D.ks x (List.mem_of_getElem? hx)
        have nx : x.2.1 ≠ d := fun q => by rw [q, e0] at g1; exact nkO_ne_tup (Option.some.inj g1)
        have ea2 := h2 _ _ nad ea
        repeat (first | walk_at "oxs" | simp only [ea2])
        refine ⟨es, ⟨.inr ⟨od, h1⟩, fun e he => ?_⟩, kxs', ⟨h2 _ _ nx g1, g2⟩, x.2.2, ?_, ?_⟩
        · obtain ⟨ys, y1, y2, y3⟩ := D.ks e he
          exact ⟨ys, h2 _ _ (fun q => by rw [q, e0] at y1; exact nkO_ne_tup (Option.some.inj y1)) y1, y2, y3⟩
        · rw [← g3]
          exact rows_get r nd hx
        · rw [k3]
          refine ⟨_, h3, len_line' ?_, ?_, ?_, ts ++ [tp], ?_, ?_⟩
          · have := Paired.length h4
            have hi := (List.getElem?_eq_some_iff.mp hx).1
            rw [List.length_take] at this
            rw [List.length_map]
            omega
          · rw [upd_ne (Ne.symm nDd)]; exact h1
          · intro b o nb eb
            rw [upd_ne (ne_of_none eb nDH)]
            exact h2 b o nb eb
          · rw [List.map_append]; rfl
          · have et : rows.take (i + 1) = rows.take i ++ [row] := by rw [List.take_add_one, hr1]; rfl
            rw [et]
            exact Paired.snoc h4 k4
      · rintro H1 ⟨h1, h2, ts, h3, h4⟩
        refine ⟨h1, ?_⟩
        have et : rows.take es.length = rows := by rw [hle]; exact List.take_length
        rw [et] at h4
        have sm : Same H (upd H1 d (nkO w d es)) := fun b o eb => by
          by_cases q : b = d
          · rw [q, upd_same, ← e0, ← q]; exact eb
          · rw [upd_ne q]; exact h2 b o q eb
        exact h D0 ts _ nDH sm (by rw [upd_ne nDd]; exact h3) (Paired.mapP h4 fun _ _ z => sm _ _ z)
    · cases h
end

section
variable {P : Program} {w : World} {K : PySem.W.Frag} {mg : Str → Option Value} {base : Heap} {c : Cs}
/-! ### the store as a model -/
theorem take_get {α : Type} {xs : List α} {i : Nat} {x : α} (h : xs[i]? = some x) : xs.take (i + 1) = xs.take i ++ [x] := by rw [List.take_succ, h]; rfl
/-- a value of the language: null, a boolean, an integer, a text, a built-in function, an object's number -/
inductive RV where
  | nul
  | boo (b : Bool)
  | num (n : Int)
  | txt (z : Str)
  | bt (z : Str)
  | ob (n : Nat)
  deriving DecidableEq
inductive Th where
  | parts (xs : List RV)
  | table (rows : List (RV × RV))
  | inst (owner : Nat) (fs : List (Str × RV))
  | kin (name : Str) (parent : Option Nat) (ms : List (Str × Nat))
  | clo (number wanted : Int) (scope : List Nat)
  | bound (owner fn : Nat)
  | var (v : RV)
  | cur (xs : List RV)
def IsRef (c : Cs) (H : Hp) (a : Addr) (n : Int) : Prop := ∃ dx, H a = some (.ins c.Ref dx [("number", .int n)])
def IsRefV (c : Cs) (H : Hp) (v : V) (n : Nat) : Prop := ∃ a, v = .ref a ∧ IsRef c H a (n : Nat)
def IsBt (c : Cs) (H : Hp) (a : Addr) (n : Str) : Prop := ∃ dx, H a = some (.ins c.Builtin dx [("name", .str n)])

def IsVal (c : Cs) (H : Hp) (v : V) : RV → Prop
  | .nul => v = .non
  | .boo b => v = .bl b
  | .num n => v = .int n
  | .txt z => v = .str z
  | .bt n => ∃ a, v = .ref a ∧ IsBt c H a n
  | .ob n => IsRefV c H v n
/-- what never changes: tuples, references, built-in functions -/
def Hard (c : Cs) (o : HO) : Prop := (∃ xs, o = .tup xs) ∨ (∃ dx fs, o = .ins c.Ref dx fs)
  ∨ (∃ dx fs, o = .ins c.Builtin dx fs)
def Soft (c : Cs) (H : Hp) (p : Addr) : Prop := ∀ o, H p = some o → ¬ Hard c o
theorem Hard.t (xs : List V) : Hard c (.tup xs) := .inl ⟨xs, rfl⟩

theorem Hard.r {dx : Addr} {fs : List (Str × V)} : Hard c (.ins c.Ref dx fs) := .inr (.inl ⟨dx, fs, rfl⟩)
theorem Hard.b {dx : Addr} {fs : List (Str × V)} : Hard c (.ins c.Builtin dx fs) := .inr (.inr ⟨dx, fs, rfl⟩)
/-- the hard things stay -/
def HardStay (c : Cs) (H H' : Hp) : Prop := ∀ a o, H a = some o → Hard c o → H' a = some o
theorem HardStay.same {H H' : Hp} (s : Same H H') : HardStay c H H' := fun a o e _ => s a o e
theorem HardStay.keep {H H' : Hp} {ps : List Addr} (k : Keep ps H H') (s : ∀ p ∈ ps, Soft c H p) : HardStay c H H' := fun a o e hd => k a o (fun m => s a m o e hd) e
theorem HardStay.trans {H H1 H2 : Hp} (h : HardStay c H H1) (g : HardStay c H1 H2) : HardStay c H H2 := fun a o e hd => g a o (h a o e hd) hd
theorem IsRef.hs {H H' : Hp} {a : Addr} {n : Int} (h : IsRef c H a n) (s : HardStay c H H') : IsRef c H' a n := h.imp fun _ e => s _ _ e Hard.r
theorem IsRef.same {H H' : Hp} {a : Addr} {n : Int} (h : IsRef c H a n) (s : Same H H') : IsRef c H' a n := h.imp fun _ e => s _ _ e
theorem IsRefV.hs {H H' : Hp} {v : V} {n : Nat} (h : IsRefV c H v n) (s : HardStay c H H') : IsRefV c H' v n := h.imp fun _ ⟨e, r⟩ => ⟨e, r.hs s⟩
theorem IsVal.hs {H H' : Hp} {v : V} {r : RV} (h : IsVal c H v r) (s : HardStay c H H') : IsVal c H' v r := by
  cases r <;> first
    | exact h
    | exact IsRefV.hs h s
    | (obtain ⟨a, e, dx, h⟩ := h; exact ⟨a, e, dx, s _ _ h Hard.b⟩)

theorem IsVal.same {H H' : Hp} {v : V} {r : RV} (h : IsVal c H v r) (s : Same H H') : IsVal c H' v r := h.hs (.same s)
abbrev VsAt (c : Cs) (H : Hp) : List V → List RV → Prop := Paired (IsVal c H)
theorem VsAt.hs {H H' : Hp} {xs : List V} {rs : List RV} (h : VsAt c H xs rs) (s : HardStay c H H') : VsAt c H' xs rs := Paired.mapP h fun _ _ z => z.hs s
abbrev RefsAt (c : Cs) (H : Hp) : List V → List Nat → Prop := Paired (IsRefV c H)
/-- an object of the store at a, its content at b -/
def ThAt (w : World) (c : Cs) (H : Hp) (a : Addr) (b : Option Addr) : Th → Prop
  | .parts rs => ∃ dx l xs, b = some l ∧ H a = some (.ins c.Parts dx [("held", .ref l)]) ∧ H l = some (.lst xs) ∧ VsAt c H xs rs
  | .table rows => ∃ d rws, b = some d ∧ IsTab c H a d ∧ TabR w H d rws ∧ Paired (fun x r => IsVal c H x.1 r.1 ∧ IsVal c H x.2 r.2) rws rows
  | .inst o fs => ∃ dx ra nd kvs, b = some nd ∧ H a = some (.ins c.Instance dx [("owner", .ref ra), ("named", .ref nd)]) ∧ IsRef c H ra (o : Nat) ∧ H nd = some (.dK kvs) ∧ Paired (fun (kv : Key × V) (f : Str × RV) => kv.1 = .inr f.1 ∧ IsVal c H kv.2 f.2) kvs fs
  | .kin n p ms => ∃ dx pv md kvs, b = some md ∧ H a = some (.ins c.Kin dx [("name", .str n), ("parent", pv), ("methods", .ref md)]) ∧ (match p with | none => pv = .non | some k => IsRefV c H pv k) ∧ H md = some (.dK kvs) ∧ Paired (fun (kv : Key × V) (f : Str × Nat) => kv.1 = .inr f.1 ∧ IsRefV c H kv.2 f.2) kvs ms
  | .clo n k sc => ∃ dx t xs, b = none ∧ H a = some (.ins c.Closure dx [("number", .int n), ("wanted", .int k), ("scope", .ref t)]) ∧ H t = some (.tup xs) ∧ RefsAt c H xs sc
  | .bound o f => ∃ dx v1 v2, b = none ∧ H a = some (.ins c.Bound dx [("owner", v1), ("function", v2)]) ∧ IsRefV c H v1 o ∧ IsRefV c H v2 f

  | .cur rs => ∃ dx l xs, b = some l ∧ H a = some (.ins c.Cursor dx [("rest", .ref l)]) ∧ H l = some (.lst xs) ∧ VsAt c H xs rs

  | .var _ => False

def footT (a : Addr) (b : Option Addr) : List Addr := a :: b.toList
theorem TabR.soft {H : Hp} {d : Addr} {rows : List (V × V)} (h : TabR w H d rows) : Soft c H d := by
  obtain ⟨⟨es, D, e0, r⟩, _⟩ := h
  intro o e hd
  rw [e0] at e
  cases e
  rcases hd with ⟨_, z⟩ | ⟨_, _, z⟩ | ⟨_, _, z⟩
  · exact nkO_ne_tup z
  · have z' : HO.ext _ = HO.ins _ _ _ := z
    cases z'
  · have z' : HO.ext _ = HO.ins _ _ _ := z
    cases z'
theorem putR_new {rows : List (V × V)} {k v : V} (h : k ∉ rows.map (·.1)) : putR rows k v = rows ++ [(k, v)] := by
  unfold putR
  rw [if_neg (by rw [rowAt_mem]; exact h)]
theorem ThAt.mono {H H' : Hp} {a : Addr} {b : Option Addr} {t : Th} (h : ThAt w c H a b t) (s : HardStay c H H') (ka : ∀ o, H a = some o → H' a = some o) (kb : ∀ q o, b = some q → H q = some o → H' q = some o) : ThAt w c H' a b t := by
  cases t with
  | parts rs => obtain ⟨dx, l, xs, rfl, e1, e2, e3⟩ := h; exact ⟨dx, l, xs, rfl, ka _ e1, kb _ _ rfl e2, e3.hs s⟩
  | table rows => obtain ⟨d, rws, rfl, ⟨dx, e1⟩, e2, e3⟩ := h; exact ⟨d, rws, rfl, ⟨dx, ka _ e1⟩, e2.mono (fun o e => kb _ _ rfl e) (fun q xs e => s _ _ e (Hard.t xs)), Paired.mapP e3 fun _ _ z => ⟨z.1.hs s, z.2.hs s⟩⟩
  | inst o fs => obtain ⟨dx, ra, nd, kvs, rfl, e1, e2, e3, e4⟩ := h; exact ⟨dx, ra, nd, kvs, rfl, ka _ e1, e2.hs s, kb _ _ rfl e3, Paired.mapP e4 fun _ _ z => ⟨z.1, z.2.hs s⟩⟩
  | kin n p ms => obtain ⟨dx, pv, md, kvs, rfl, e1, e2, e3, e4⟩ := h; exact ⟨dx, pv, md, kvs, rfl, ka _ e1, (by cases p with | none => exact e2 | some k => exact IsRefV.hs e2 s), kb _ _ rfl e3, Paired.mapP e4 fun _ _ z => ⟨z.1, z.2.hs s⟩⟩
  | clo n k sc => obtain ⟨dx, t, xs, rfl, e1, e2, e3⟩ := h; exact ⟨dx, t, xs, rfl, ka _ e1, s _ _ e2 (Hard.t xs), Paired.mapP e3 fun _ _ z => z.hs s⟩
  | bound o f => obtain ⟨dx, v1, v2, rfl, e1, e2, e3⟩ := h; exact ⟨dx, v1, v2, rfl, ka _ e1, e2.hs s, e3.hs s⟩

  | cur rs => obtain ⟨dx, l, xs, rfl, e1, e2, e3⟩ := h; exact ⟨dx, l, xs, rfl, ka _ e1, kb _ _ rfl e2, e3.hs s⟩

  | var _ => exact h.elim

theorem ThAt.same {H H' : Hp} {a : Addr} {b : Option Addr} {t : Th} (h : ThAt w c H a b t) (s : Same H H') : ThAt w c H' a b t := h.mono (.same s) (fun _ e => s _ _ e) fun _ _ _ e => s _ _ e
theorem ThAt.keep {H H' : Hp} {a : Addr} {b : Option Addr} {t : Th} {ps : List Addr} (h : ThAt w c H a b t) (k : Keep ps H H') (s : ∀ p ∈ ps, Soft c H p) (n : ∀ q ∈ footT a b, q ∉ ps) : ThAt w c H' a b t :=
  h.mono (.keep k s) (fun _ e => k _ _ (n _ (by simp [footT])) e) fun q _ hb e => k _ _ (n _ (by simp [footT, hb])) e
/-- the addresses of a store's objects; the store as a model -/
structure SA where
  (y tl ol ll : Addr)
  L : List (Addr × Option Addr)
def footL (L : List (Addr × Option Addr)) : List Addr := L.flatMap fun p => footT p.1 p.2
def SA.foot (x : SA) : List Addr := x.y :: x.tl :: x.ol :: x.ll :: footL x.L
structure SV where
  things : List Th
  out : List Str
  lines : List Str
  taken : Nat
def StR (c : Cs) (H : Hp) (y tl ol ll : Addr) (tk : V) : Prop := ∃ dx, H y = some (.ins c.Store dx [("things", .ref tl), ("output", .ref ol), ("lines", .ref ll), ("taken", tk)])
theorem StR.same {H H' : Hp} {y tl ol ll : Addr} {tk : V} (h : StR c H y tl ol ll tk) (s : Same H H') : StR c H' y tl ol ll tk := h.imp fun _ e => s _ _ e
structure Sto (w : World) (c : Cs) (H : Hp) (x : SA) (S : SV) : Prop where
  st : StR c H x.y x.tl x.ol x.ll (.int (S.taken : Nat))
  et : H x.tl = some (.lst (x.L.map fun p => V.ref p.1))
  eo : H x.ol = some (.lst (S.out.map V.str))
  el : H x.ll = some (.lst (S.lines.map V.str))
  th : Paired (fun p t => ThAt w c H p.1 p.2 t) x.L S.things
  nd : x.foot.Nodup
theorem Sto.same {H H' : Hp} {x : SA} {S : SV} (h : Sto w c H x S) (s : Same H H') : Sto w c H' x S := ⟨h.st.same s, s _ _ h.et, s _ _ h.eo, s _ _ h.el, Paired.mapP h.th fun _ _ z => z.same s, h.nd⟩
theorem paired_mem {α β : Type} {F : α → β → Prop} {xs : List α} {ys : List β} (h : Paired F xs ys) : Paired (fun a b => a ∈ xs ∧ F a b) xs ys := by
  induction h with
  | nil => exact .nil
  | cons r t ih => exact .cons ⟨List.mem_cons_self .., r⟩ (Paired.mapP ih fun _ _ z => ⟨List.mem_cons_of_mem _ z.1, z.2⟩)
theorem mem_footL {L : List (Addr × Option Addr)} {p : Addr × Option Addr} {q : Addr} (h : p ∈ L) (hq : q ∈ footT p.1 p.2) : q ∈ footL L := List.mem_flatMap.mpr ⟨p, h, hq⟩
/-- behind a change elsewhere -/
theorem Sto.keep {H H' : Hp} {x : SA} {S : SV} {ps : List Addr} (h : Sto w c H x S) (k : Keep ps H H') (s : ∀ p ∈ ps, Soft c H p) (n : ∀ q ∈ x.foot, q ∉ ps) : Sto w c H' x S := by
  have m1 : x.y ∈ x.foot := by simp [SA.foot]
  have m2 : x.tl ∈ x.foot := by simp [SA.foot]
  have m3 : x.ol ∈ x.foot := by simp [SA.foot]
  have m4 : x.ll ∈ x.foot := by simp [SA.foot]
  obtain ⟨dx, e⟩ := h.st
  exact ⟨⟨dx, k _ _ (n _ m1) e⟩, k _ _ (n _ m2) h.et, k _ _ (n _ m3) h.eo, k _ _ (n _ m4) h.el,
    Paired.mapP (paired_mem h.th) fun p t z => z.2.keep k s fun q hq => n q (by simp only [SA.foot, List.mem_cons]; exact .inr (.inr (.inr (.inr (mem_footL z.1 hq))))), h.nd⟩
theorem Sto.at {H : Hp} {x : SA} {S : SV} (h : Sto w c H x S) {n : Nat} {t : Th} (e : S.things[n]? = some t) : ∃ a b, x.L[n]? = some (a, b) ∧ ThAt w c H a b t := by
  have hl : x.L.length = S.things.length := Paired.length h.th
  obtain ⟨hi, _⟩ := List.getElem?_eq_some_iff.mp e
  have e1 : x.L[n]? = some x.L[n] := List.getElem?_eq_getElem (by omega)
  obtain ⟨t', h1, h2⟩ := paired_get h.th e1
  rw [e] at h1
  cases h1
  exact ⟨x.L[n].1, x.L[n].2, e1, h2⟩
/-! ### Store(..), its methods -/
def st0 (lines : List Str) : SV := ⟨[.kin "Error" none []], [], lines, 0⟩
def spStore (w : World) (K : PySem.W.Frag) (c : Cs) : Sp := fun vs H Q _ => match vs with
  | [.ref l] => ∃ zs : List Str, Rl K H l (zs.map V.str) ∧ ∀ x H1, Sto w c H1 x (st0 zs) → Same H H1 → (∀ q ∈ x.foot, H q = none) → Q (.ref x.y) H1
  | _ => False
theorem ok_store (A : AtM K c.Store "__init__" "Store.__init__" s_Store___init__ ["self", "lines"]) (T : Txt K mg c) (M_Kin : HasC P w K mg base CX0 c.Kin "Kin" 1 ["self", "name", "parent"] (spMk_Kin K c)) : HasC P w K mg base CX0 c.Store "Store" 3 ["self", "lines"] (spStore w K c) := by
  have Sc := sc_Store___init__
  refine hasC_of T.mk_Store A Sc (fun vs H Q E h => ?_) (fun cdv f A outer s H vs Q E y dx H0 hr h hy hs h0 => ?_)
  · unfold spStore at h; split at h; rfl; cases h
  · unfold spStore at h
    split at h
    · rename_i l
      obtain ⟨zs, r, h⟩ := h
      refine ⟨_, (pss_cons (fs_fld (fe_var 0) (fe_lst (pa_cons (fe_make (k := _) M_Kin (hr.mono (by walk_at "rm")) (by rfl) pass0 (pa_cons (fe_gstr (by rfl) T.g_ERROR) (pa_cons pe_non pa_nil))) pa_nil)) T.pl_things rfl)
      (pss_cons (fs_fld (fe_var 0) (fe_lst pa_nil) T.pl_output rfl)
      (pss_cons (fs_fld (fe_var 0) (pe_callTy call_fListOf (by rfl) T.no_list (by decide +kernel) (pa_cons (fe_var 1) pa_nil)) T.pl_lines rfl)
      (pss_one (fs_fld (fe_var 0) pe_int T.pl_taken rfl))))), ?_⟩
      walk_at "fx0"
      walk_at "ox"
      unfold spMk_Kin
      intro k kdx md H1 nk s1 e1 nmd emd hne
      walk_at "ox"
      intro tl H2 ntl s2 etl
      have ey2 := s2 _ _ (s1 _ _ h0)
      simp only [ey2]
      walk_at "ox"
      have ny2 : tl ≠ y := fun q => by rw [q, s1 _ _ h0] at ntl; cases ntl
      have nky : k ≠ y := fun q => by rw [q, h0] at nk; cases nk
      have nmy : md ≠ y := fun q => by rw [q, h0] at nmd; cases nmd
      intro ol H3 nol s3 eol
      have noy : ol ≠ y := fun q => by rw [q, upd_same] at nol; cases nol
      have not_ : tl ≠ ol := fun q => by rw [← q, upd_ne ny2, etl] at nol; cases nol
      have nolH : H2 ol = none := by rw [upd_ne noy] at nol; exact nol
      have ey3 := s3 _ _ upd_same
      simp only [ey3]
      walk_at "ox"
      refine ⟨_, rl_keep (mk_same ((mk_same ((hs.trans s1).trans s2) hy).trans s3) hy) r, ?_⟩
      intro ll H4 nll s4 ell
      have nly : ll ≠ y := fun q => by rw [q, upd_same] at nll; cases nll
      have nllH : H3 ll = none := by rw [upd_ne nly] at nll; exact nll
      have nlt : tl ≠ ll := fun q => by rw [← q, s3 _ _ ((upd_ne ny2).trans etl)] at nllH; cases nllH
      have nlo : ol ≠ ll := fun q => by rw [← q, eol] at nllH; cases nllH
      have ey4 := s4 _ _ upd_same
      simp only [ey4]
      walk_at "ox"
      have S2 : Same H H2 := (hs.trans s1).trans s2
      have S3 : Same H H3 := (mk_same S2 hy).trans s3
      have S4 : Same H H4 := (mk_same S3 hy).trans s4
      have up : ∀ {q : Addr} {o : HO}, q ≠ y → H2 q = some o → upd H4 y (.ins c.Store dx [("things", .ref tl), ("output", .ref ol), ("lines", .ref ll), ("taken", .int 0)]) q = some o := fun nq e =>
        (upd_ne nq).trans (s4 _ _ ((upd_ne nq).trans (s3 _ _ ((upd_ne nq).trans e))))
      have ek2 := s2 _ _ e1
      have em2 := s2 _ _ emd
      have nkt : k ≠ tl := fun q => by rw [q, etl] at ek2; cases ek2
      have nmt : md ≠ tl := fun q => by rw [q, etl] at em2; cases em2
      have nko : k ≠ ol := fun q => by rw [← q, ek2] at nolH; cases nolH
      have nmo : md ≠ ol := fun q => by rw [← q, em2] at nolH; cases nolH
      have nkl : k ≠ ll := fun q => by rw [← q, s3 _ _ ((upd_ne nky).trans ek2)] at nllH; cases nllH
      have nml : md ≠ ll := fun q => by rw [← q, s3 _ _ ((upd_ne nmy).trans em2)] at nllH; cases nllH
      refine h ⟨y, tl, ol, ll, [(k, some md)]⟩ _ ⟨⟨dx, upd_same⟩, up ny2 etl, (upd_ne noy).trans (s4 _ _ ((upd_ne noy).trans eol)), (upd_ne nly).trans ell, .cons ⟨kdx, .non, md, [], rfl, up nky ek2, rfl, up nmy em2, .nil⟩ .nil, ?_⟩ (mk_same S4 hy) ?_
      · simp only [SA.foot, footL, footT, List.flatMap_cons, List.flatMap_nil, Option.toList_some, List.cons_append, List.nil_append, List.append_nil, List.nodup_cons, List.mem_cons, List.not_mem_nil, or_false, not_or, List.nodup_nil, and_true, not_false_eq_true]
        exact ⟨⟨Ne.symm ny2, Ne.symm noy, Ne.symm nly, Ne.symm nky, Ne.symm nmy⟩, ⟨not_, nlt, Ne.symm nkt, Ne.symm nmt⟩, ⟨nlo, Ne.symm nko, Ne.symm nmo⟩, ⟨Ne.symm nkl, Ne.symm nml⟩, Ne.symm hne⟩
      · intro q hq
        simp only [SA.foot, footL, footT, List.flatMap_cons, List.flatMap_nil, Option.toList_some, List.cons_append, List.nil_append, List.append_nil, List.mem_cons, List.not_mem_nil, or_false] at hq
        rcases hq with rfl | rfl | rfl | rfl | rfl | rfl
        · exact hy
        · exact (hs.trans s1).free ntl
        · exact S2.free nolH
        · exact S3.free nllH
        · exact hs.free nk
        · exact hs.free nmd
    · cases h
end

section
variable {P : Program} {w : World} {K : PySem.W.Frag} {mg : Str → Option Value} {base : Heap} {c : Cs}
/-! ### objects of a store, by their classes -/
def clsT (c : Cs) : Th → Addr
  | .parts _ => c.Parts
  | .table _ => c.Table
  | .inst _ _ => c.Instance
  | .kin _ _ _ => c.Kin
  | .clo _ _ _ => c.Closure
  | .bound _ _ => c.Bound

  | .cur _ => c.Cursor

  | .var _ => c.Store

theorem ThAt.ins {H : Hp} {a : Addr} {b : Option Addr} {t : Th} (h : ThAt w c H a b t) : ∃ dx fs, H a = some (.ins (clsT c t) dx fs) := by
  cases t <;> first
    | (obtain ⟨dx, l, xs, _, e, _⟩ := h; exact ⟨_, _, e⟩)
    | (obtain ⟨d, rws, _, ⟨dx, e⟩, _⟩ := h; exact ⟨_, _, e⟩)
    | (obtain ⟨dx, ra, nd, kvs, _, e, _⟩ := h; exact ⟨_, _, e⟩)
    | (obtain ⟨dx, e⟩ := h; exact ⟨_, _, e⟩)
    | (obtain ⟨dx, x, _, e, _⟩ := h; exact ⟨_, _, e⟩)
    | exact h.elim
def tyR (c : Cs) (S : SV) : RV → Value
  | .ob n => match S.things[n]? with
    | some t => .ref (clsT c t)
    | none => .type "NoneType"
  | _ => .type "NoneType"
def WfR (S : SV) (r : RV) : Prop := ∀ n, r = .ob n → n < S.things.length
theorem WfR.num {S : SV} {n : Int} : WfR S (.num n) := fun _ h => by cases h
def kindT : Th → Str
  | .parts _ => "list"
  | .table _ => "map"
  | .inst _ _ => "instance"
  | .kin _ _ _ => "class"
  | _ => "function"
def kindR (S : SV) : RV → Str
  | .nul => "null"
  | .boo _ => "boolean"
  | .num _ => "integer"
  | .txt _ => "text"
  | .bt _ => "function"
  | .ob n => match S.things[n]? with
    | some t => kindT t
    | none => "function"
def SA.add (x : SA) (a : Addr) (b : Option Addr) : SA := { x with L := x.L ++ [(a, b)] }
def SV.add (S : SV) (t : Th) : SV := { S with things := S.things ++ [t] }
theorem foot_add {x : SA} {a : Addr} {b : Option Addr} : (x.add a b).foot = x.foot ++ footT a b := by
  simp [SA.foot, SA.add, footL]
/-- a new object of the store -/
def NewTh (w : World) (c : Cs) (H : Hp) (x : SA) (S : SV) (t : Th) (Q : VK) : Prop := ∀ r a b H1, H r = none → (∀ q ∈ footT a b, H q = none) → Keep [x.tl] H H1 → Sto w c H1 (x.add a b) (S.add t) → IsRef c H1 r (S.things.length : Nat) → Q (.ref r) H1
theorem soft_lst {H : Hp} {p : Addr} {xs : List V} (e : H p = some (.lst xs)) : Soft c H p := fun o h hd => by
  rw [e] at h
  cases h
  rcases hd with ⟨_, h⟩ | hd
  · cases h
  · rcases hd with ⟨_, _, h⟩ | ⟨_, _, h⟩ <;> cases h

theorem soft_dk {H : Hp} {p : Addr} {xs : List (Key × V)} (e : H p = some (.dK xs)) : Soft c H p := fun o h hd => by
  rw [e] at h
  cases h
  rcases hd with ⟨_, h⟩ | hd
  · cases h
  · rcases hd with ⟨_, _, h⟩ | ⟨_, _, h⟩ <;> cases h

theorem Sto.soft_tl {H : Hp} {x : SA} {S : SV} (h : Sto w c H x S) : ∀ p ∈ [x.tl], Soft c H p := fun p m => by
  rw [List.mem_singleton.mp m]; exact soft_lst h.et
theorem mem_add {x : SA} {p : Addr × Option Addr} {q : Addr} (hp : p ∈ x.L) (hq : q ∈ footT p.1 p.2) : q ∈ x.foot := by
  simp only [SA.foot, List.mem_cons]; exact .inr (.inr (.inr (.inr (mem_footL hp hq))))
/-- an object that stands already is put into the store's list -/
theorem Sto.push {H H1 : Hp} {x : SA} {S : SV} {a : Addr} {b : Option Addr} {t : Th} (h : Sto w c H x S) (k : Keep [x.tl] H H1) (e : H1 x.tl = some (.lst ((x.L.map fun p => V.ref p.1) ++ [.ref a]))) (ht : ThAt w c H a b t) (hn : (footT a b).Nodup) (hd : ∀ q ∈ footT a b, q ∉ x.foot) : Sto w c H1 (x.add a b) (S.add t) := by
  have nd := h.nd
  have m2 : x.tl ∈ x.foot := by simp [SA.foot]
  simp only [SA.foot, List.nodup_cons, List.mem_cons, not_or] at nd
  obtain ⟨⟨n1, n2, n3, n4⟩, ⟨n5, n6, n7⟩, ⟨n8, n9⟩, n10, n11⟩ := nd
  obtain ⟨dx, ey⟩ := h.st
  refine ⟨⟨dx, k _ _ (by show x.y ∉ [x.tl]; simpa using n1) ey⟩, by rw [show (x.add a b).tl = x.tl from rfl, e]; simp [SA.add], k _ _ (by show x.ol ∉ [x.tl]; simpa using Ne.symm n5) h.eo, k _ _ (by show x.ll ∉ [x.tl]; simpa using Ne.symm n6) h.el, ?_, ?_⟩
  · refine Paired.snoc (Paired.mapP (paired_mem h.th) fun p t' z => z.2.keep k h.soft_tl fun q hq hm => ?_) (ht.keep k h.soft_tl fun q hq hm => ?_)
    · rw [List.mem_singleton.mp hm] at hq
      exact n7 (mem_footL z.1 hq)
    · rw [List.mem_singleton.mp hm] at hq
      exact hd _ hq m2
  · rw [foot_add, List.nodup_append]
    exact ⟨h.nd, hn, fun p hp q hq e => hd q hq (by rw [← e]; exact hp)⟩
def spMake (w : World) (c : Cs) : Sp := fun vs H Q _ => match vs with
  | [.ref y, .ref a] => ∃ x S b t, y = x.y ∧ Sto w c H x S ∧ ThAt w c H a b t ∧ (footT a b).Nodup ∧ (∀ q ∈ footT a b, q ∉ x.foot) ∧ S.things.length < 99999 ∧
    ∀ r H1, H r = none → Keep [x.tl] H H1 → Sto w c H1 (x.add a b) (S.add t) → IsRef c H1 r (S.things.length : Nat) → Q (.ref r) H1
  | _ => False
theorem ok_make (A : AtM K c.Store "make" "Store.make" s_Store_make ["self", "thing"]) (T : Txt K mg c) (M_Ref : HasC P w K mg base CX0 c.Ref "Ref" 1 ["self", "number"] (spMk_Ref K c)) : HasM P w K mg base CX0 c.Store "make" 3 ["self", "thing"] (spMake w c) := by
  have Sc := sc_Store_make
  refine hasM_of A Sc (fun vs H Q E h => ?_) (fun cdv f A outer s H vs Q E hr h => ?_)
  · unfold spMake at h; split at h; rfl; cases h
  · unfold spMake at h
    split at h
    · rename_i y a
      obtain ⟨x, S, b, t, rfl, hS, ht, hn, hd, hl, h⟩ := h
      have hlen : x.L.length = S.things.length := Paired.length hS.th
      obtain ⟨dx, e0⟩ := hS.st
      have e1 := hS.et
      have ne : x.y ≠ x.tl := fun q => by rw [q, e1] at e0; cases e0
      refine ⟨_, (pss_cons (ps_expr (fe_bm PySem.F.plainAttrs_list PySem.F.slot_list_append PySem.F.type_list_append isLst_ty mt_fAppend (fe_fld (fe_var 0) T.pl_things rfl) (pa_cons (fe_var 1) pa_nil)))
      (pss_one (ps_ret (fe_make (k := _) M_Ref (hr.mono (by walk_at "rm")) (by rfl) pass0 (pa_cons (pe_op op_fSub (pe_callB call_fLen (by rfl) T.no_len (by decide +kernel) (pa_cons (fe_fld (fe_var 0) T.pl_things rfl) pa_nil)) pe_int) pa_nil))))), ?_⟩
      walk_at "fx0"
      walk_at "ox"
      simp only [e0]
      walk_at "ox"
      simp only [e1]
      walk_at "ox"
      have e0' : ∀ o, upd H x.tl o x.y = some (.ins c.Store dx [("things", .ref x.tl), ("output", .ref x.ol), ("lines", .ref x.ll), ("taken", .int (S.taken : Nat))]) := fun o => by rw [upd_ne ne]; exact e0
      refine ⟨len_line' (by rw [List.length_map]; omega), ?_⟩
      simp only [e0']
      walk_at "ox"
      refine ⟨_, rl_l upd_same, ?_⟩
      unfold spMk_Ref
      intro r rdx H1 nr s1 er
      have k1 : Keep [x.tl] H H1 := (Keep.refl.upd (by simp)).trans (Keep.of s1)
      refine h r H1 ?_ k1 (hS.push k1 (s1 _ _ upd_same) ht hn hd) ⟨rdx, ?_⟩
      · by_cases q : r = x.tl
        · rw [q, upd_same] at nr; cases nr
        · rw [upd_ne q] at nr; exact nr
      · rw [er, List.length_append, List.length_map, List.length_cons, List.length_nil]
        have : (((x.L.length + (0 + 1) : Nat) : Int) - 1) = ((S.things.length : Nat) : Int) := by omega
        rw [this]
    · cases h
def spAt (w : World) (c : Cs) : Sp := fun vs H Q _ => match vs with
  | [.ref y, .ref r] => ∃ x S n t, y = x.y ∧ Sto w c H x S ∧ IsRef c H r (n : Nat) ∧ S.things[n]? = some t ∧ ∀ a b, x.L[n]? = some (a, b) → ThAt w c H a b t → Q (.ref a) H
  | _ => False
theorem Sto.num {H : Hp} {x : SA} {S : SV} (h : Sto w c H x S) {n : Nat} {t : Th} (e : S.things[n]? = some t) : ∃ a b, x.L[n]? = some (a, b) ∧ ThAt w c H a b t ∧ atI (x.L.map fun p => V.ref p.1) (n : Nat) = some (.ref a) := by
  obtain ⟨a, b, h1, h2⟩ := h.at e
  exact ⟨a, b, h1, h2, atI_nat (by rw [List.getElem?_map, h1]; rfl)⟩
theorem ok_at (A : AtM K c.Store "at" "Store.at" s_Store_at ["self", "ref"]) (T : Txt K mg c) : HasM P w K mg base CX0 c.Store "at" 1 ["self", "ref"] (spAt w c) := by
  have Sc := sc_Store_at
  refine hasM_of A Sc (fun vs H Q E h => ?_) (fun cdv f A outer s H vs Q E hr h => ?_)
  · unfold spAt at h; split at h; rfl; cases h
  · unfold spAt at h
    split at h
    · rename_i y r
      obtain ⟨x, S, n, t, rfl, hS, ⟨rdx, er⟩, et, h⟩ := h
      obtain ⟨dx, e0⟩ := hS.st
      obtain ⟨a, b, h1, h2, h3⟩ := hS.num et
      refine ⟨_, (pss_one (ps_ret (pe_ix ix_fx (fe_fld (fe_var 0) T.pl_things rfl) (fe_fld (fe_var 1) T.pl_number rfl) (fun _ _ => rfl)))), ?_⟩
      walk_at "fx0"
      walk_at "ox"
      simp only [e0]
      walk_at "ox"
      simp only [er]
      walk_at "ox"
      exact ⟨_, rl_l hS.et, _, h3, h a b h1 h2⟩
    · cases h
def spThing (w : World) (c : Cs) : Sp := fun vs H Q _ => match vs with
  | [.ref y, v] => ∃ x S r, y = x.y ∧ Sto w c H x S ∧ IsVal c H v r ∧ WfR S r ∧
    ∀ tv, tyV2 H tv = some (tyR c S r) → (∀ n t, r = .ob n → S.things[n]? = some t → ∃ a b, tv = .ref a ∧ x.L[n]? = some (a, b) ∧ ThAt w c H a b t) → ((∀ n, r ≠ .ob n) → tv = .non) → Q tv H
  | _ => False
theorem ok_thing (A : At K mg "thing_of" "thing_of" s_thing_of ["store", "value"]) (T : Txt K mg c) (M_Store_at : HasM P w K mg base CX0 c.Store "at" 1 ["self", "ref"] (spAt w c)) : Has P w K mg base CX0 "thing_of" 2 ["store", "value"] (spThing w c) := by
  have Sc := sc_thing_of
  refine has_of A Sc (fun vs H Q E h => ?_) (fun cdv f A outer s H vs Q E hr h => ?_)
  · unfold spThing at h; split at h; rfl; cases h
  · unfold spThing at h
    split at h
    · rename_i y v
      obtain ⟨x, S, r, rfl, hS, hv, hw, h⟩ := h
      obtain ⟨dx0, e0⟩ := hS.st
      refine ⟨_, (pss_cons (ps_if (pt_val (pe_callB (call_fIsiO T.kit) (by rfl) T.no_isinstance (by decide +kernel) (pa_cons (fe_var 1) (pa_cons (pe_glob (v := .ref c.Ref) (by rfl) T.mg_Ref rfl) pa_nil)))) (pss_one (ps_ret (fe_meth M_Store_at T.cl_Store (hr.mono (by walk_at "rm")) pass0 (fe_var 0) (pa_cons (fe_var 1) pa_nil)))) pss_nil)
      (pss_one (ps_ret pe_non))), ?_⟩
      walk_at "fx0"
      cases r with
      | ob n =>
        obtain ⟨a, rfl, dx, e1⟩ := hv
        have hn := hw n rfl
        obtain ⟨t, et⟩ : ∃ t, S.things[n]? = some t := ⟨S.things[n], List.getElem?_eq_getElem hn⟩
        repeat (first | walk_at "oxs" | simp only [e1] | simp only [e0])
        refine ⟨x, S, n, t, rfl, hS, ⟨dx, e1⟩, et, fun a' b h1 h2 => ?_⟩
        obtain ⟨dx2, fs2, e2⟩ := h2.ins
        refine h _ ?_ (fun n' t' e3 e4 => ?_) fun hn => absurd rfl (hn n)
        · show tyV2 H (.ref a') = some (match S.things[n]? with | some t => .ref (clsT c t) | none => .type "NoneType")
          rw [et]
          simp only [tyV2, e2]
        · cases e3
          rw [et] at e4
          cases e4
          exact ⟨a', b, rfl, h1, h2⟩
      | bt z =>
        obtain ⟨a, rfl, dx, e1⟩ := hv
        repeat (first | walk_at "oxs" | simp only [e1])
        exact h _ rfl (fun _ _ z _ => by cases z) fun _ => rfl

      | nul => cases hv; repeat (walk_at "oxs"); exact h _ rfl (fun _ _ z _ => by cases z) fun _ => rfl
      | boo b => cases hv; repeat (walk_at "oxs"); exact h _ rfl (fun _ _ z _ => by cases z) fun _ => rfl
      | num b => cases hv; repeat (walk_at "oxs"); exact h _ rfl (fun _ _ z _ => by cases z) fun _ => rfl
      | txt b => cases hv; repeat (walk_at "oxs"); exact h _ rfl (fun _ _ z _ => by cases z) fun _ => rfl
    · cases h
def spKind (w : World) (c : Cs) : Sp := fun vs H Q _ => match vs with
  | [.ref y, v] => ∃ x S r, y = x.y ∧ Sto w c H x S ∧ IsVal c H v r ∧ WfR S r ∧ Q (.str (kindR S r)) H
  | _ => False

theorem kindR_len {S : SV} {r : RV} : (kindR S r).length ≤ 8 := by
  have ht : ∀ t, (kindT t).length ≤ 8 := fun t => by cases t <;> simp only [kindT] <;> decide
  cases r with
  | ob n =>
    show Str.length (match S.things[n]? with | some t => kindT t | none => "function") ≤ 8
    split
    · exact ht _
    · decide
  | _ => show Str.length _ ≤ 8; simp only [kindR]; decide
theorem keys_vs {H : Hp} {rws : List (V × V)} {rows : List (RV × RV)} (h : Paired (fun x r => IsVal c H x.1 r.1 ∧ IsVal c H x.2 r.2) rws rows) : VsAt c H (rws.map fun z => z.1) (rows.map fun z => z.1) := by
  induction h with
  | nil => exact .nil
  | cons a b ih => exact .cons a.1 ih
def rvOf : V → RV
  | .bl b => .boo b
  | .int n => .num n
  | .str z => .txt z
  | _ => .nul
theorem rvOf_is {H : Hp} {v : V} (h : scV v = true) : IsVal c H v (rvOf v) := by cases v <;> first | rfl | cases h
theorem rvOf_nb {v : V} {z : Str} : rvOf v ≠ .bt z := by cases v <;> (intro h; cases h)
theorem vs_rvOf {H : Hp} : ∀ {ks : List V}, (∀ v ∈ ks, scV v = true) → VsAt c H ks (ks.map rvOf)
  | [], _ => .nil
  | a :: t, h => .cons (rvOf_is (h a (List.mem_cons_self ..))) (vs_rvOf fun v m => h v (List.mem_cons_of_mem _ m))
end

section
variable {P : Program} {w : World} {K : PySem.W.Frag} {mg : Str → Option Value} {base : Heap} {c : Cs}

/-! ### new objects -/
theorem ThAt.live {H : Hp} {a : Addr} {b : Option Addr} {t : Th} (h : ThAt w c H a b t) : ∀ q ∈ footT a b, ∃ o, H q = some o := by
  have two_ : ∀ {l : Addr} {o1 o2 : HO}, H a = some o1 → H l = some o2 → ∀ q ∈ footT a (some l), ∃ o, H q = some o := by
    intro l o1 o2 e1 e2 q hq
    simp only [footT, Option.toList_some, List.mem_cons, List.not_mem_nil, or_false] at hq
    rcases hq with rfl | rfl
    · exact ⟨_, e1⟩
    · exact ⟨_, e2⟩
  have one_ : ∀ {o1 : HO}, H a = some o1 → ∀ q ∈ footT a none, ∃ o, H q = some o := by
    intro o1 e1 q hq
    simp only [footT, Option.toList_none, List.mem_cons, List.not_mem_nil, or_false] at hq
    rw [hq]; exact ⟨_, e1⟩
  cases t with
  | parts rs => obtain ⟨dx, l, xs, rfl, e1, e2, e3⟩ := h; exact two_ e1 e2
  | table rows => obtain ⟨d, rws, rfl, ⟨dx, e1⟩, e2, e3⟩ := h; obtain ⟨⟨es, D, e0, r⟩, nd⟩ := e2; exact two_ e1 e0
  | inst o fs => obtain ⟨dx, ra, nd, kvs, rfl, e1, e2, e3, e4⟩ := h; exact two_ e1 e3
  | kin n p ms => obtain ⟨dx, pv, md, kvs, rfl, e1, e2, e3, e4⟩ := h; exact two_ e1 e3
  | clo n k sc => obtain ⟨dx, t, xs, rfl, e1, e2, e3⟩ := h; exact one_ e1
  | bound o f => obtain ⟨dx, v1, v2, rfl, e1, e2, e3⟩ := h; exact one_ e1

  | cur rs => obtain ⟨dx, l, xs, rfl, e1, e2, e3⟩ := h; exact two_ e1 e2

  | var _ => exact h.elim

theorem Sto.live {H : Hp} {x : SA} {S : SV} (h : Sto w c H x S) : ∀ q ∈ x.foot, ∃ o, H q = some o := by
  intro q hq
  simp only [SA.foot, List.mem_cons] at hq
  rcases hq with rfl | rfl | rfl | rfl | hq
  · obtain ⟨dx, e⟩ := h.st; exact ⟨_, e⟩
  · exact ⟨_, h.et⟩
  · exact ⟨_, h.eo⟩
  · exact ⟨_, h.el⟩
  · obtain ⟨p, hp, hq⟩ := List.mem_flatMap.mp hq
    obtain ⟨i, hi, rfl⟩ := List.getElem_of_mem hp
    obtain ⟨t, _, ht⟩ := paired_get h.th (List.getElem?_eq_getElem hi)
    exact ht.live q hq
theorem new_make {H H1 : Hp} {x : SA} {S : SV} {a : Addr} {b : Option Addr} {t : Th} {Q : VK} {E : XK} (hS : Sto w c H x S) (s1 : Same H H1) (ht : ThAt w c H1 a b t) (hn : (footT a b).Nodup) (hf : ∀ q ∈ footT a b, H q = none) (hl : S.things.length < 99999) (h : NewTh w c H x S t Q) : spMake w c [.ref x.y, .ref a] H1 Q E :=
  ⟨x, S, b, t, rfl, hS.same s1, ht, hn, (fun q hq m => by
    obtain ⟨o, e⟩ := hS.live q m
    rw [hf q hq] at e
    cases e), hl, fun r H2 nr k st hr => h r a b H2 (s1.free nr) hf ((Keep.of s1).trans k) st hr⟩
theorem foot_two {a l : Addr} (h : l ≠ a) : (footT a (some l)).Nodup := by simp [footT, Ne.symm h]
theorem free_two {H : Hp} {a l : Addr} (h1 : H a = none) (h2 : H l = none) : ∀ q ∈ footT a (some l), H q = none := by
  intro q hq
  simp only [footT, Option.toList_some, List.mem_cons, List.not_mem_nil, or_false] at hq
  rcases hq with rfl | rfl <;> assumption
theorem foot_one {a : Addr} : (footT a none).Nodup := by simp [footT]
theorem free_one {H : Hp} {a : Addr} (h1 : H a = none) : ∀ q ∈ footT a none, H q = none := by
  intro q hq
  simp only [footT, Option.toList_none, List.mem_cons, List.not_mem_nil, or_false] at hq
  rw [hq]; exact h1

def spMkList (w : World) (c : Cs) : Sp := fun vs H Q _ => match vs with
  | [.ref y, .ref l] => ∃ x S xs rs, y = x.y ∧ Sto w c H x S ∧ H l = some (.lst xs) ∧ VsAt c H xs rs ∧ xs.length ≤ 1000 ∧ S.things.length < 99999 ∧ NewTh w c H x S (.parts rs) Q
  | _ => False

end

section
variable {P : Program} {w : World} {K : PySem.W.Frag} {mg : Str → Option Value} {base : Heap} {c : Cs}
/-! ### an object of the store changed -/
theorem paired_mk {α β : Type} {F : α → β → Prop} : ∀ {xs : List α} {ys : List β}, xs.length = ys.length → (∀ (i : Nat) (a : α) (b : β), xs[i]? = some a → ys[i]? = some b → F a b) → Paired F xs ys
  | [], [], _, _ => .nil
  | a :: xs, b :: ys, hl, h => .cons (h 0 a b rfl rfl) (paired_mk (by simpa using hl) fun i a b ha hb => h (i + 1) a b ha hb)
  | [], _ :: _, hl, _ => by cases hl
  | _ :: _, [], hl, _ => by cases hl
theorem footL_disj : ∀ {L : List (Addr × Option Addr)} {i j : Nat} {p p' : Addr × Option Addr} {q : Addr}, (footL L).Nodup → L[i]? = some p → L[j]? = some p' → q ∈ footT p.1 p.2 → q ∈ footT p'.1 p'.2 → i = j
  | [], i, _, _, _, _, _, h, _, _, _ => by cases i <;> cases h
  | r :: L, i, j, p, p', q, hn, h1, h2, m1, m2 => by
    have e : footL (r :: L) = footT r.1 r.2 ++ footL L := rfl
    rw [e, List.nodup_append] at hn
    cases i with
    | zero =>
      cases j with
      | zero => rfl
      | succ j =>
        cases h1
        exact absurd rfl (hn.2.2 q m1 q (mem_footL (List.mem_of_getElem? h2) m2))
    | succ i =>
      cases j with
      | zero =>
        cases h2
        exact absurd rfl (hn.2.2 q m2 q (mem_footL (List.mem_of_getElem? h1) m1))
      | succ j => rw [footL_disj hn.2.1 h1 h2 m1 m2]
def SV.setT (S : SV) (n : Nat) (t : Th) : SV := { S with things := S.things.set n t }
theorem Sto.setT {H H1 : Hp} {x : SA} {S : SV} {n : Nat} {a q : Addr} {t : Th} (h : Sto w c H x S) (hx : x.L[n]? = some (a, some q)) (k : Keep [q] H H1) (so : Soft c H q) (ht : ThAt w c H1 a (some q) t) : Sto w c H1 x (S.setT n t) := by
  have nd := h.nd
  have hl : x.L.length = S.things.length := Paired.length h.th
  have mq : q ∈ footL x.L := mem_footL (List.mem_of_getElem? hx) (by simp [footT])
  simp only [SA.foot, List.nodup_cons, List.mem_cons, not_or] at nd
  obtain ⟨⟨n1, n2, n3, n4⟩, ⟨n5, n6, n7⟩, ⟨n8, n9⟩, n10, n11⟩ := nd
  obtain ⟨dx, ey⟩ := h.st
  have no : ∀ {p : Addr}, p ∉ footL x.L → p ∉ [q] := fun hp m => hp (by rw [List.mem_singleton.mp m]; exact mq)
  have so' : ∀ p ∈ [q], Soft c H p := fun p m => by rw [List.mem_singleton.mp m]; exact so
  refine ⟨⟨dx, k _ _ (no n4) ey⟩, k _ _ (no n7) h.et, k _ _ (no n9) h.eo, k _ _ (no n10) h.el, ?_, h.nd⟩
  refine paired_mk (by rw [hl]; exact (List.length_set ..).symm) fun i p t' hp ht' => ?_
  have ht2 : (S.things.set n t)[i]? = some t' := ht'
  rw [List.getElem?_set] at ht2
  by_cases e : n = i
  · subst e
    rw [if_pos rfl] at ht2
    rw [hx] at hp
    cases hp
    split at ht2
    · cases ht2; exact ht
    · cases ht2
  · rw [if_neg e] at ht2
    obtain ⟨t2, e2, h2⟩ := paired_get h.th hp
    rw [ht2] at e2
    cases e2
    refine h2.keep k so' fun z hz m => ?_
    rw [List.mem_singleton.mp m] at hz
    exact e (footL_disj n11 hx hp (by simp [footT]) hz)
theorem footL_mem_set : ∀ {L : List (Addr × Option Addr)} {n : Nat} {p : Addr × Option Addr} {q : Addr}, q ∈ footL (L.set n p) → q ∈ footL L ∨ q ∈ footT p.1 p.2
  | [], _, _, _, h => by simp [footL] at h
  | r :: L, 0, p, q, h => by
    have h : q ∈ footT p.1 p.2 ++ footL L := h
    rcases List.mem_append.mp h with h | h
    · exact .inr h
    · exact .inl (List.mem_append_right _ h)
  | r :: L, n + 1, p, q, h => by
    have h : q ∈ footT r.1 r.2 ++ footL (L.set n p) := h
    rcases List.mem_append.mp h with h | h
    · exact .inl (List.mem_append_left _ h)
    · exact (footL_mem_set h).imp (fun z => List.mem_append_right _ z) id
theorem footL_set : ∀ {L : List (Addr × Option Addr)} {n : Nat} {p p' : Addr × Option Addr}, (footL L).Nodup → L[n]? = some p → (footT p'.1 p'.2).Nodup → (∀ q ∈ footT p'.1 p'.2, q ∈ footT p.1 p.2 ∨ q ∉ footL L) → (footL (L.set n p')).Nodup
  | [], _, _, _, _, h, _, _ => by cases h
  | r :: L, 0, p, p', h, e, hn, hf => by
    cases e
    have h : (footT r.1 r.2 ++ footL L).Nodup := h
    show (footT p'.1 p'.2 ++ footL L).Nodup
    rw [List.nodup_append] at h ⊢
    refine ⟨hn, h.2.1, fun a ha b hb z => ?_⟩
    rcases hf a ha with g | g
    · exact h.2.2 a g b hb z
    · exact g (List.mem_append_right _ (by rw [z]; exact hb))
  | r :: L, n + 1, p, p', h, e, hn, hf => by
    have h : (footT r.1 r.2 ++ footL L).Nodup := h
    have e : L[n]? = some p := e
    show (footT r.1 r.2 ++ footL (L.set n p')).Nodup
    rw [List.nodup_append] at h ⊢
    refine ⟨h.1, footL_set h.2.1 e hn (fun q m => (hf q m).imp id fun g z => g (List.mem_append_right _ z)), fun a ha b hb z => ?_⟩
    rcases footL_mem_set hb with g | g
    · exact h.2.2 a ha b g z
    · rcases hf b g with g | g
      · exact h.2.2 a ha b (mem_footL (List.mem_of_getElem? e) g) z
      · exact g (List.mem_append_left _ (by rw [← z]; exact ha))
def SA.setL (x : SA) (n : Nat) (a : Addr) (b : Option Addr) : SA := { x with L := x.L.set n (a, b) }
/-- an object of the store is changed at its own places, and may get a new second place -/
theorem Sto.mvT {H H1 : Hp} {x : SA} {S : SV} {n : Nat} {a : Addr} {b b' : Option Addr} {t : Th} {ps : List Addr} (h : Sto w c H x S) (hx : x.L[n]? = some (a, b)) (k : Keep ps H H1) (hps : ∀ p ∈ ps, p ∈ footT a b) (so : ∀ p ∈ ps, Soft c H p) (ht : ThAt w c H1 a b' t) (hn : (footT a b').Nodup) (hf : ∀ q ∈ footT a b', q ∈ footT a b ∨ H q = none) :
    Sto w c H1 (x.setL n a b') (S.setT n t) ∧ ∀ q ∈ (x.setL n a b').foot, q ∈ x.foot ∨ H q = none := by
  have nd := h.nd
  have lv := h.live
  have hl : x.L.length = S.things.length := Paired.length h.th
  have mq : ∀ p ∈ ps, p ∈ footL x.L := fun p m => mem_footL (List.mem_of_getElem? hx) (hps p m)
  simp only [SA.foot, List.nodup_cons, List.mem_cons, not_or] at nd
  obtain ⟨⟨n1, n2, n3, n4⟩, ⟨n5, n6, n7⟩, ⟨n8, n9⟩, n10, n11⟩ := nd
  obtain ⟨dx, ey⟩ := h.st
  have no : ∀ {p : Addr}, p ∉ footL x.L → p ∉ ps := fun hp m => hp (mq _ m)
  have hfx : ∀ q ∈ footL (x.L.set n (a, b')), q ∈ footL x.L ∨ H q = none := fun q m => by
    rcases footL_mem_set m with g | g
    · exact .inl g
    · exact (hf q g).imp (fun z => mem_footL (List.mem_of_getElem? hx) z) id
  have off : ∀ {q : Addr} {o : HO}, q ∉ footL x.L → H q = some o → q ∉ footL (x.L.set n (a, b')) := fun g e m => by
    rcases hfx _ m with z | z
    · exact g z
    · rw [e] at z; cases z
  have em : (x.L.set n (a, b')).map (fun p => V.ref p.1) = x.L.map fun p => V.ref p.1 := by
    rw [List.map_set]
    refine List.ext_getElem? fun i => ?_
    rw [List.getElem?_set]
    split
    · rename_i q
      subst q
      rw [List.getElem?_map, hx]
      rw [List.length_map, if_pos (List.getElem?_eq_some_iff.mp hx).1]; rfl
    · rfl
  refine ⟨⟨⟨dx, k _ _ (no n4) ey⟩, ?_, k _ _ (no n9) h.eo, k _ _ (no n10) h.el, ?_, ?_⟩, fun q m => ?_⟩
  · show H1 x.tl = some (.lst ((x.L.set n (a, b')).map fun p => V.ref p.1))
    rw [em]; exact k _ _ (no n7) h.et
  · refine paired_mk (by show (x.L.set n (a, b')).length = (S.things.set n t).length; rw [List.length_set, List.length_set, hl]) fun i p t' hp ht' => ?_
    have ht2 : (S.things.set n t)[i]? = some t' := ht'
    have hp2 : (x.L.set n (a, b'))[i]? = some p := hp
    rw [List.getElem?_set] at ht2 hp2
    by_cases e : n = i
    · subst e
      rw [if_pos rfl] at ht2 hp2
      split at ht2
      · split at hp2
        · cases ht2; cases hp2; exact ht
        · cases hp2
      · cases ht2
    · rw [if_neg e] at ht2 hp2
      obtain ⟨t2, e2, h2⟩ := paired_get h.th hp2
      rw [ht2] at e2
      cases e2
      exact h2.keep k so fun z hz m => e (footL_disj n11 hx hp2 (hps z m) hz)
  · obtain ⟨_, ey1⟩ := lv x.y (by simp [SA.foot])
    simp only [SA.foot, SA.setL, List.nodup_cons, List.mem_cons, not_or]
    exact ⟨⟨n1, n2, n3, off n4 ey⟩, ⟨n5, n6, off n7 h.et⟩, ⟨n8, off n9 h.eo⟩, off n10 h.el, footL_set n11 hx hn fun q m => (hf q m).imp id fun z g => by
      obtain ⟨o, eo⟩ := lv q (by simp [SA.foot, g])
      rw [z] at eo; cases eo⟩
  · simp only [SA.foot, SA.setL, List.mem_cons] at m ⊢
    rcases m with m | m | m | m | m
    · exact .inl (.inl m)
    · exact .inl (.inr (.inl m))
    · exact .inl (.inr (.inr (.inl m)))
    · exact .inl (.inr (.inr (.inr (.inl m))))
    · exact (hfx q m).imp (fun z => .inr (.inr (.inr (.inr z)))) id
theorem setL_foot {x : SA} {n : Nat} {a q : Addr} {b : Option Addr} (h : q ∈ (x.setL n a b).foot) : q ∈ x.foot ∨ q ∈ footT a b := by
  simp only [SA.foot, SA.setL, List.mem_cons] at h ⊢
  rcases h with m | m | m | m | m
  · exact .inl (.inl m)
  · exact .inl (.inr (.inl m))
  · exact .inl (.inr (.inr (.inl m)))
  · exact .inl (.inr (.inr (.inr (.inl m))))
  · exact (footL_mem_set m).imp (fun z => .inr (.inr (.inr (.inr z)))) id
end

section
variable {P : Program} {w : World} {K : PySem.W.Frag} {mg : Str → Option Value} {base : Heap} {c : Cs}
/-! ### the law's state, the store and the law's own things, apart from each other -/
structure Wd (K : PySem.W.Frag) (w : World) (c : Cs) (H0 : Hp) (s sc : Addr) (ns : List Int) (x : SA) (S : SV) (G : Hp → Prop) (gf : List Addr) (H : Hp) : Prop where
  dr : Dr K H0 s sc ns H
  st : Sto w c H x S
  g : G H
  gm : ∀ H H', G H → HardStay c H H' → (∀ q ∈ gf, ∀ o, H q = some o → H' q = some o) → G H'
  gl : ∀ q ∈ gf, ∃ o, H q = some o
  nd : (s :: (x.foot ++ gf)).Nodup
  fr : ∀ q ∈ s :: (x.foot ++ gf), H0 q = none
section
variable {H0 : Hp} {s sc : Addr} {ns : List Int} {x : SA} {S : SV} {G : Hp → Prop} {gf : List Addr} {H H1 : Hp}
theorem Wd.s_foot (W : Wd K w c H0 s sc ns x S G gf H) : ∀ {q : Addr}, q ∈ x.foot → s ≠ q := fun {q} m e => (List.nodup_cons.mp W.nd).1 (by rw [e]; exact List.mem_append_left _ m)
theorem Wd.s_gf (W : Wd K w c H0 s sc ns x S G gf H) : ∀ {q : Addr}, q ∈ gf → s ≠ q := fun {q} m e => (List.nodup_cons.mp W.nd).1 (by rw [e]; exact List.mem_append_right _ m)
theorem Wd.f_gf (W : Wd K w c H0 s sc ns x S G gf H) : ∀ {p q : Addr}, p ∈ x.foot → q ∈ gf → p ≠ q := fun {p q} m n e => (List.nodup_append.mp (List.nodup_cons.mp W.nd).2).2.2 p m q n e
theorem Wd.f0 (W : Wd K w c H0 s sc ns x S G gf H) : ∀ {q : Addr}, q ∈ x.foot → H0 q = none := fun m => W.fr _ (List.mem_cons_of_mem _ (List.mem_append_left _ m))
theorem Wd.g0 (W : Wd K w c H0 s sc ns x S G gf H) : ∀ {q : Addr}, q ∈ gf → H0 q = none := fun m => W.fr _ (List.mem_cons_of_mem _ (List.mem_append_right _ m))
theorem Wd.s_soft (W : Wd K w c H0 s sc ns x S G gf H) : ∀ p ∈ [s], Soft c H p := fun p m => by
  obtain ⟨a, k, e, _⟩ := W.dr.st
  rw [List.mem_singleton.mp m]; exact soft_lst e
theorem Wd.live (W : Wd K w c H0 s sc ns x S G gf H) : ∀ {q : Addr}, q ∈ s :: (x.foot ++ gf) → ∃ o, H q = some o := fun {q} m => by
  rcases List.mem_cons.mp m with rfl | m
  · obtain ⟨a, k, e, _⟩ := W.dr.st; exact ⟨_, e⟩
  · rcases List.mem_append.mp m with m | m
    · exact W.st.live q m
    · exact W.gl q m
theorem Wd.gkeep (W : Wd K w c H0 s sc ns x S G gf H) {ps : List Addr} (k : Keep ps H H1) (so : ∀ p ∈ ps, Soft c H p) (n : ∀ q ∈ gf, q ∉ ps) : G H1 ∧ ∀ q ∈ gf, ∃ o, H1 q = some o :=
  ⟨W.gm _ _ W.g (.keep k so) fun q m o e => k _ _ (n q m) e, fun q m => (W.gl q m).imp fun o e => k _ _ (n q m) e⟩
theorem Wd.draw (W : Wd K w c H0 s sc ns x S G gf H) (k : Keep [s] H H1) (d : Dr K H0 s sc ns H1) : Wd K w c H0 s sc ns x S G gf H1 := by
  obtain ⟨g1, g2⟩ := W.gkeep k W.s_soft fun q m n => W.s_gf m (List.mem_singleton.mp n).symm
  exact ⟨d, W.st.keep k W.s_soft fun q m n => W.s_foot m (List.mem_singleton.mp n).symm, g1, W.gm, g2, W.nd, W.fr⟩
theorem Wd.same (W : Wd K w c H0 s sc ns x S G gf H) (k : Same H H1) : Wd K w c H0 s sc ns x S G gf H1 :=
  ⟨W.dr.same k, W.st.same k, W.gm _ _ W.g (.same k) fun q _ o e => k _ _ e, W.gm, fun q m => (W.gl q m).imp fun o e => k _ _ e, W.nd, W.fr⟩
theorem Wd.make (W : Wd K w c H0 s sc ns x S G gf H) {a : Addr} {b : Option Addr} {t : Th} (hf : ∀ q ∈ footT a b, H q = none) (k : Keep [x.tl] H H1) (st : Sto w c H1 (x.add a b) (S.add t)) : Wd K w c H0 s sc ns (x.add a b) (S.add t) G gf H1 := by
  have mt : x.tl ∈ x.foot := by simp [SA.foot]
  have n0 : ∀ q ∈ footT a b, q ∉ s :: (x.foot ++ gf) := fun q hq m => by obtain ⟨o, e⟩ := W.live m; rw [hf q hq] at e; cases e
  obtain ⟨g1, g2⟩ := W.gkeep k W.st.soft_tl fun q m n => W.f_gf mt m (List.mem_singleton.mp n).symm
  refine ⟨W.dr.keep k (fun n => W.s_foot mt (List.mem_singleton.mp n)) fun q n => by rw [List.mem_singleton.mp n]; exact W.f0 mt, st, g1, W.gm, g2, ?_, ?_⟩
  · have nd2 := st.nd
    rw [foot_add] at nd2 ⊢
    rw [List.nodup_cons, List.nodup_append]
    refine ⟨fun m => ?_, nd2, (List.nodup_append.mp (List.nodup_cons.mp W.nd).2).2.1, fun p hp q hq e => ?_⟩
    · rcases List.mem_append.mp m with m | m
      · rcases List.mem_append.mp m with m | m
        · exact W.s_foot m rfl
        · exact n0 s m (List.mem_cons_self ..)
      · exact W.s_gf m rfl
    · rcases List.mem_append.mp hp with hp | hp
      · exact W.f_gf hp hq e
      · exact n0 p hp (by rw [e]; exact List.mem_cons_of_mem _ (List.mem_append_right _ hq))
  · intro q m
    rw [foot_add] at m
    rcases List.mem_cons.mp m with rfl | m
    · exact W.fr _ (List.mem_cons_self ..)
    · rcases List.mem_append.mp m with m | m
      · rcases List.mem_append.mp m with m | m
        · exact W.f0 m
        · exact W.dr.sm.free (hf q m)
      · exact W.g0 m
theorem Wd.set (W : Wd K w c H0 s sc ns x S G gf H) {S' : SV} {q : Addr} (hq : q ∈ x.foot) (k : Keep [q] H H1) (so : Soft c H q) (st : Sto w c H1 x S') : Wd K w c H0 s sc ns x S' G gf H1 := by
  obtain ⟨g1, g2⟩ := W.gkeep k (fun p m => by rw [List.mem_singleton.mp m]; exact so) fun p m n => W.f_gf hq m (List.mem_singleton.mp n).symm
  exact ⟨W.dr.keep k (fun n => W.s_foot hq (List.mem_singleton.mp n)) fun p n => by rw [List.mem_singleton.mp n]; exact W.f0 hq, st, g1, W.gm, g2, W.nd, W.fr⟩
/-- the law's own things are changed at q, its own -/
theorem Wd.own (W : Wd K w c H0 s sc ns x S G gf H) {G' : Hp → Prop} {q : Addr} (hq : q ∈ gf) (k : Keep [q] H H1) (so : Soft c H q) (l : ∃ o, H1 q = some o) (g : G' H1) (gm : ∀ H H', G' H → HardStay c H H' → (∀ q ∈ gf, ∀ o, H q = some o → H' q = some o) → G' H') : Wd K w c H0 s sc ns x S G' gf H1 := by
  refine ⟨W.dr.keep k (fun n => W.s_gf hq (List.mem_singleton.mp n)) fun p n => by rw [List.mem_singleton.mp n]; exact W.g0 hq, W.st.keep k (fun p m => by rw [List.mem_singleton.mp m]; exact so) fun p m n => W.f_gf m hq (List.mem_singleton.mp n), g, gm, fun p m => ?_, W.nd, W.fr⟩
  by_cases e : p = q
  · rw [e]; exact l
  · exact (W.gl p m).imp fun o z => k _ _ (by simpa using e) z
/-- the law's own things grow by new ones -/
theorem Wd.grow (W : Wd K w c H0 s sc ns x S G gf H) {G' : Hp → Prop} {qs : List Addr} (k : Same H H1) (nq : ∀ q ∈ qs, H q = none) (hn : qs.Nodup) (l : ∀ q ∈ qs, ∃ o, H1 q = some o) (g : G' H1) (gm : ∀ H H', G' H → HardStay c H H' → (∀ q ∈ gf ++ qs, ∀ o, H q = some o → H' q = some o) → G' H') : Wd K w c H0 s sc ns x S G' (gf ++ qs) H1 := by
  have n0 : ∀ q ∈ qs, q ∉ s :: (x.foot ++ gf) := fun q hq m => by obtain ⟨o, e⟩ := W.live m; rw [nq q hq] at e; cases e
  refine ⟨W.dr.same k, W.st.same k, g, gm, fun q m => ?_, ?_, fun q m => ?_⟩
  · rcases List.mem_append.mp m with m | m
    · exact (W.gl q m).imp fun o e => k _ _ e
    · exact l q m
  · have e : s :: (x.foot ++ (gf ++ qs)) = (s :: (x.foot ++ gf)) ++ qs := by simp
    rw [e, List.nodup_append]
    exact ⟨W.nd, hn, fun p hp q hq z => n0 q hq (by rw [← z]; exact hp)⟩
  · have e : s :: (x.foot ++ (gf ++ qs)) = (s :: (x.foot ++ gf)) ++ qs := by simp
    rw [e] at m
    rcases List.mem_append.mp m with m | m
    · exact W.fr q m
    · exact W.dr.sm.free (nq q m)
/-- the store is changed at its own places, and may get new ones -/
theorem Wd.mv (W : Wd K w c H0 s sc ns x S G gf H) {x' : SA} {S' : SV} {ps : List Addr} (k : Keep ps H H1) (hps : ∀ p ∈ ps, p ∈ x.foot) (so : ∀ p ∈ ps, Soft c H p) (st : Sto w c H1 x' S') (hf : ∀ q ∈ x'.foot, q ∈ x.foot ∨ H q = none) : Wd K w c H0 s sc ns x' S' G gf H1 := by
  obtain ⟨g1, g2⟩ := W.gkeep k so fun p m n => W.f_gf (hps p n) m rfl
  have n0 : ∀ {q : Addr}, H q = none → q ∉ s :: (x.foot ++ gf) := fun e m => by obtain ⟨o, z⟩ := W.live m; rw [e] at z; cases z
  refine ⟨W.dr.keep k (fun n => W.s_foot (hps _ n) rfl) fun p n => W.f0 (hps p n), st, g1, W.gm, g2, ?_, ?_⟩
  · rw [List.nodup_cons, List.nodup_append]
    refine ⟨fun m => ?_, st.nd, (List.nodup_append.mp (List.nodup_cons.mp W.nd).2).2.1, fun p hp q hq e => ?_⟩
    · rcases List.mem_append.mp m with m | m
      · rcases hf _ m with z | z
        · exact W.s_foot z rfl
        · exact n0 z (List.mem_cons_self ..)
      · exact W.s_gf m rfl
    · rcases hf _ hp with z | z
      · exact W.f_gf z hq e
      · exact n0 z (by rw [e]; exact List.mem_cons_of_mem _ (List.mem_append_right _ hq))
  · intro q m
    rcases List.mem_cons.mp m with rfl | m
    · exact W.fr _ (List.mem_cons_self ..)
    · rcases List.mem_append.mp m with m | m
      · rcases hf _ m with z | z
        · exact W.f0 z
        · exact W.dr.sm.free z
      · exact W.g0 m
/-- the law's own things are changed at their places, and may get new ones -/
theorem Wd.mvG (W : Wd K w c H0 s sc ns x S G gf H) {G' : Hp → Prop} {gf' ps : List Addr} (k : Keep ps H H1) (hps : ∀ p ∈ ps, p ∈ gf) (so : ∀ p ∈ ps, Soft c H p) (hn : gf'.Nodup) (hf : ∀ q ∈ gf', q ∈ gf ∨ H q = none) (l : ∀ q ∈ gf', ∃ o, H1 q = some o) (g : G' H1) (gm : ∀ H H', G' H → HardStay c H H' → (∀ q ∈ gf', ∀ o, H q = some o → H' q = some o) → G' H') : Wd K w c H0 s sc ns x S G' gf' H1 := by
  have n0 : ∀ {q : Addr}, H q = none → q ∉ s :: (x.foot ++ gf) := fun e m => by obtain ⟨o, z⟩ := W.live m; rw [e] at z; cases z
  refine ⟨W.dr.keep k (fun n => W.s_gf (hps _ n) rfl) fun p n => W.g0 (hps p n), W.st.keep k so fun p m n => W.f_gf m (hps _ n) rfl, g, gm, l, ?_, ?_⟩
  · rw [List.nodup_cons, List.nodup_append]
    refine ⟨fun m => ?_, W.st.nd, hn, fun p hp q hq e => ?_⟩
    · rcases List.mem_append.mp m with m | m
      · exact W.s_foot m rfl
      · rcases hf _ m with z | z
        · exact W.s_gf z rfl
        · exact n0 z (List.mem_cons_self ..)
    · rcases hf _ hq with z | z
      · exact W.f_gf hp z e
      · exact n0 z (by rw [← e]; exact List.mem_cons_of_mem _ (List.mem_append_left _ hp))
  · intro q m
    rcases List.mem_cons.mp m with rfl | m
    · exact W.fr _ (List.mem_cons_self ..)
    · rcases List.mem_append.mp m with m | m
      · exact W.f0 m
      · rcases hf _ m with z | z
        · exact W.g0 z
        · exact W.dr.sm.free z
/-- a change at places that are nobody's -/
theorem Wd.junk (W : Wd K w c H0 s sc ns x S G gf H) {ps : List Addr} (k : Keep ps H H1) (so : ∀ p ∈ ps, Soft c H p) (h0 : ∀ p ∈ ps, H0 p = none) (n : ∀ p ∈ ps, p ∉ s :: (x.foot ++ gf)) : Wd K w c H0 s sc ns x S G gf H1 := by
  obtain ⟨g1, g2⟩ := W.gkeep k so fun q m z => n q z (List.mem_cons_of_mem _ (List.mem_append_right _ m))
  exact ⟨W.dr.keep k (fun z => n _ z (List.mem_cons_self ..)) h0, W.st.keep k so fun q m z => n q z (List.mem_cons_of_mem _ (List.mem_append_left _ m)), g1, W.gm, g2, W.nd, W.fr⟩
/-- things that stand already become the law's own -/
theorem Wd.adopt (W : Wd K w c H0 s sc ns x S G gf H) {G' : Hp → Prop} {gf' : List Addr} (g : G' H) (gm : ∀ H H', G' H → HardStay c H H' → (∀ q ∈ gf', ∀ o, H q = some o → H' q = some o) → G' H') (hg : ∀ q ∈ gf', q ∈ gf ∨ (q ∉ s :: (x.foot ++ gf) ∧ H0 q = none ∧ ∃ o, H q = some o)) (hn : gf'.Nodup) : Wd K w c H0 s sc ns x S G' gf' H := by
  refine ⟨W.dr, W.st, g, gm, fun q m => ?_, ?_, fun q m => ?_⟩
  · rcases hg q m with z | ⟨_, _, z⟩
    · exact W.gl q z
    · exact z
  · rw [List.nodup_cons, List.nodup_append]
    refine ⟨fun m => ?_, W.st.nd, hn, fun p hp q hq e => ?_⟩
    · rcases List.mem_append.mp m with m | m
      · exact W.s_foot m rfl
      · rcases hg _ m with z | ⟨z, _⟩
        · exact W.s_gf z rfl
        · exact z (List.mem_cons_self ..)
    · rcases hg _ hq with z | ⟨z, _⟩
      · exact W.f_gf hp z e
      · exact z (by rw [← e]; exact List.mem_cons_of_mem _ (List.mem_append_left _ hp))
  · rcases List.mem_cons.mp m with rfl | m
    · exact W.fr _ (List.mem_cons_self ..)
    · rcases List.mem_append.mp m with m | m
      · exact W.f0 m
      · rcases hg _ m with z | ⟨_, z, _⟩
        · exact W.g0 z
        · exact z
/-- an object that stands already is put into the store -/
theorem Wd.make2 (W : Wd K w c H0 s sc ns x S G gf H) {a : Addr} {b : Option Addr} {t : Th} (hf : ∀ q ∈ footT a b, q ∉ s :: (x.foot ++ gf)) (h0 : ∀ q ∈ footT a b, H0 q = none) (k : Keep [x.tl] H H1) (st : Sto w c H1 (x.add a b) (S.add t)) : Wd K w c H0 s sc ns (x.add a b) (S.add t) G gf H1 := by
  have mt : x.tl ∈ x.foot := by simp [SA.foot]
  obtain ⟨g1, g2⟩ := W.gkeep k W.st.soft_tl fun q m n => W.f_gf mt m (List.mem_singleton.mp n).symm
  refine ⟨W.dr.keep k (fun n => W.s_foot mt (List.mem_singleton.mp n)) fun q n => by rw [List.mem_singleton.mp n]; exact W.f0 mt, st, g1, W.gm, g2, ?_, ?_⟩
  · have nd2 := st.nd
    rw [foot_add] at nd2 ⊢
    rw [List.nodup_cons, List.nodup_append]
    refine ⟨fun m => ?_, nd2, (List.nodup_append.mp (List.nodup_cons.mp W.nd).2).2.1, fun p hp q hq e => ?_⟩
    · rcases List.mem_append.mp m with m | m
      · rcases List.mem_append.mp m with m | m
        · exact W.s_foot m rfl
        · exact hf s m (List.mem_cons_self ..)
      · exact W.s_gf m rfl
    · rcases List.mem_append.mp hp with hp | hp
      · exact W.f_gf hp hq e
      · exact hf p hp (by rw [e]; exact List.mem_cons_of_mem _ (List.mem_append_right _ hq))
  · intro q m
    rw [foot_add] at m
    rcases List.mem_cons.mp m with rfl | m
    · exact W.fr _ (List.mem_cons_self ..)
    · rcases List.mem_append.mp m with m | m
      · rcases List.mem_append.mp m with m | m
        · exact W.f0 m
        · exact h0 q m
      · exact W.g0 m
/-- the same, told otherwise -/
theorem Wd.as (W : Wd K w c H0 s sc ns x S G gf H) {G' : Hp → Prop} {gf' : List Addr} (p : gf.Perm gf') (g : ∀ H, G H → G' H) (gm : ∀ H H', G' H → HardStay c H H' → (∀ q ∈ gf', ∀ o, H q = some o → H' q = some o) → G' H') : Wd K w c H0 s sc ns x S G' gf' H :=
  ⟨W.dr, W.st, g _ W.g, gm, fun q m => W.gl q (p.mem_iff.mpr m), ((p.append_left x.foot).cons s).nodup_iff.mp W.nd, fun q m => W.fr q (((p.append_left x.foot).cons s).mem_iff.mpr m)⟩
end
end

section
variable {P : Program} {w : World} {K : PySem.W.Frag} {mg : Str → Option Value} {base : Heap} {c : Cs}
def spPick2 (K : PySem.W.Frag) : Sp := fun vs H Q _ => match vs with
  | [.ref s, r] => ∃ H0 sc ns xs, Dr K H0 s sc ns H ∧ (match r with | .ref a => ∀ H1, Keep [s] H H1 → Rl K H1 a xs | .str z => xs = z.cps.toList.map (fun ch => V.str ⟨#[ch]⟩) | _ => False) ∧ 0 < xs.length ∧ xs.length ≤ 1000 ∧ ∀ H1 v, Keep [s] H H1 → Dr K H0 s sc ns H1 → v ∈ xs → Q v H1
  | _ => False
theorem ok_pick2 (A : At K mg "_law_pick" "_law_pick" s_law_pick ["state", "row"]) (T : Txt K mg c) (H_law_draw : Has P w K mg base CX0 "_law_draw" 2 ["state", "many"] (spDraw K)) : Has P w K mg base CX0 "_law_pick" 3 ["state", "row"] (spPick2 K) := by
  have Sc := sc_law_pick
  refine has_of A Sc (fun vs H Q E h => ?_) (fun cdv f A outer s H vs Q E hr h => ?_)
  · unfold spPick2 at h; split at h; rfl; cases h
  · unfold spPick2 at h
    split at h
    · rename_i st r
      obtain ⟨H0, sc, ns, xs, D, hr1, h0, h1, kk⟩ := h
      refine ⟨_, (pss_one (ps_ret (pe_ix ix_fx (fe_var 1) (fe_call H_law_draw (hr.mono (by walk_at "rm")) (by rfl) pass0 (pa_cons (fe_var 0) (pa_cons (pe_callB call_fLen (by rfl) T.no_len (by decide +kernel) (pa_cons (fe_var 1) pa_nil)) pa_nil))) (fun _ _ => rfl)))), ?_⟩
      walk_at "fx0"
      split at hr1
      · rename_i r
        walk_at "fx"
        refine ⟨_, hr1 H Keep.refl, ?_⟩
        unfold spDraw
        refine ⟨H0, sc, ns, D, by omega, by omega, fun H1 d kp D1 d0 d1 => ?_⟩
        obtain ⟨v, hv, ev⟩ := at_vs (xs := xs) d0 d1
        exact ⟨_, hr1 H1 kp, v, ev, kk H1 v kp D1 hv⟩
      · rename_i z
        have hz : z.length = xs.length := by rw [hr1, List.length_map]; exact Array.length_toList.symm
        have hl : z.length ≤ sizeLine := by
          have := len_line' (n := z.length) (by omega)
          omega
        walk_at "fx"
        refine ⟨hl, ?_⟩
        unfold spDraw
        refine ⟨H0, sc, ns, D, by omega, by omega, fun H1 d kp D1 d0 d1 => ?_⟩
        obtain ⟨n, rfl⟩ := Int.eq_ofNat_of_zero_le d0
        have hn : n < z.cps.toList.length := by
          have d1' : (n : Int) < (z.length : Nat) := d1
          have e : z.cps.toList.length = z.length := Array.length_toList
          rw [e]
          omega
        have ec : z.cps.toList[n]? = some z.cps.toList[n] := List.getElem?_eq_getElem hn
        refine ⟨hl, _, atI_nat ec, kk H1 _ kp D1 ?_⟩
        rw [hr1]
        exact List.mem_map_of_mem (List.getElem_mem hn)
      · exact hr1.elim
    · cases h
end

section
variable {P : Program} {w : World} {K : PySem.W.Frag} {mg : Str → Option Value} {base : Heap} {c : Cs}
/-! ### written forms: what the writer does -/
def lenP (ps : List Str) : Nat := (ps.map Str.length).sum
theorem lenP_app {a b : List Str} : lenP (a ++ b) = lenP a + lenP b := by unfold lenP; rw [List.map_append, List.sum_append]
theorem lenP_one {z : Str} : lenP [z] = z.length := by simp [lenP]
def quotedS (z : Str) : Str := "\"" ++ Txt.replace (Txt.replace (Txt.replace z "\\" "\\\\") "\"" "\\\"") "\n" "\\n" ++ "\""
def plainR : RV → Str
  | .nul => "null"
  | .boo true => "true"
  | .boo false => "false"
  | .num n => Str.ofString (toString n)
  | .txt z => quotedS z
  | .bt _ => "<function>"
  | .ob _ => "<function>"
def headT (S : SV) : Th → Str
  | .kin n _ _ => "" ++ "<class " ++ n ++ ">"
  | .inst o _ => match S.things[o]? with
    | some (.kin n _ _) => "" ++ "<" ++ n ++ ">"
    | _ => ""
  | _ => "<function>"
def wParts (w1 : RV → List Str → List Str) (most : Nat) : Bool → List RV → List Str → List Str
  | _, [], ps => ps
  | first, r :: rs, ps => if most < lenP ps then ps else wParts w1 most false rs (w1 r (if first = true then ps else ps ++ [(", " : Str)]))
def wPairs (w1 : RV → List Str → List Str) (most : Nat) : Bool → List (RV × RV) → List Str → List Str
  | _, [], ps => ps
  | first, r :: rs, ps => if most < lenP ps then ps else wPairs w1 most false rs (w1 r.2 ((if first = true then ps else ps ++ [(", " : Str)]) ++ [plainR r.1 ++ (": " : Str)]))
def wr (S : SV) (most : Nat) : Nat → List Nat → RV → List Str → List Str
  | 0, _, _, ps => ps
  | d + 1, ar, v, ps => if most < lenP ps then ps else match v with
    | .ob n => match S.things[n]? with
      | some (.parts rs) => if n ∈ ar ∨ 10 ≤ ar.length then ps ++ [(("[" : Str) ++ "..." ++ "]")] else wParts (wr S most d (ar ++ [n])) most true rs (ps ++ [("[" : Str)]) ++ [("]" : Str)]
      | some (.table rows) => if n ∈ ar ∨ 10 ≤ ar.length then ps ++ [(("{" : Str) ++ "..." ++ "}")] else wPairs (wr S most d (ar ++ [n])) most true rows (ps ++ [("{" : Str)]) ++ [("}" : Str)]
      | some t => ps ++ [headT S t]
      | none => ps
    | v => ps ++ [plainR v]
/-- values and objects of bounded size -/
structure OkR (S : SV) (r : RV) : Prop where
  wf : WfR S r
  tx : ∀ z, r = .txt z → z.length ≤ 1000
  nm : ∀ n, r = .num n → n.natAbs.log2 < 1100
def OkT (S : SV) : Th → Prop
  | .parts rs => rs.length ≤ 1000 ∧ ∀ r ∈ rs, OkR S r
  | .table rows => rows.length ≤ 1000 ∧ ∀ r ∈ rows, OkR S r.1 ∧ OkR S r.2 ∧ ∀ n, r.1 ≠ .ob n
  | .inst o _ => ∃ n p ms, S.things[o]? = some (.kin n p ms)
  | .kin n _ _ => n.length ≤ 1000
  | _ => True
def OkS (S : SV) : Prop := ∀ (n : Nat) (t : Th), S.things[n]? = some t → OkT S t
theorem int_len {n : Int} (h : n.natAbs.log2 < 1100) : (Str.ofString (toString n)).length ≤ 1101 := by
  have e := int_text_length_le (k := 1100) (by decide) h
  rw [PySem.ofString_length]; exact e
theorem repl_len {x y z : Str} (hz : z.length = 2) : (Txt.replace x y z).length ≤ 3 * x.length + 2 := by
  have := TK.replace_len x y z
  rw [hz] at this
  omega
theorem quoted_len {z : Str} (h : z.length ≤ 1000) : (Txt.replace z "\\" "\\\\").length ≤ 3002 ∧ (Txt.replace (Txt.replace z "\\" "\\\\") "\"" "\\\"").length ≤ 9008 ∧ (Txt.replace (Txt.replace (Txt.replace z "\\" "\\\\") "\"" "\\\"") "\n" "\\n").length ≤ 27026 ∧ (quotedS z).length ≤ 27028 := by
  have h1 := repl_len (x := z) (y := "\\") (z := "\\\\") rfl
  have h2 := repl_len (x := Txt.replace z "\\" "\\\\") (y := "\"") (z := "\\\"") rfl
  have h3 := repl_len (x := Txt.replace (Txt.replace z "\\" "\\\\") "\"" "\\\"") (y := "\n") (z := "\\n") rfl
  have e : (quotedS z).length = 1 + (Txt.replace (Txt.replace (Txt.replace z "\\" "\\\\") "\"" "\\\"") "\n" "\\n").length + 1 := by
    unfold quotedS
    rw [Str.length_append, Str.length_append]
    rfl
  omega
theorem plain_len {S : SV} {r : RV} (h : OkR S r) : (plainR r).length ≤ 27028 := by
  cases r with
  | txt z => exact (quoted_len (h.tx z rfl)).2.2.2
  | num n => exact Nat.le_trans (int_len (h.nm n rfl)) (by decide)
  | boo b => cases b <;> (simp only [plainR]; decide)
  | _ => simp only [plainR]; decide
theorem head_len {S : SV} {t : Th} (hS : OkS S) (h : OkT S t) : (headT S t).length ≤ 1100 := by
  have e1 : ∀ n : Str, n.length ≤ 1000 → ("" ++ "<class " ++ n ++ ">" : Str).length ≤ 1100 ∧ ("" ++ "<" ++ n ++ ">" : Str).length ≤ 1100 := fun n hn => by
    have a0 : Str.length ("" : Str) = 0 := rfl
    have a1 : Str.length ("<class " : Str) = 7 := rfl
    have a2 : Str.length (">" : Str) = 1 := rfl
    have a3 : Str.length ("<" : Str) = 1 := rfl
    simp only [Str.length_append, a0, a1, a2, a3]
    omega
  cases t with
  | kin n p ms => exact (e1 n h).1
  | inst o fs =>
    obtain ⟨n, p, ms, e⟩ := h
    simp only [headT, e]
    exact (e1 n (hS o _ e)).2
  | _ => simp only [headT]; decide
def spQuoted : Sp := fun vs H Q _ => match vs with
  | [.str z] => z.length ≤ 1000 ∧ Q (.str (quotedS z)) H
  | _ => False
theorem ok_quoted (A : At K mg "quoted" "quoted" s_quoted ["text"]) (T : Txt K mg c) : Has P w K mg base CX0 "quoted" 1 ["text"] spQuoted := by
  have Sc := sc_quoted
  refine hasT_of A Sc (by decide +kernel) (by decide) (fun vs H Q E h => ?_) (fun cdv f A outer s H vs Q E hr h => ?_)
  · unfold spQuoted at h; split at h; rfl; cases h
  · unfold spQuoted at h
    split at h
    · rename_i z
      obtain ⟨hz, h⟩ := h
      obtain ⟨h1, h2, h3, h4⟩ := quoted_len hz
      refine ⟨_, (psst_cons (pst_set (i := 0) Sc.nd rfl (.inl rfl) (fet_repl (fet_repl (fet_repl (CwR.PET.of (fe_var 0)) (by decide)) (by decide)) (by decide)) rfl)
      (psst_cons (CwR.pst_ret (CwR.pet_op op_fAdd (CwR.pet_op op_fAdd (CwR.PET.of pe_str) (CwR.PET.of (fe_var 0))) (CwR.PET.of pe_str)))
      CwR.psst_nil)), ?_⟩
      walk_at "fx0"
      walk_at "ox"
      have l2 : Str.length (Str.ofString "\\\\") = 2 := rfl
      have l3 : Str.length (Str.ofString "\\\"") = 2 := rfl
      have l4 : Str.length (Str.ofString "\\n") = 2 := rfl
      have l5 : Str.length (Str.ofString "\"") = 1 := rfl
      refine ⟨by rw [l2]; omega, by rw [l3]; omega, by rw [l4]; omega, by rw [l5, sizeLine_eq]; omega, by rw [Str.length_append, l5, sizeLine_eq]; omega, h⟩
    · cases h
def spPlain (c : Cs) : Sp := fun vs H Q _ => match vs with
  | [v] => ∃ S r, IsVal c H v r ∧ OkR S r ∧ (∀ n, r ≠ .ob n) ∧ Q (.str (plainR r)) H
  | _ => False
theorem ok_plain (A : At K mg "plain" "plain" s_plain ["value"]) (T : Txt K mg c) (H_quoted : Has P w K mg base CX0 "quoted" 1 ["text"] spQuoted) : Has P w K mg base CX0 "plain" 2 ["value"] (spPlain c) := by
  have Sc := sc_plain
  refine has_of A Sc (fun vs H Q E h => ?_) (fun cdv f A outer s H vs Q E hr h => ?_)
  · unfold spPlain at h; split at h; rfl; cases h
  · unfold spPlain at h
    split at h
    · rename_i v
      obtain ⟨S, r, hv, ho, hno, h⟩ := h
      refine ⟨_, (pss_cons (ps_if (pt_cmpR op_fIsN (fe_var 0) pe_non (nomark _)) (pss_one (ps_ret pe_str)) pss_nil)
      (pss_cons (ps_if (pt_val (pe_callB (call_fIsiA T.kit) (by rfl) T.no_isinstance (by decide +kernel) (pa_cons (fe_var 0) (pa_cons (fe_ty (n := "bool") (by rfl) T.no_bool (by decide +kernel)) pa_nil)))) (pss_cons (ps_if (pt_fTru (fe_var 0) (fun _ => rfl)) (pss_one (ps_ret pe_str)) pss_nil)
      (pss_one (ps_ret pe_str))) pss_nil)
      (pss_cons (ps_if (pt_val (pe_callB (call_fIsiA T.kit) (by rfl) T.no_isinstance (by decide +kernel) (pa_cons (fe_var 0) (pa_cons (fe_ty (n := "str") (by rfl) T.no_str (by decide +kernel)) pa_nil)))) (pss_one (ps_ret (fe_call H_quoted (hr.mono (by walk_at "rm")) (by rfl) pass0 (pa_cons (fe_var 0) pa_nil)))) pss_nil)
      (pss_cons (ps_if (pt_val (pe_callB (call_fIsiO T.kit) (by rfl) T.no_isinstance (by decide +kernel) (pa_cons (fe_var 0) (pa_cons (pe_glob (v := .ref c.Builtin) (by rfl) T.mg_Builtin rfl) pa_nil)))) (pss_one (ps_ret pe_str)) pss_nil)
      (pss_one (ps_ret (pe_callTy call_fStr (by rfl) T.no_str (by decide +kernel) (pa_cons (fe_var 0) pa_nil)))))))), ?_⟩
      walk_at "fx0"
      cases r with
      | nul => cases hv; repeat (walk_at "oxs"); exact h
      | boo b => cases hv; cases b <;> (repeat (walk_at "oxs"); exact h)
      | num n =>
        cases hv
        repeat (walk_at "oxs")
        exact ⟨Nat.lt_trans (ho.nm n rfl) (by decide), h⟩
      | txt z => cases hv; repeat (walk_at "oxs"); exact ⟨ho.tx z rfl, h⟩
      | bt z =>
        obtain ⟨a, rfl, dx, e1⟩ := hv
        repeat (first | walk_at "oxs" | simp only [e1])
        exact h
      | ob n => exact absurd rfl (hno n)
    · cases h
def spHead (w : World) (c : Cs) : Sp := fun vs H Q _ => match vs with
  | [.ref y, .ref a] => ∃ (x : SA) (S : SV) (n : Nat) (b : Option Addr) (t : Th), y = x.y ∧ Sto w c H x S ∧ OkS S ∧ S.things[n]? = some t ∧ x.L[n]? = some (a, b) ∧ (∀ rs, t ≠ .parts rs) ∧ (∀ rows, t ≠ .table rows) ∧ Q (.str (headT S t)) H
  | _ => False
theorem ok_head (A : At K mg "head_of" "head_of" s_head_of ["store", "thing"]) (T : Txt K mg c) (M_Store_at : HasM P w K mg base CX0 c.Store "at" 1 ["self", "ref"] (spAt w c)) : Has P w K mg base CX0 "head_of" 2 ["store", "thing"] (spHead w c) := by
  have Sc := sc_head_of
  refine has_of A Sc (fun vs H Q E h => ?_) (fun cdv f A outer s H vs Q E hr h => ?_)
  · unfold spHead at h; split at h; rfl; cases h
  · unfold spHead at h
    split at h
    · rename_i y a
      obtain ⟨x, S, n, b, t, rfl, hS, hok, et, ea, n1, n2, h⟩ := h
      obtain ⟨a', b', h1, hT⟩ := hS.at et
      rw [ea] at h1
      cases h1
      obtain ⟨sdx, es⟩ := hS.st
      have lk : ∀ n : Str, n.length ≤ 1000 → n.length ≤ sizeLine := fun n hn => by rw [sizeLine_eq]; omega
      refine ⟨_, (pss_cons (ps_if (pt_val (pe_callB (call_fIsiO T.kit) (by rfl) T.no_isinstance (by decide +kernel) (pa_cons (fe_var 1) (pa_cons (pe_glob (v := .ref c.Kin) (by rfl) T.mg_Kin rfl) pa_nil)))) (pss_one (ps_ret (fe_joined (pf_cons pe_str (pf_cons (fe_fmt (fe_fld (fe_var 1) T.pl_name rfl)) (pf_cons pe_str PF_nil)))))) pss_nil)
      (pss_cons (ps_if (pt_val (pe_callB (call_fIsiO T.kit) (by rfl) T.no_isinstance (by decide +kernel) (pa_cons (fe_var 1) (pa_cons (pe_glob (v := .ref c.Instance) (by rfl) T.mg_Instance rfl) pa_nil)))) (pss_one (ps_ret (fe_joined (pf_cons pe_str (pf_cons (fe_fmt (fe_fld (fe_meth M_Store_at T.cl_Store (hr.mono (by walk_at "rm")) pass0 (fe_var 0) (pa_cons (fe_fld (fe_var 1) T.pl_owner rfl) pa_nil)) T.pl_name rfl)) (pf_cons pe_str PF_nil)))))) pss_nil)
      (pss_one (ps_ret pe_str)))), ?_⟩
      walk_at "fx0"
      have hno := hok n t et
      cases t with
      | parts rs => exact absurd rfl (n1 rs)
      | table rs => exact absurd rfl (n2 rs)
      | kin nm p ms =>
        obtain ⟨dx, pv, md, kvs, rfl, e1, _⟩ := hT
        have hno : nm.length ≤ 1000 := hno
        repeat (first | walk_at "oxs" | simp only [e1])
        have a1 : Str.length (Str.empty) = 0 := rfl
        have a2 : Str.length (Str.ofString "<class ") = 7 := rfl
        have a3 : Str.length (Str.ofString ">") = 1 := rfl
        simp only [Str.length_append, a1, a2, a3, sizeLine_eq]
        exact ⟨by omega, by omega, by omega, by omega, h⟩
      | inst o fs =>
        obtain ⟨dx, ra, nd, kvs, rfl, e1, er, _⟩ := hT
        obtain ⟨nm, p, ms, eo⟩ := hno
        have hl : nm.length ≤ 1000 := hok o _ eo
        repeat (first | walk_at "oxs" | simp only [e1] | simp only [es])
        have a1 : Str.length (Str.empty) = 0 := rfl
        have a2 : Str.length (Str.ofString "<") = 1 := rfl
        have a3 : Str.length (Str.ofString ">") = 1 := rfl
        simp only [Str.length_append, a1, a2, a3, sizeLine_eq]
        refine ⟨by omega, x, S, o, _, rfl, hS, er, eo, fun ya yb h1 hT2 => ?_⟩
        obtain ⟨dx2, pv, md, kvs2, rfl, e2, _⟩ := hT2
        simp only [headT, eo] at h
        repeat (first | walk_at "oxs" | simp only [e2])
        try simp only [Str.length_append, a1, a2, a3, sizeLine_eq]
        exact ⟨by omega, by omega, by omega, h⟩
      | _ =>
        obtain ⟨dx2, fs2, e2⟩ := hT.ins
        simp only [clsT] at e2
        repeat (first | walk_at "oxs" | simp only [e2])
        exact h
    · cases h
theorem plain_ne {r : RV} : 1 ≤ (plainR r).length := by
  cases r with
  | txt z =>
    have e : (quotedS z).length = 1 + (Txt.replace (Txt.replace (Txt.replace z "\\" "\\\\") "\"" "\\\"") "\n" "\\n").length + 1 := by
      unfold quotedS
      rw [Str.length_append, Str.length_append]
      rfl
    show 1 ≤ (quotedS z).length
    omega
  | num n =>
    show 1 ≤ (Str.ofString (toString n)).length
    rw [PySem.ofString_length]
    rcases Int.lt_or_le n 0 with h | h
    · have e : toString n = "-" ++ toString n.natAbs := by
        cases n with
        | ofNat k => exact absurd h (by simp)
        | negSucc k => rfl
      rw [e, String.length_append]
      exact Nat.le_trans (by decide) (Nat.le_add_right _ _)
    · cases n with
      | ofNat k =>
        show 1 ≤ (toString k).length
        rw [Nat.toString_eq_ofList_toDigits, String.length_ofList]
        exact Nat.length_toDigits_pos
      | negSucc k => exact absurd h (by simp)
  | boo b => cases b <;> (simp only [plainR]; decide)
  | _ => simp only [plainR]; decide
theorem head_ne {S : SV} {t : Th} (hS : OkS S) (h : OkT S t) : 1 ≤ (headT S t).length := by
  have e1 : ∀ n : Str, 1 ≤ ("" ++ "<class " ++ n ++ ">" : Str).length ∧ 1 ≤ ("" ++ "<" ++ n ++ ">" : Str).length := fun n => by
    have a2 : Str.length (">" : Str) = 1 := rfl
    simp only [Str.length_append, a2]
    omega
  cases t with
  | kin n p ms => exact (e1 n).1
  | inst o fs =>
    obtain ⟨n, p, ms, e⟩ := h
    simp only [headT, e]
    exact (e1 n).2
  | _ => simp only [headT]; decide
/-- a writer -/
structure WAt (c : Cs) (H : Hp) (y : Addr) (x : SA) (most : Nat) (pl al : Addr) (ps : List Str) (ar : List Nat) : Prop where
  e : ∃ dx, H y = some (.ins c.Writer dx [("store", .ref x.y), ("most", .int (most : Nat)), ("pieces", .ref pl), ("written", .int (lenP ps : Nat)), ("around", .ref al)])
  p : H pl = some (.lst (ps.map V.str))
  a : H al = some (.lst (ar.map fun n => V.int (n : Nat)))
  ne : pl ≠ al
  ny : ∀ q ∈ x.foot, q ∉ [y, pl, al]
  np : ∀ z ∈ ps, 1 ≤ z.length
theorem lenP_ge {ps : List Str} (h : ∀ z ∈ ps, 1 ≤ z.length) : ps.length ≤ lenP ps := by
  induction ps with
  | nil => exact Nat.zero_le _
  | cons z ps ih =>
    have h1 := h z (List.mem_cons_self ..)
    have h2 := ih fun q m => h q (List.mem_cons_of_mem _ m)
    have e : lenP (z :: ps) = z.length + lenP ps := by simp [lenP]
    rw [e, List.length_cons]
    omega
theorem WAt.soft {H : Hp} {y : Addr} {x : SA} {most : Nat} {pl al : Addr} {ps : List Str} {ar : List Nat} (T : Txt K mg c) (W : WAt c H y x most pl al ps ar) : ∀ p ∈ [y, pl, al], Soft c H p := fun p m => by
  simp only [List.mem_cons, List.not_mem_nil, or_false] at m
  rcases m with rfl | rfl | rfl
  · obtain ⟨dx, ey⟩ := W.e
    intro o e hd
    rw [ey] at e
    cases e
    rcases hd with ⟨_, z⟩ | ⟨_, _, z⟩ | ⟨_, _, z⟩
    · cases z
    · have z' : c.Writer = c.Ref := by injection z
      simp only [T.ne] at z'
    · have z' : c.Writer = c.Builtin := by injection z
      simp only [T.ne] at z'
  · exact soft_lst W.p
  · exact soft_lst W.a
theorem WAt.hs {H H1 : Hp} {y : Addr} {x : SA} {most : Nat} {pl al : Addr} {ps : List Str} {ar : List Nat} (T : Txt K mg c) (W : WAt c H y x most pl al ps ar) (k : Keep [y, pl, al] H H1) : HardStay c H H1 := .keep k (W.soft T)
theorem WAt.sto {H H1 : Hp} {y : Addr} {x : SA} {S : SV} {most : Nat} {pl al : Addr} {ps : List Str} {ar : List Nat} (T : Txt K mg c) (W : WAt c H y x most pl al ps ar) (k : Keep [y, pl, al] H H1) (h : Sto w c H x S) : Sto w c H1 x S := h.keep k (W.soft T) W.ny
theorem WAt.same {H H1 : Hp} {y : Addr} {x : SA} {most : Nat} {pl al : Addr} {ps : List Str} {ar : List Nat} (W : WAt c H y x most pl al ps ar) (s : Same H H1) : WAt c H1 y x most pl al ps ar := ⟨W.e.imp fun _ e => s _ _ e, s _ _ W.p, s _ _ W.a, W.ne, W.ny, W.np⟩
theorem WAt.yp {H : Hp} {y : Addr} {x : SA} {most : Nat} {pl al : Addr} {ps : List Str} {ar : List Nat} (W : WAt c H y x most pl al ps ar) : y ≠ pl ∧ y ≠ al := by
  obtain ⟨dx, ey⟩ := W.e
  exact ⟨fun q => by (rw [q, W.p] at ey; cases ey), fun q => by (rw [q, W.a] at ey; cases ey)⟩
theorem WAt.put {H : Hp} {y : Addr} {x : SA} {most : Nat} {pl al dx : Addr} {ps : List Str} {ar : List Nat} {z : Str} {n : Int} (W : WAt c H y x most pl al ps ar) (hz : 1 ≤ z.length) (hn : n = (lenP ps : Nat) + (z.length : Nat)) :
    WAt c (upd (upd H pl (.lst (ps.map V.str ++ [V.str z]))) y (.ins c.Writer dx [("store", .ref x.y), ("most", .int (most : Nat)), ("pieces", .ref pl), ("written", .int n), ("around", .ref al)])) y x most pl al (ps ++ [z]) ar ∧ Keep [y, pl, al] H (upd (upd H pl (.lst (ps.map V.str ++ [V.str z]))) y (.ins c.Writer dx [("store", .ref x.y), ("most", .int (most : Nat)), ("pieces", .ref pl), ("written", .int n), ("around", .ref al)])) := by
  obtain ⟨h1, h2⟩ := W.yp
  refine ⟨⟨⟨dx, ?_⟩, ?_, ?_, W.ne, W.ny, ?_⟩, (Keep.refl.upd (by simp)).upd (by simp)⟩
  · rw [upd_same, hn, lenP_app, lenP_one]; rfl
  · rw [upd_ne (Ne.symm h1), upd_same, List.map_append]; rfl
  · rw [upd_ne (Ne.symm h2), upd_ne (Ne.symm W.ne)]; exact W.a
  · intro q m
    rcases List.mem_append.mp m with m | m
    · exact W.np q m
    · rw [List.mem_singleton.mp m]; exact hz
theorem WAt.setA {H : Hp} {y : Addr} {x : SA} {most : Nat} {pl al : Addr} {ps : List Str} {ar ar2 : List Nat} (W : WAt c H y x most pl al ps ar) {xs : List V} (hx : xs = ar2.map fun n => V.int (n : Nat)) : WAt c (upd H al (.lst xs)) y x most pl al ps ar2 ∧ Keep [y, pl, al] H (upd H al (.lst xs)) := by
  obtain ⟨h1, h2⟩ := W.yp
  obtain ⟨dx, ey⟩ := W.e
  refine ⟨⟨⟨dx, (upd_ne h2).trans ey⟩, (upd_ne W.ne).trans W.p, ?_, W.ne, W.ny, W.np⟩, Keep.refl.upd (by simp)⟩
  rw [upd_same, hx]
def spPutW (c : Cs) : Sp := fun vs H Q _ => match vs with
  | [.ref y, .str z] => ∃ x most pl al ps ar, WAt c H y x most pl al ps ar ∧ 1 ≤ z.length ∧ z.length ≤ 30000 ∧ lenP ps ≤ 100000 ∧ ∀ H', WAt c H' y x most pl al (ps ++ [z]) ar → Keep [y, pl, al] H H' → Q .non H'
  | _ => False
theorem ok_putW (A : AtM K c.Writer "put" "Writer.put" s_Writer_put ["self", "piece"]) (T : Txt K mg c) : HasM P w K mg base CX0 c.Writer "put" 1 ["self", "piece"] (spPutW c) := by
  have Sc := sc_Writer_put
  refine hasM_of A Sc (fun vs H Q E h => ?_) (fun cdv f A outer s H vs Q E hr h => ?_)
  · unfold spPutW at h; split at h; rfl; cases h
  · unfold spPutW at h
    split at h
    · rename_i y z
      obtain ⟨x, most, pl, al, ps, ar, W, hz, hz2, hl, h⟩ := h
      obtain ⟨dx, ey⟩ := W.e
      have hlen := lenP_ge W.np
      obtain ⟨h1, h2⟩ := W.yp
      refine ⟨_, (pss_cons (ps_expr (fe_bm PySem.F.plainAttrs_list PySem.F.slot_list_append PySem.F.type_list_append isLst_ty mt_fAppend (fe_fld (fe_var 0) T.pl_pieces rfl) (pa_cons (fe_var 1) pa_nil)))
      (pss_one (fs_fld (fe_var 0) (pe_op op_fAdd (fe_fld (fe_var 0) T.pl_written rfl) (pe_callB call_fLen (by rfl) T.no_len (by decide +kernel) (pa_cons (fe_var 1) pa_nil))) T.pl_written rfl))), ?_⟩
      walk_at "fx0"
      repeat (first | walk_at "oxs" | simp only [ey])
      have hP : (ps.map V.str).length < sizeLine := by rw [List.length_map, sizeLine_eq]; omega
      have ey1 : upd H pl (.lst (ps.map V.str ++ [V.str z])) y = some (.ins c.Writer dx [("store", .ref x.y), ("most", .int (most : Nat)), ("pieces", .ref pl), ("written", .int (lenP ps : Nat)), ("around", .ref al)]) := (upd_ne h1).trans ey
      simp only [W.p, ey1]
      repeat (first | walk_at "oxs" | simp only [ey1])
      refine ⟨hP, by rw [sizeLine_eq]; omega, ?_⟩
      obtain ⟨q1, q2⟩ := W.put (dx := dx) hz rfl
      exact h _ q1 q2
    · cases h
/-! ### how much is written -/
def roomW : Nat := 27040
theorem plain_room {S : SV} {r : RV} {most : Nat} {ps : List Str} (h : OkR S r) (l : lenP ps ≤ most + 2) : lenP (ps ++ [plainR r]) ≤ most + 27030 := by
  have := plain_len h
  rw [lenP_app, lenP_one]
  omega
theorem wParts_cons {w1 : RV → List Str → List Str} {most : Nat} {b : Bool} {r : RV} {rs : List RV} {ps : List Str} : wParts w1 most b (r :: rs) ps = if most < lenP ps then ps else wParts w1 most false rs (w1 r (if b = true then ps else ps ++ [(", " : Str)])) := rfl
theorem wPairs_cons {w1 : RV → List Str → List Str} {most : Nat} {b : Bool} {r : RV × RV} {rs : List (RV × RV)} {ps : List Str} : wPairs w1 most b (r :: rs) ps = if most < lenP ps then ps else wPairs w1 most false rs (w1 r.2 ((if b = true then ps else ps ++ [(", " : Str)]) ++ [plainR r.1 ++ (": " : Str)])) := rfl
theorem wParts_room {w1 : RV → List Str → List Str} {most C : Nat} (hC : 2 ≤ C) : ∀ {rs : List RV} {b : Bool} {ps : List Str}, (∀ r ∈ rs, ∀ ps, lenP ps ≤ most + C → lenP (w1 r ps) ≤ most + C) → lenP ps ≤ most + C → lenP (wParts w1 most b rs ps) ≤ most + C
  | [], _, _, _, h => h
  | r :: rs, b, ps, hw, h => by
    rw [wParts_cons]
    split
    · exact h
    · refine wParts_room hC (fun q m => hw q (List.mem_cons_of_mem _ m)) (hw r (List.mem_cons_self ..) _ ?_)
      split
      · exact h
      · simp only [lenP_app, lenP_one, show Str.length (Str.ofString ", ") = 2 from rfl]; omega
theorem wPairs_room {w1 : RV → List Str → List Str} {most C : Nat} (hC : 27032 ≤ C) : ∀ {rs : List (RV × RV)} {b : Bool} {ps : List Str}, (∀ r ∈ rs, (plainR r.1).length ≤ 27028 ∧ ∀ ps, lenP ps ≤ most + C → lenP (w1 r.2 ps) ≤ most + C) → lenP ps ≤ most + C → lenP (wPairs w1 most b rs ps) ≤ most + C
  | [], _, _, _, h => h
  | r :: rs, b, ps, hw, h => by
    rw [wPairs_cons]
    split
    · exact h
    · refine wPairs_room hC (fun q m => hw q (List.mem_cons_of_mem _ m)) ((hw r (List.mem_cons_self ..)).2 _ ?_)
      have h1 := (hw r (List.mem_cons_self ..)).1
      split <;> (simp only [lenP_app, lenP_one, Str.length_append, show Str.length (Str.ofString ", ") = 2 from rfl, show Str.length (Str.ofString ": ") = 2 from rfl]; omega)
theorem wr_room {S : SV} {most : Nat} (hS : OkS S) : ∀ (d : Nat) (ar : List Nat) (v : RV) (ps : List Str), OkR S v → lenP ps ≤ most + (27040 + d) → lenP (wr S most d ar v ps) ≤ most + (27040 + d)
  | 0, _, _, _, _, h => h
  | d + 1, ar, v, ps, hv, h => by
    have pr : ∀ z : Str, z.length ≤ 27030 → ¬ most < lenP ps → lenP (ps ++ [z]) ≤ most + (27040 + (d + 1)) := fun z hz q => by rw [lenP_app, lenP_one]; omega
    unfold wr
    split
    · exact h
    · rename_i q
      split
      · rename_i n
        split
        · rename_i rs e
          split
          · exact pr _ (by decide) q
          · have hb := hS n _ e
            have h2 := wParts_room (w1 := wr S most d (ar ++ [n])) (most := most) (C := 27040 + d) (by omega) (rs := rs) (b := true) (ps := ps ++ [("[" : Str)]) (fun r m ps' h' => wr_room hS d _ r ps' (hb.2 r m) h') (by simp only [lenP_app, lenP_one, show Str.length (Str.ofString "[") = 1 from rfl]; omega)
            rw [lenP_app]
            exact Nat.le_trans (Nat.add_le_add_right h2 _) (by rw [lenP_one, show Str.length (Str.ofString "]") = 1 from rfl]; omega)
        · rename_i rs e
          split
          · exact pr _ (by decide) q
          · have hb := hS n _ e
            have h2 := wPairs_room (w1 := wr S most d (ar ++ [n])) (most := most) (C := 27040 + d) (by omega) (rs := rs) (b := true) (ps := ps ++ [("{" : Str)]) (fun r m => ⟨plain_len (hb.2 r m).1, fun ps' h' => wr_room hS d _ r.2 ps' (hb.2 r m).2.1 h'⟩) (by simp only [lenP_app, lenP_one, show Str.length (Str.ofString "{") = 1 from rfl]; omega)
            rw [lenP_app]
            exact Nat.le_trans (Nat.add_le_add_right h2 _) (by rw [lenP_one, show Str.length (Str.ofString "}") = 1 from rfl]; omega)
        · rename_i t _ _ e
          exact pr _ (Nat.le_trans (head_len hS (hS n t e)) (by decide)) q
        · exact h
      · exact pr _ (Nat.le_trans (plain_len hv) (by decide)) q
def spWrite (w : World) (c : Cs) (d : Nat) : Sp := fun vs H Q _ => match vs with
  | [.ref y, v] => ∃ x S most pl al ps ar r, WAt c H y x most pl al ps ar ∧ Sto w c H x S ∧ OkS S ∧ IsVal c H v r ∧ OkR S r ∧ most ≤ 1000 ∧ lenP ps ≤ most + 27060 ∧ ar.length ≤ 10 ∧ ar.length + d = 11 ∧ ∀ H', WAt c H' y x most pl al (wr S most d ar r ps) ar → Keep [y, pl, al] H H' → Q .non H'
  | _ => False
def spBox (w : World) (c : Cs) (d : Nat) : Sp := fun vs H Q _ => match vs with
  | [.ref y, .int n, .ref a] => ∃ x S most pl al ps ar t m b, n = (m : Nat) ∧ WAt c H y x most pl al ps ar ∧ Sto w c H x S ∧ OkS S ∧ S.things[m]? = some t ∧ x.L[m]? = some (a, b) ∧ ((∃ rs, t = .parts rs) ∨ ∃ rows, t = .table rows) ∧ most ≤ 1000 ∧ lenP ps ≤ most ∧ ar.length ≤ 10 ∧ ar.length + (d + 1) = 11 ∧ ∀ H', WAt c H' y x most pl al (wr S most (d + 1) ar (.ob m) ps) ar → Keep [y, pl, al] H H' → Q .non H'
  | _ => False
def spPartsW (w : World) (c : Cs) (d : Nat) : Sp := fun vs H Q _ => match vs with
  | [.ref y, .ref l] => ∃ x S most pl al ps ar xs rs, WAt c H y x most pl al ps ar ∧ Sto w c H x S ∧ OkS S ∧ H l = some (.lst xs) ∧ VsAt c H xs rs ∧ (∀ r ∈ rs, OkR S r) ∧ rs.length ≤ 1000 ∧ l ∉ [y, pl, al] ∧ most ≤ 1000 ∧ lenP ps ≤ most + 1 ∧ ar.length ≤ 10 ∧ ar.length + d = 11 ∧ ∀ H', WAt c H' y x most pl al (wParts (wr S most d ar) most true rs ps) ar → Keep [y, pl, al] H H' → Q .non H'
  | _ => False
def spPairsW (w : World) (c : Cs) (d : Nat) : Sp := fun vs H Q _ => match vs with
  | [.ref y, .ref l] => ∃ x S most pl al ps ar ts rws rows, WAt c H y x most pl al ps ar ∧ Sto w c H x S ∧ OkS S ∧ H l = some (.lst (ts.map V.ref)) ∧ RowsT H ts rws ∧ Paired (fun p r => IsVal c H p.1 r.1 ∧ IsVal c H p.2 r.2) rws rows ∧ (∀ r ∈ rows, OkR S r.1 ∧ OkR S r.2 ∧ ∀ n, r.1 ≠ .ob n) ∧ rows.length ≤ 1000 ∧ l ∉ [y, pl, al] ∧ most ≤ 1000 ∧ lenP ps ≤ most + 1 ∧ ar.length ≤ 10 ∧ ar.length + d = 11 ∧ ∀ H', WAt c H' y x most pl al (wPairs (wr S most d ar) most true rows ps) ar → Keep [y, pl, al] H H' → Q .non H'
  | _ => False
theorem ok_partsW {d : Nat} (A : AtM K c.Writer "write_parts" "Writer.write_parts" s_Writer_write_parts ["self", "held"]) (T : Txt K mg c) (M_Writer_put : HasM P w K mg base CX0 c.Writer "put" 1 ["self", "piece"] (spPutW c)) (M_Writer_write : HasM P w K mg base CX0 c.Writer "write" (3 * d + 10) ["self", "value"] (spWrite w c d)) : HasM P w K mg base CX0 c.Writer "write_parts" (3 * d + 11) ["self", "held"] (spPartsW w c d) := by
  have Sc := sc_Writer_write_parts
  refine hasM_of A Sc (fun vs H Q E h => ?_) (fun cdv f A outer s H vs Q E hr h => ?_)
  · unfold spPartsW at h; split at h; rfl; cases h
  · unfold spPartsW at h
    split at h
    · rename_i y l
      obtain ⟨x, S, most, pl, al, ps, ar, xs, rs, W, hS, hok, el, hxs, hrs, hn, hl, hm, hp, ha, hd, h⟩ := h
      obtain ⟨dx, ey⟩ := W.e
      have len := Paired.length hxs
      refine ⟨_, (pss_one (ps_for PassesOwn.never rfl (pi_enum_ (by rfl) T.no_enumerate (pa_cons (fe_var 1) pa_nil)) (pg_tup (n := 2) rfl (pgs_cons (pg_name (i := 2) Sc.nd rfl (.inl rfl)) (pgs_cons (pg_name (i := 3) Sc.nd rfl (.inl rfl)) pgs_nil))) (pss_cons (ps_if (pt_cmpR op_fGt (fe_fld (fe_var 0) T.pl_written rfl) (fe_fld (fe_var 0) T.pl_most rfl) (nomark _)) (pss_one ps_retN) pss_nil)
      (pss_cons (ps_if (pt_cmpR op_fGt (fe_var 2) pe_int (nomark _)) (pss_one (ps_expr (fe_meth M_Writer_put T.cl_Writer (hr.mono (by walk_at "rm")) pass0 (fe_var 0) (pa_cons pe_str pa_nil)))) pss_nil)
      (pss_one (ps_expr (fe_meth M_Writer_write T.cl_Writer (hr.mono (by walk_at "rm")) pass0 (fe_var 0) (pa_cons (fe_var 3) pa_nil)))))))), ?_⟩
      walk_at "fx0"
      repeat (first | walk_at "oxs" | simp only [ey])
      refine ⟨⟨_, .inl (.inl el)⟩, ?_⟩
      refine loop_enum (xs := xs) (fun i σ H' => ∃ ps', WAt c H' y x most pl al ps' ar ∧ Keep [y, pl, al] H H' ∧ wParts (wr S most d ar) most (decide (i = 0)) (rs.drop i) ps' = wParts (wr S most d ar) most true rs ps ∧ (i = 0 → lenP ps' ≤ most + 1) ∧ ∃ v2 v3, σ = [some (.ref y), some (.ref l), v2, v3]) ⟨ps, W, Keep.refl, rfl, fun _ => hp, _, _, rfl⟩ (fun i σ H' _ ⟨_, _, k, _⟩ => .inl (.inl (k _ _ hl el))) ?_ ?_
      · rintro i v t σ H' hx ⟨ps', W', k, e, hp', v2, v3, rfl⟩ ht
        obtain ⟨r, er, hv⟩ := paired_get hxs hx
        have ed : rs.drop i = r :: rs.drop (i + 1) := by
          obtain ⟨hi, e2⟩ := List.getElem?_eq_some_iff.mp er
          rw [List.drop_eq_getElem_cons hi, e2]
        rw [ed] at e
        have s1 : Same H' (upd H' t (.tup [.int (i : Nat), v])) := same_new ht
        have W1 := W'.same s1
        have k1 : Keep [y, pl, al] H (upd H' t (.tup [.int (i : Nat), v])) := k.trans (Keep.of s1)
        generalize hH : upd H' t (.tup [.int (i : Nat), v]) = H1 at s1 W1 k1
        have et : H1 t = some (.tup [.int (i : Nat), v]) := by rw [← hH]; exact upd_same
        walk_at "ox"
        refine ⟨_, SqT.of et, rfl, _, _, rfl, _, _, rfl, rfl, ?_⟩
        obtain ⟨dx1, ey1⟩ := W1.e
        repeat (first | walk_at "oxs" | simp only [ey1])
        split
        · rename_i q
          refine h _ ?_ k1
          rw [← e]
          rw [wParts_cons, if_pos (by omega)]
          exact W1
        · rename_i q
          rw [wParts_cons, if_neg (by omega)] at e
          by_cases h0 : i = 0
          · subst h0
            rw [show decide ((0 : Nat) = 0) = true from rfl, if_pos rfl] at e
            repeat (walk_at "oxs")
            rw [if_neg (by decide)]
            refine ⟨x, S, most, pl, al, ps', ar, r, W1, W.sto T k1 hS, hok, hv.hs (W.hs T k1), hrs r (List.mem_of_getElem? er), hm, by omega, ha, hd, fun H4 W4 k4 => ?_⟩
            exact ⟨_, W4, k1.trans k4, e, fun z => z.elim, _, rfl⟩
          · rw [show decide (i = 0) = false from decide_eq_false h0, if_neg (by decide)] at e
            repeat (walk_at "oxs")
            rw [if_pos (by omega)]
            refine ⟨x, most, pl, al, ps', ar, W1, by decide, by decide, by omega, fun H3 W3 k3 => ?_⟩
            obtain ⟨dx3, ey3⟩ := W3.e
            repeat (first | walk_at "oxs" | simp only [ey3])
            have k13 := k1.trans k3
            refine ⟨x, S, most, pl, al, _, ar, r, W3, W.sto T k13 hS, hok, hv.hs (W.hs T k13), hrs r (List.mem_of_getElem? er), hm, ?_, ha, hd, fun H4 W4 k4 => ?_⟩
            · rw [lenP_app, show lenP [(", " : Str)] = 2 from rfl]; omega
            · exact ⟨_, W4, k13.trans k4, e, fun z => z.elim, _, rfl⟩
      · rintro σ H' ⟨ps', W', k, e, _, v2, v3, rfl⟩
        walk_at "ox"
        refine h _ ?_ k
        rw [← e, List.drop_eq_nil_of_le (by omega)]
        exact W'
    · cases h
theorem ok_pairsW {d : Nat} (A : AtM K c.Writer "write_pairs" "Writer.write_pairs" s_Writer_write_pairs ["self", "pairs"]) (T : Txt K mg c) (H_plain : Has P w K mg base CX0 "plain" 2 ["value"] (spPlain c)) (M_Writer_put : HasM P w K mg base CX0 c.Writer "put" 1 ["self", "piece"] (spPutW c)) (M_Writer_write : HasM P w K mg base CX0 c.Writer "write" (3 * d + 10) ["self", "value"] (spWrite w c d)) : HasM P w K mg base CX0 c.Writer "write_pairs" (3 * d + 11) ["self", "pairs"] (spPairsW w c d) := by
  have Sc := sc_Writer_write_pairs
  refine hasM_of A Sc (fun vs H Q E h => ?_) (fun cdv f A outer s H vs Q E hr h => ?_)
  · unfold spPairsW at h; split at h; rfl; cases h
  · unfold spPairsW at h
    split at h
    · rename_i y l
      obtain ⟨x, S, most, pl, al, ps, ar, ts, rws, rows, W, hS, hok, el, hts, hxs, hrs, hn, hl, hm, hp, ha, hd, h⟩ := h
      obtain ⟨dx, ey⟩ := W.e
      have len := Paired.length hts
      have len2 := Paired.length hxs
      refine ⟨_, (pss_one (ps_for PassesOwn.never rfl (pi_enum_ (by rfl) T.no_enumerate (pa_cons (fe_var 1) pa_nil)) (pg_tup (n := 2) rfl (pgs_cons (pg_name (i := 2) Sc.nd rfl (.inl rfl)) (pgs_cons (pg_name (i := 3) Sc.nd rfl (.inl rfl)) pgs_nil))) (pss_cons (ps_if (pt_cmpR op_fGt (fe_fld (fe_var 0) T.pl_written rfl) (fe_fld (fe_var 0) T.pl_most rfl) (nomark _)) (pss_one ps_retN) pss_nil)
      (pss_cons (ps_if (pt_cmpR op_fGt (fe_var 2) pe_int (nomark _)) (pss_one (ps_expr (fe_meth M_Writer_put T.cl_Writer (hr.mono (by walk_at "rm")) pass0 (fe_var 0) (pa_cons pe_str pa_nil)))) pss_nil)
      (pss_cons (ps_expr (fe_meth M_Writer_put T.cl_Writer (hr.mono (by walk_at "rm")) pass0 (fe_var 0) (pa_cons (pe_op op_fAdd (fe_call H_plain (hr.mono (by walk_at "rm")) (by rfl) pass0 (pa_cons (pe_ix ix_fx (fe_var 3) pe_int (fun _ _ => rfl)) pa_nil)) pe_str) pa_nil)))
      (pss_one (ps_expr (fe_meth M_Writer_write T.cl_Writer (hr.mono (by walk_at "rm")) pass0 (fe_var 0) (pa_cons (pe_ix ix_fx (fe_var 3) pe_int (fun _ _ => rfl)) pa_nil))))))))), ?_⟩
      walk_at "fx0"
      repeat (first | walk_at "oxs" | simp only [ey])
      refine ⟨⟨_, .inl (.inl el)⟩, ?_⟩
      refine loop_enum (xs := ts.map V.ref) (fun i σ H' => ∃ ps', WAt c H' y x most pl al ps' ar ∧ Keep [y, pl, al] H H' ∧ wPairs (wr S most d ar) most (decide (i = 0)) (rows.drop i) ps' = wPairs (wr S most d ar) most true rows ps ∧ (i = 0 → lenP ps' ≤ most + 1) ∧ ∃ v2 v3, σ = [some (.ref y), some (.ref l), v2, v3]) ⟨ps, W, Keep.refl, rfl, fun _ => hp, _, _, rfl⟩ (fun i σ H' _ ⟨_, _, k, _⟩ => .inl (.inl (k _ _ hl el))) ?_ ?_
      · rintro i v t σ H' hx ⟨ps', W', k, e, hp', v2, v3, rfl⟩ ht
        rw [List.getElem?_map] at hx
        obtain ⟨tp, etp, rfl⟩ := Option.map_eq_some_iff.mp hx
        obtain ⟨pr, epr, htp⟩ := paired_get hts etp
        obtain ⟨r, er, hv1, hv2⟩ := paired_get hxs epr
        have hr0 := hrs r (List.mem_of_getElem? er)
        have ed : rows.drop i = r :: rows.drop (i + 1) := by
          obtain ⟨hi, e2⟩ := List.getElem?_eq_some_iff.mp er
          rw [List.drop_eq_getElem_cons hi, e2]
        rw [ed] at e
        have s1 : Same H' (upd H' t (.tup [.int (i : Nat), .ref tp])) := same_new ht
        have W1 := W'.same s1
        have k1 : Keep [y, pl, al] H (upd H' t (.tup [.int (i : Nat), .ref tp])) := k.trans (Keep.of s1)
        generalize hH : upd H' t (.tup [.int (i : Nat), .ref tp]) = H1 at s1 W1 k1
        have et : H1 t = some (.tup [.int (i : Nat), .ref tp]) := by rw [← hH]; exact upd_same
        walk_at "ox"
        refine ⟨_, SqT.of et, rfl, _, _, rfl, _, _, rfl, rfl, ?_⟩
        obtain ⟨dx1, ey1⟩ := W1.e
        repeat (first | walk_at "oxs" | simp only [ey1])
        split
        · rename_i q
          refine h _ ?_ k1
          rw [← e, wPairs_cons, if_pos (by omega)]
          exact W1
        · rename_i q
          rw [wPairs_cons, if_neg (by omega)] at e
          have pl1 := plain_len hr0.1
          have l2 : Str.length (Str.ofString ": ") = 2 := rfl
          by_cases h0 : i = 0
          · subst h0
            rw [show decide ((0 : Nat) = 0) = true from rfl, if_pos rfl] at e
            repeat (walk_at "oxs")
            rw [if_neg (by decide)]
            refine ⟨_, rl_t (W.hs T k1 _ _ htp (Hard.t _)), pr.1, rfl, S, r.1, hv1.hs (W.hs T k1), hr0.1, hr0.2.2, by rw [l2, sizeLine_eq]; omega, ?_⟩
            refine ⟨x, most, pl, al, _, ar, W1, by rw [Str.length_append, l2]; omega, by rw [Str.length_append, l2]; omega, by omega, fun H4 W4 k4 => ?_⟩
            obtain ⟨dx4, ey4⟩ := W4.e
            have k14 := k1.trans k4
            repeat (first | walk_at "oxs" | simp only [ey4])
            refine ⟨_, rl_t (W.hs T k14 _ _ htp (Hard.t _)), pr.2, rfl, x, S, most, pl, al, _, ar, r.2, W4, W.sto T k14 hS, hok, hv2.hs (W.hs T k14), hr0.2.1, hm, ?_, ha, hd, fun H5 W5 k5 => ?_⟩
            · rw [lenP_app, lenP_one, Str.length_append, l2]; omega
            · exact ⟨_, W5, k14.trans k5, e, fun z => z.elim, _, rfl⟩
          · rw [show decide (i = 0) = false from decide_eq_false h0, if_neg (by decide)] at e
            repeat (walk_at "oxs")
            rw [if_pos (by omega)]
            refine ⟨x, most, pl, al, ps', ar, W1, by decide, by decide, by omega, fun H3 W3 k3 => ?_⟩
            obtain ⟨dx3, ey3⟩ := W3.e
            have k13 := k1.trans k3
            repeat (first | walk_at "oxs" | simp only [ey3])
            refine ⟨_, rl_t (W.hs T k13 _ _ htp (Hard.t _)), pr.1, rfl, S, r.1, hv1.hs (W.hs T k13), hr0.1, hr0.2.2, by rw [l2, sizeLine_eq]; omega, ?_⟩
            refine ⟨x, most, pl, al, _, ar, W3, by rw [Str.length_append, l2]; omega, by rw [Str.length_append, l2]; omega, by rw [lenP_app, show lenP [(", " : Str)] = 2 from rfl]; omega, fun H4 W4 k4 => ?_⟩
            obtain ⟨dx4, ey4⟩ := W4.e
            have k14 := k13.trans k4
            repeat (first | walk_at "oxs" | simp only [ey4])
            refine ⟨_, rl_t (W.hs T k14 _ _ htp (Hard.t _)), pr.2, rfl, x, S, most, pl, al, _, ar, r.2, W4, W.sto T k14 hS, hok, hv2.hs (W.hs T k14), hr0.2.1, hm, ?_, ha, hd, fun H5 W5 k5 => ?_⟩
            · simp only [lenP_app, lenP_one, Str.length_append, l2, show Str.length (Str.ofString ", ") = 2 from rfl]; omega
            · exact ⟨_, W5, k14.trans k5, e, fun z => z.elim, _, rfl⟩
      · rintro σ H' ⟨ps', W', k, e, _, v2, v3, rfl⟩
        walk_at "ox"
        refine h _ ?_ k
        rw [← e, List.drop_eq_nil_of_le (by rw [List.length_map]; omega)]
        exact W'
    · cases h
theorem inV_ar {m : Nat} : ∀ {ar : List Nat}, inV (.int (m : Nat)) (ar.map fun n => V.int (n : Nat)) = decide (m ∈ ar)
  | [] => rfl
  | a :: ar => by
    have ih := inV_ar (m := m) (ar := ar)
    unfold inV at ih ⊢
    rw [List.map_cons, List.any_cons, ih]
    have e : eqV (.int (a : Nat)) (.int (m : Nat)) = decide (m = a) := by
      simp only [eqV]
      by_cases z : m = a
      · subst z; simp
      · have z' : ¬ (a : Int) = (m : Int) := by omega
        simp [z, z']
    rw [e, ← Bool.decide_or]
    exact decide_eq_decide.mpr (by rw [List.mem_cons])
theorem flat_ar : ∀ {ar : List Nat}, (ar.map fun n => V.int (n : Nat)).all flatV = true
  | [] => rfl
  | a :: ar => by rw [List.map_cons, List.all_cons, flat_ar]; rfl
theorem ok_boxW {d : Nat} (A : AtM K c.Writer "write_box" "Writer.write_box" s_Writer_write_box ["self", "number", "thing"]) (T : Txt K mg c) (M_Table_pairs : HasM P w K mg base CX0 c.Table "pairs" 1 ["self"] (spPairs w c)) (M_Writer_put : HasM P w K mg base CX0 c.Writer "put" 1 ["self", "piece"] (spPutW c)) (M_Writer_write_parts : HasM P w K mg base CX0 c.Writer "write_parts" (3 * d + 11) ["self", "held"] (spPartsW w c d)) (M_Writer_write_pairs : HasM P w K mg base CX0 c.Writer "write_pairs" (3 * d + 11) ["self", "pairs"] (spPairsW w c d)) : HasM P w K mg base CX0 c.Writer "write_box" (3 * d + 12) ["self", "number", "thing"] (spBox w c d) := by
  have Sc := sc_Writer_write_box
  refine hasM_of A Sc (fun vs H Q E h => ?_) (fun cdv f A outer s H vs Q E hr h => ?_)
  · unfold spBox at h; split at h; rfl; cases h
  · unfold spBox at h
    split at h
    · rename_i y n a
      obtain ⟨x, S, most, pl, al, ps, ar, t, m, b, rfl, W, hS, hok, et, ea, ht, hm, hp, ha, hd, h⟩ := h
      obtain ⟨a', b', h1, hT⟩ := hS.at et
      rw [ea] at h1
      cases h1
      obtain ⟨dx, ey⟩ := W.e
      have hb := hok m t et
      have hal := W.a
      refine ⟨_, (pss_cons (ps_asg (pe_ifExp (pt_val (pe_callB (call_fIsiO T.kit) (by rfl) T.no_isinstance (by decide +kernel) (pa_cons (fe_var 2) (pa_cons (pe_glob (v := .ref c.Parts) (by rfl) T.mg_Parts rfl) pa_nil)))) (fe_tup (pa_cons pe_str (pa_cons pe_str pa_nil))) (fe_tup (pa_cons pe_str (pa_cons pe_str pa_nil)))) (pg_tup (n := 2) rfl (pgs_cons (pg_name (i := 3) Sc.nd rfl (.inl rfl)) (pgs_cons (pg_name (i := 4) Sc.nd rfl (.inl rfl)) pgs_nil))))
      (pss_cons (ps_if (PW.pt (pw_or (pt_cmpR op_fIn (fe_var 1) (fe_fld (fe_var 0) T.pl_around rfl) (by with_unfolding_all rfl)) (pw_or1 (pt_cmpR op_fGe (pe_callB call_fLen (by rfl) T.no_len (by decide +kernel) (pa_cons (fe_fld (fe_var 0) T.pl_around rfl) pa_nil)) (fe_gint (by rfl) T.g_MOST_DEEP) (nomark _))))) (pss_cons (ps_expr (fe_meth M_Writer_put T.cl_Writer (hr.mono (by walk_at "rm")) pass0 (fe_var 0) (pa_cons (pe_op op_fAdd (pe_op op_fAdd (fe_var 3) pe_str) (fe_var 4)) pa_nil)))
      (pss_one ps_retN)) pss_nil)
      (pss_cons (ps_expr (fe_bm PySem.F.plainAttrs_list PySem.F.slot_list_append PySem.F.type_list_append isLst_ty mt_fAppend (fe_fld (fe_var 0) T.pl_around rfl) (pa_cons (fe_var 1) pa_nil)))
      (pss_cons (ps_expr (fe_meth M_Writer_put T.cl_Writer (hr.mono (by walk_at "rm")) pass0 (fe_var 0) (pa_cons (fe_var 3) pa_nil)))
      (pss_cons (ps_if (pt_val (pe_callB (call_fIsiO T.kit) (by rfl) T.no_isinstance (by decide +kernel) (pa_cons (fe_var 2) (pa_cons (pe_glob (v := .ref c.Parts) (by rfl) T.mg_Parts rfl) pa_nil)))) (pss_one (ps_expr (fe_meth M_Writer_write_parts T.cl_Writer (hr.mono (by walk_at "rm")) pass0 (fe_var 0) (pa_cons (fe_fld (fe_var 2) T.pl_held rfl) pa_nil)))) (pss_one (ps_expr (fe_meth M_Writer_write_pairs T.cl_Writer (hr.mono (by walk_at "rm")) pass0 (fe_var 0) (pa_cons (fe_meth0 M_Table_pairs T.cl_Table (hr.mono (by walk_at "rm")) pass0 (fe_var 2)) pa_nil)))))
      (pss_cons (ps_expr (fe_meth M_Writer_put T.cl_Writer (hr.mono (by walk_at "rm")) pass0 (fe_var 0) (pa_cons (fe_var 4) pa_nil)))
      (pss_one (ps_expr (fe_bm0 PySem.F.plainAttrs_list PySem.F.slot_list_pop PySem.F.type_list_pop isLst_ty mt_fPop (fe_fld (fe_var 0) T.pl_around rfl)))))))))), ?_⟩
      walk_at "fx0"
      simp only [tSeq]
      refine cut_ fun N hN => ?_
      rcases ht with ⟨rs, rfl⟩ | ⟨rows, rfl⟩
      · obtain ⟨dx2, l, xs, rfl, e1, el, hxs⟩ := id hT
        repeat (first | walk_at "oxs" | simp only [e1])
        intro p H1 np s1 ep
        refine ⟨_, SqT.of ep, rfl, _, _, rfl, _, _, rfl, rfl, hN _ _ ?_⟩
        clear hN N
        have W1 := W.same s1
        obtain ⟨dx1, ey1⟩ := W1.e
        have hal1 := W1.a
        simp only [tSeq]
        refine cut_ fun N hN => ?_
        repeat (first | walk_at "oxs" | simp only [ey1])
        refine ⟨_, rl_l hal1, flat_ar, ?_⟩
        rw [inV_ar]
        have l1 : Str.length (Str.ofString "[") = 1 := rfl
        have l3 : Str.length (Str.ofString "...") = 3 := rfl
        have e0 : wr S most (d + 1) ar (.ob m) ps = if m ∈ ar ∨ 10 ≤ ar.length then ps ++ [(("[" : Str) ++ "..." ++ "]")] else wParts (wr S most d (ar ++ [m])) most true rs (ps ++ [("[" : Str)]) ++ [("]" : Str)] := by
          unfold wr
          rw [if_neg (by omega)]
          simp only [et]
        have k1 : Keep [y, pl, al] H H1 := Keep.of s1
        have dots : (m ∈ ar ∨ 10 ≤ ar.length) → (Str.ofString "[").length + (Str.ofString "...").length ≤ sizeLine ∧ (Str.ofString "[" ++ Str.ofString "...").length + (Str.ofString "]").length ≤ sizeLine ∧ spPutW c [V.ref y, V.str (Str.ofString "[" ++ Str.ofString "..." ++ Str.ofString "]")] H1 (fun x H1 => Q V.non H1) E0 := fun z => by
          rw [e0, if_pos z] at h
          exact ⟨by rw [sizeLine_eq]; decide, by rw [sizeLine_eq]; decide, x, most, pl, al, ps, ar, W1, by decide, by decide, by omega, fun H2 W2 k2 => h _ W2 (k1.trans k2)⟩
        split
        · rename_i z
          exact dots (.inl (of_decide_eq_true z))
        · rename_i z
          refine ⟨_, rl_l hal1, ?_⟩
          rw [List.length_map]
          split
          · exact dots (.inr (by omega))
          · rename_i z2
            have hnot : ¬ (m ∈ ar ∨ 10 ≤ ar.length) := fun q => q.elim (fun q => z (decide_eq_true q)) fun q => z2 (by omega)
            rw [e0, if_neg hnot] at h
            have l10 : ar.length < 10 := by omega
            clear dots e0
            refine hN _ _ ?_
            clear hN N
            simp only [tSeq]
            refine cut_ fun N hN => ?_
            repeat (first | walk_at "oxs" | simp only [ey1] | simp only [hal1])
            refine ⟨by rw [List.length_map, sizeLine_eq]; omega, hN _ _ ?_⟩
            clear hN N
            obtain ⟨W2, k2⟩ := W1.setA (ar2 := ar ++ [m]) (xs := (ar.map fun n => V.int (n : Nat)) ++ [V.int (m : Nat)]) (by rw [List.map_append]; rfl)
            generalize upd H1 al (.lst ((ar.map fun n => V.int (n : Nat)) ++ [V.int (m : Nat)])) = H2 at W2 k2 ⊢
            have k12 := k1.trans k2
            obtain ⟨dx2', ey2⟩ := W2.e
            simp only [tSeq]
            refine cut_ fun N hN => ?_
            repeat (first | walk_at "oxs" | simp only [ey2])
            refine ⟨x, most, pl, al, ps, _, W2, by decide, by decide, by omega, fun H3 W3 k3 => hN _ _ ?_⟩
            clear hN N
            have k13 := k12.trans k3
            obtain ⟨dx3, ey3⟩ := W3.e
            have na : a ∉ [y, pl, al] := W.ny a (mem_add (List.mem_of_getElem? ea) (by simp [footT]))
            have nl : l ∉ [y, pl, al] := W.ny l (mem_add (List.mem_of_getElem? ea) (by simp [footT]))
            have e3 := k13 _ _ na e1
            have el3 := k13 _ _ nl el
            simp only [tSeq]
            refine cut_ fun N hN => ?_
            repeat (first | walk_at "oxs" | simp only [e3] | simp only [ey3])
            have lar : (ar ++ [m]).length = ar.length + 1 := by rw [List.length_append]; rfl
            have lp : lenP (ps ++ [Str.ofString "["]) = lenP ps + 1 := by rw [lenP_app, lenP_one, l1]
            refine ⟨x, S, most, pl, al, _, _, xs, rs, W3, W.sto T k13 hS, hok, el3, VsAt.hs hxs (W.hs T k13), hb.2, hb.1, nl, hm, by omega, by omega, by omega, fun H4 W4 k4 => hN _ _ ?_⟩
            clear hN N
            have k14 := k13.trans k4
            obtain ⟨dx4, ey4⟩ := W4.e
            have rm := wParts_room (w1 := wr S most d (ar ++ [m])) (most := most) (C := 27040 + d) (by omega) (rs := rs) (b := true) (ps := ps ++ [Str.ofString "["]) (fun r q ps' h' => wr_room hok d _ r ps' (hb.2 r q) h') (by omega)
            simp only [tSeq]
            refine cut_ fun N hN => ?_
            repeat (first | walk_at "oxs" | simp only [ey4])
            refine ⟨x, most, pl, al, _, _, W4, by decide, by decide, by omega, fun H5 W5 k5 => hN _ _ ?_⟩
            clear hN N
            have k15 := k14.trans k5
            obtain ⟨dx5, ey5⟩ := W5.e
            have hal5 := W5.a
            repeat (first | walk_at "oxs" | simp only [ey5] | simp only [hal5])
            have exs : (ar ++ [m]).map (fun n => V.int (n : Nat)) = ar.map (fun n => V.int (n : Nat)) ++ [V.int (m : Nat)] := by rw [List.map_append]; rfl
            rw [exs, List.dropLast_concat]
            refine ⟨V.int (m : Nat), by simp, ?_⟩
            obtain ⟨W6, k6⟩ := W5.setA (ar2 := ar) (xs := ar.map fun n => V.int (n : Nat)) rfl
            exact h _ W6 (k15.trans k6)
      · obtain ⟨dd, rws, rfl, ⟨dx2, e1⟩, htab, hxs⟩ := id hT
        repeat (first | walk_at "oxs" | simp only [e1])
        intro p H1 np s1 ep
        refine ⟨_, SqT.of ep, rfl, _, _, rfl, _, _, rfl, rfl, hN _ _ ?_⟩
        clear hN N
        have W1 := W.same s1
        obtain ⟨dx1, ey1⟩ := W1.e
        have hal1 := W1.a
        simp only [tSeq]
        refine cut_ fun N hN => ?_
        repeat (first | walk_at "oxs" | simp only [ey1])
        refine ⟨_, rl_l hal1, flat_ar, ?_⟩
        rw [inV_ar]
        have l1 : Str.length (Str.ofString "{") = 1 := rfl
        have l3 : Str.length (Str.ofString "...") = 3 := rfl
        have e0 : wr S most (d + 1) ar (.ob m) ps = if m ∈ ar ∨ 10 ≤ ar.length then ps ++ [(("{" : Str) ++ "..." ++ "}")] else wPairs (wr S most d (ar ++ [m])) most true rows (ps ++ [("{" : Str)]) ++ [("}" : Str)] := by
          unfold wr
          rw [if_neg (by omega)]
          simp only [et]
        have k1 : Keep [y, pl, al] H H1 := Keep.of s1
        have dots : (m ∈ ar ∨ 10 ≤ ar.length) → (Str.ofString "{").length + (Str.ofString "...").length ≤ sizeLine ∧ (Str.ofString "{" ++ Str.ofString "...").length + (Str.ofString "}").length ≤ sizeLine ∧ spPutW c [V.ref y, V.str (Str.ofString "{" ++ Str.ofString "..." ++ Str.ofString "}")] H1 (fun x H1 => Q V.non H1) E0 := fun z => by
          rw [e0, if_pos z] at h
          exact ⟨by rw [sizeLine_eq]; decide, by rw [sizeLine_eq]; decide, x, most, pl, al, ps, ar, W1, by decide, by decide, by omega, fun H2 W2 k2 => h _ W2 (k1.trans k2)⟩
        split
        · rename_i z
          exact dots (.inl (of_decide_eq_true z))
        · rename_i z
          refine ⟨_, rl_l hal1, ?_⟩
          rw [List.length_map]
          split
          · exact dots (.inr (by omega))
          · rename_i z2
            have hnot : ¬ (m ∈ ar ∨ 10 ≤ ar.length) := fun q => q.elim (fun q => z (decide_eq_true q)) fun q => z2 (by omega)
            rw [e0, if_neg hnot] at h
            have l10 : ar.length < 10 := by omega
            clear dots e0
            refine hN _ _ ?_
            clear hN N
            simp only [tSeq]
            refine cut_ fun N hN => ?_
            repeat (first | walk_at "oxs" | simp only [ey1] | simp only [hal1])
            refine ⟨by rw [List.length_map, sizeLine_eq]; omega, hN _ _ ?_⟩
            clear hN N
            obtain ⟨W2, k2⟩ := W1.setA (ar2 := ar ++ [m]) (xs := (ar.map fun n => V.int (n : Nat)) ++ [V.int (m : Nat)]) (by rw [List.map_append]; rfl)
            generalize upd H1 al (.lst ((ar.map fun n => V.int (n : Nat)) ++ [V.int (m : Nat)])) = H2 at W2 k2 ⊢
            have k12 := k1.trans k2
            obtain ⟨dx2', ey2⟩ := W2.e
            simp only [tSeq]
            refine cut_ fun N hN => ?_
            repeat (first | walk_at "oxs" | simp only [ey2])
            refine ⟨x, most, pl, al, ps, _, W2, by decide, by decide, by omega, fun H3 W3 k3 => hN _ _ ?_⟩
            clear hN N
            have k13 := k12.trans k3
            obtain ⟨dx3, ey3⟩ := W3.e
            have na : a ∉ [y, pl, al] := W.ny a (mem_add (List.mem_of_getElem? ea) (by simp [footT]))
            have nl : dd ∉ [y, pl, al] := W.ny dd (mem_add (List.mem_of_getElem? ea) (by simp [footT]))
            have e3 := k13 _ _ na e1
            have htab3 : TabR w H3 dd rws := htab.mono (fun o e => k13 _ _ nl e) (fun b xs e => W.hs T k13 _ _ e (Hard.t _))
            have lrw := Paired.length hxs
            have hb1 := hb.1
            simp only [tSeq]
            refine cut_ fun N hN => ?_
            repeat (first | walk_at "oxs" | simp only [e3] | simp only [ey3])
            have lar : (ar ++ [m]).length = ar.length + 1 := by rw [List.length_append]; rfl
            have lp : lenP (ps ++ [Str.ofString "{"]) = lenP ps + 1 := by rw [lenP_app, lenP_one, l1]
            refine ⟨dd, rws, ⟨_, e3⟩, htab3, by omega, fun q ts H4 nq s4 eq hts => ?_⟩
            have W3' := W3.same s4
            obtain ⟨dx3', ey3'⟩ := W3'.e
            have k13' := k13.trans (Keep.of s4)
            have nlq : q ∉ [y, pl, al] := fun z => by
              simp only [List.mem_cons, List.not_mem_nil, or_false] at z
              rcases z with rfl | rfl | rfl
              · rw [ey3] at nq; cases nq
              · rw [W3.p] at nq; cases nq
              · rw [W3.a] at nq; cases nq
            repeat (first | walk_at "oxs" | simp only [ey3'])
            refine ⟨x, S, most, pl, al, _, _, ts, rws, rows, W3', W.sto T k13' hS, hok, eq, hts, Paired.mapP hxs fun _ _ z => ⟨z.1.hs (W.hs T k13'), z.2.hs (W.hs T k13')⟩, hb.2, hb.1, nlq, hm, by omega, by omega, by omega, fun H4 W4 k4 => hN _ _ ?_⟩
            clear hN N
            have k14 := k13'.trans k4
            obtain ⟨dx4, ey4⟩ := W4.e
            have rm := wPairs_room (w1 := wr S most d (ar ++ [m])) (most := most) (C := 27040 + d) (by omega) (rs := rows) (b := true) (ps := ps ++ [Str.ofString "{"]) (fun r q => ⟨plain_len (hb.2 r q).1, fun ps' h' => wr_room hok d _ r.2 ps' (hb.2 r q).2.1 h'⟩) (by omega)
            simp only [tSeq]
            refine cut_ fun N hN => ?_
            repeat (first | walk_at "oxs" | simp only [ey4])
            refine ⟨x, most, pl, al, _, _, W4, by decide, by decide, by omega, fun H5 W5 k5 => hN _ _ ?_⟩
            clear hN N
            have k15 := k14.trans k5
            obtain ⟨dx5, ey5⟩ := W5.e
            have hal5 := W5.a
            repeat (first | walk_at "oxs" | simp only [ey5] | simp only [hal5])
            have exs : (ar ++ [m]).map (fun n => V.int (n : Nat)) = ar.map (fun n => V.int (n : Nat)) ++ [V.int (m : Nat)] := by rw [List.map_append]; rfl
            rw [exs, List.dropLast_concat]
            refine ⟨V.int (m : Nat), by simp, ?_⟩
            obtain ⟨W6, k6⟩ := W5.setA (ar2 := ar) (xs := ar.map fun n => V.int (n : Nat)) rfl
            exact h _ W6 (k15.trans k6)
    · cases h
theorem wr_plain {S : SV} {most d : Nat} {ar : List Nat} {r : RV} {ps : List Str} (h : ¬ most < lenP ps) (n : ∀ n, r ≠ .ob n) : wr S most (d + 1) ar r ps = ps ++ [plainR r] := by
  unfold wr
  rw [if_neg h]
  cases r <;> first | rfl | exact absurd rfl (n _)
theorem wr_head {S : SV} {most d n : Nat} {ar : List Nat} {t : Th} {ps : List Str} (h : ¬ most < lenP ps) (et : S.things[n]? = some t) (n1 : ∀ rs, t ≠ .parts rs) (n2 : ∀ rows, t ≠ .table rows) : wr S most (d + 1) ar (.ob n) ps = ps ++ [headT S t] := by
  unfold wr
  rw [if_neg h]
  simp only [et]
theorem ok_write1 {d : Nat} (A : AtM K c.Writer "write" "Writer.write" s_Writer_write ["self", "value"]) (T : Txt K mg c) (H_thing_of : Has P w K mg base CX0 "thing_of" 2 ["store", "value"] (spThing w c)) (H_plain : Has P w K mg base CX0 "plain" 2 ["value"] (spPlain c)) (H_head_of : Has P w K mg base CX0 "head_of" 2 ["store", "thing"] (spHead w c)) (M_Writer_put : HasM P w K mg base CX0 c.Writer "put" 1 ["self", "piece"] (spPutW c)) (M_Writer_write_box : HasM P w K mg base CX0 c.Writer "write_box" (3 * d + 12) ["self", "number", "thing"] (spBox w c d)) : HasM P w K mg base CX0 c.Writer "write" (3 * (d + 1) + 10) ["self", "value"] (spWrite w c (d + 1)) := by
  have Sc := sc_Writer_write
  refine hasM_of A Sc (fun vs H Q E h => ?_) (fun cdv f A outer s H vs Q E hr h => ?_)
  · unfold spWrite at h; split at h; rfl; cases h
  · unfold spWrite at h
    split at h
    · rename_i y v
      obtain ⟨x, S, most, pl, al, ps, ar, r, W, hS, hok, hv, ho, hm, hp, ha, hd, h⟩ := h
      obtain ⟨dx, ey⟩ := W.e
      refine ⟨_, (pss_cons (ps_if (pt_cmpR op_fGt (fe_fld (fe_var 0) T.pl_written rfl) (fe_fld (fe_var 0) T.pl_most rfl) (nomark _)) (pss_one ps_retN) pss_nil)
      (pss_cons (ps_set (i := 2) Sc.nd rfl (.inl rfl) (fe_call H_thing_of (hr.mono (by walk_at "rm")) (by rfl) pass0 (pa_cons (fe_fld (fe_var 0) T.pl_store rfl) (pa_cons (fe_var 1) pa_nil))))
      (pss_one (ps_if (pt_val (pe_callB (call_fIsiP T.kit) (by rfl) T.no_isinstance (by decide +kernel) (pa_cons (fe_var 2) (pa_cons (fe_tup (pa_cons (pe_glob (v := .ref c.Parts) (by rfl) T.mg_Parts rfl) (pa_cons (pe_glob (v := .ref c.Table) (by rfl) T.mg_Table rfl) pa_nil))) pa_nil)))) (pss_one (ps_expr (fe_meth M_Writer_write_box T.cl_Writer (hr.mono (by walk_at "rm")) pass0 (fe_var 0) (pa_cons (fe_fld (fe_var 1) T.pl_number rfl) (pa_cons (fe_var 2) pa_nil))))) (pss_one (ps_if (pt_cmpR op_fIsN (fe_var 2) pe_non (nomark _)) (pss_one (ps_expr (fe_meth M_Writer_put T.cl_Writer (hr.mono (by walk_at "rm")) pass0 (fe_var 0) (pa_cons (fe_call H_plain (hr.mono (by walk_at "rm")) (by rfl) pass0 (pa_cons (fe_var 1) pa_nil)) pa_nil)))) (pss_one (ps_expr (fe_meth M_Writer_put T.cl_Writer (hr.mono (by walk_at "rm")) pass0 (fe_var 0) (pa_cons (fe_call H_head_of (hr.mono (by walk_at "rm")) (by rfl) pass0 (pa_cons (fe_fld (fe_var 0) T.pl_store rfl) (pa_cons (fe_var 2) pa_nil))) pa_nil)))))))))), ?_⟩
      walk_at "fx0"
      simp only [tSeq]
      refine cut_ fun N hN => ?_
      repeat (first | walk_at "oxs" | simp only [ey])
      split
      · rename_i q
        refine h _ ?_ Keep.refl
        have e : wr S most (d + 1) ar r ps = ps := by unfold wr; rw [if_pos (by omega)]
        rw [e]
        exact W
      · rename_i q
        have q' : ¬ most < lenP ps := by omega
        refine hN _ _ ?_
        clear hN N
        simp only [tSeq]
        refine cut_ fun N hN => ?_
        repeat (first | walk_at "oxs" | simp only [ey])
        refine ⟨x, S, r, rfl, hS, hv, ho.wf, fun tv h1 h2 h3 => hN _ _ ?_⟩
        clear hN N
        by_cases hob : ∃ n, r = .ob n
        · obtain ⟨n, rfl⟩ := hob
          have hn := ho.wf n rfl
          obtain ⟨t, et⟩ : ∃ t, S.things[n]? = some t := ⟨_, List.getElem?_eq_getElem hn⟩
          obtain ⟨a, b, rfl, ea, hT⟩ := h2 n t rfl et
          obtain ⟨va, rfl, vdx, ev⟩ := id hv
          have hb := hok n t et
          cases t with
          | parts rs =>
            obtain ⟨dx2, l, xs, rfl, e1, el, hxs⟩ := id hT
            repeat (walk_at "oxs")
            intro p H2 np s2 ep
            have e1' := s2 _ _ e1
            have W2 := W.same s2
            obtain ⟨dx3, ey2⟩ := W2.e
            have ev2 := s2 _ _ ev
            repeat (first | walk_at "oxs" | simp only [ep] | simp only [e1'] | simp only [ey2] | simp only [ev2])
            exact ⟨x, S, most, pl, al, ps, ar, _, n, _, rfl, W2, hS.same s2, hok, et, ea, .inl ⟨_, rfl⟩, hm, by omega, ha, hd, fun H3 W3 k3 => h _ W3 ((Keep.of s2).trans k3)⟩
          | table rows =>
            obtain ⟨dd, rws, rfl, ⟨dx2, e1⟩, htab, hxs⟩ := id hT
            repeat (walk_at "oxs")
            intro p H2 np s2 ep
            have e1' := s2 _ _ e1
            have W2 := W.same s2
            obtain ⟨dx3, ey2⟩ := W2.e
            have ev2 := s2 _ _ ev
            repeat (first | walk_at "oxs" | simp only [ep] | simp only [e1'] | simp only [ey2] | simp only [ev2])
            exact ⟨x, S, most, pl, al, ps, ar, _, n, _, rfl, W2, hS.same s2, hok, et, ea, .inr ⟨_, rfl⟩, hm, by omega, ha, hd, fun H3 W3 k3 => h _ W3 ((Keep.of s2).trans k3)⟩
          | _ =>
            obtain ⟨dx2, fs2, e2⟩ := hT.ins
            simp only [clsT] at e2
            rw [wr_head q' et (fun _ z => (by cases z)) (fun _ z => (by cases z))] at h
            repeat (walk_at "oxs")
            intro p H2 np s2 ep
            have e2' := s2 _ _ e2
            have W2 := W.same s2
            obtain ⟨dx3, ey2⟩ := W2.e
            repeat (first | walk_at "oxs" | simp only [ep] | simp only [e2'] | simp only [ey2])
            refine ⟨x, S, n, _, _, rfl, hS.same s2, hok, et, ea, fun _ z => (by cases z), fun _ z => (by cases z), ?_⟩
            exact ⟨x, most, pl, al, ps, ar, W2, head_ne hok hb, Nat.le_trans (head_len hok hb) (by decide), by omega, fun H3 W3 k3 => h _ W3 ((Keep.of s2).trans k3)⟩
        · have hno : ∀ n, r ≠ .ob n := fun n e => hob ⟨n, e⟩
          have etv := h3 hno
          subst etv
          rw [wr_plain q' hno] at h
          repeat (walk_at "oxs")
          intro p H2 np s2 ep
          have W2 := W.same s2
          obtain ⟨dx3, ey2⟩ := W2.e
          repeat (first | walk_at "oxs" | simp only [ep] | simp only [ey2])
          refine ⟨S, r, hv.same s2, ho, hno, ?_⟩
          exact ⟨x, most, pl, al, ps, ar, W2, plain_ne, Nat.le_trans (plain_len ho) (by decide), by omega, fun H3 W3 k3 => h _ W3 ((Keep.of s2).trans k3)⟩
    · cases h
theorem ok_write0 (A : AtM K c.Writer "write" "Writer.write" s_Writer_write ["self", "value"]) : HasM P w K mg base CX0 c.Writer "write" 10 ["self", "value"] (spWrite w c 0) := by
  have Sc := sc_Writer_write
  have no : ∀ vs H Q E, ¬ spWrite w c 0 vs H Q E := fun vs H Q E h => by
    unfold spWrite at h
    split at h
    · obtain ⟨_, _, _, _, _, _, ar, _, _, _, _, _, _, _, _, ha, hd, _⟩ := h
      omega
    · exact h
  exact hasM_of A Sc (fun vs H Q E h => (no _ _ _ _ h).elim) (fun cdv f A outer s H vs Q E hr h => (no _ _ _ _ h).elim)
theorem ok_writeAll (A : AtM K c.Writer "write" "Writer.write" s_Writer_write ["self", "value"]) (T : Txt K mg c) (A_box : AtM K c.Writer "write_box" "Writer.write_box" s_Writer_write_box ["self", "number", "thing"]) (A_parts : AtM K c.Writer "write_parts" "Writer.write_parts" s_Writer_write_parts ["self", "held"]) (A_pairs : AtM K c.Writer "write_pairs" "Writer.write_pairs" s_Writer_write_pairs ["self", "pairs"]) (H_thing_of : Has P w K mg base CX0 "thing_of" 2 ["store", "value"] (spThing w c)) (H_plain : Has P w K mg base CX0 "plain" 2 ["value"] (spPlain c)) (H_head_of : Has P w K mg base CX0 "head_of" 2 ["store", "thing"] (spHead w c)) (M_Table_pairs : HasM P w K mg base CX0 c.Table "pairs" 1 ["self"] (spPairs w c)) (M_Writer_put : HasM P w K mg base CX0 c.Writer "put" 1 ["self", "piece"] (spPutW c)) : HasM P w K mg base CX0 c.Writer "write" 43 ["self", "value"] (spWrite w c 11) := by
  have all : ∀ d, HasM P w K mg base CX0 c.Writer "write" (3 * d + 10) ["self", "value"] (spWrite w c d) := fun d => by
    induction d with
    | zero => exact ok_write0 A
    | succ d ih =>
      exact ok_write1 A T H_thing_of H_plain H_head_of M_Writer_put (ok_boxW A_box T M_Table_pairs M_Writer_put (ok_partsW A_parts T M_Writer_put ih) (ok_pairsW A_pairs T H_plain M_Writer_put ih))
  exact all 11
def S_ (l : List Nat) : Str := ⟨l.toArray⟩
/-- the written form -/
def fullW (S : SV) (most : Nat) (r : RV) : Str := Txt.join "" (wr S most 11 [] r [])
def formW (S : SV) (most : Nat) (r : RV) : Str := cutS (fullW S most r) none (some ((most : Nat) + 1))
def spWV (w : World) (c : Cs) : Sp := fun vs H Q _ => match vs with
  | [.ref y, v, .int n] => ∃ x S r most, y = x.y ∧ n = (most : Nat) ∧ Sto w c H x S ∧ OkS S ∧ IsVal c H v r ∧ OkR S r ∧ most ≤ 1000 ∧ ∀ H', Same H H' → Q (.str (formW S most r)) H'
  | _ => False
theorem ok_wv (A : At K mg "write_value" "write_value" s_write_value ["store", "value", "most"]) (T : Txt K mg c) (M_Writer : HasC P w K mg base CX0 c.Writer "Writer" 1 ["self", "store", "most"] (spMk_Writer K c)) (M_Writer_write : HasM P w K mg base CX0 c.Writer "write" 43 ["self", "value"] (spWrite w c 11)) : Has P w K mg base CX0 "write_value" 44 ["store", "value", "most"] (spWV w c) := by
  have Sc := sc_write_value
  refine has_of A Sc (fun vs H Q E h => ?_) (fun cdv f A outer s H vs Q E hr h => ?_)
  · unfold spWV at h; split at h; rfl; cases h
  · unfold spWV at h
    split at h
    · rename_i y v n
      obtain ⟨x, S, r, most, rfl, rfl, hS, hok, hv, ho, hm, h⟩ := h
      refine ⟨_, (pss_cons (ps_set (i := 3) Sc.nd rfl (.inl rfl) (fe_make (k := _) M_Writer (hr.mono (by walk_at "rm")) (by rfl) pass0 (pa_cons (fe_var 0) (pa_cons (fe_var 2) pa_nil))))
      (pss_cons (ps_expr (fe_meth M_Writer_write T.cl_Writer (hr.mono (by walk_at "rm")) pass0 (fe_var 3) (pa_cons (fe_var 1) pa_nil)))
      (pss_one (ps_ret (pe_slice sl_fx (fe_bm PySem.F.plainAttrs_str PySem.F.slot_str_join PySem.F.type_str_join isStr_ty mt_fJoin pe_str (pa_cons (fe_fld (fe_var 3) T.pl_pieces rfl) pa_nil)) po_none (po_some (pe_op op_fAdd (fe_var 2) pe_int))))))), ?_⟩
      walk_at "fx0"
      simp only [tSeq]
      refine cut_ fun N hN => ?_
      repeat (walk_at "oxs")
      unfold spMk_Writer
      intro wy wdx pl al H1 nwy s1 e1 npl epl nal eal d1 d2 d3
      refine hN _ _ ?_
      clear hN N
      have W : WAt c H1 wy x most pl al [] [] := ⟨⟨wdx, e1⟩, epl, eal, Ne.symm d3, fun q hq m => (by
        obtain ⟨o, eo⟩ := hS.live q hq
        simp only [List.mem_cons, List.not_mem_nil, or_false] at m
        rcases m with rfl | rfl | rfl
        · rw [nwy] at eo; cases eo
        · rw [npl] at eo; cases eo
        · rw [nal] at eo; cases eo), fun z m => by cases m⟩
      · simp only [tSeq]
        refine cut_ fun N hN => ?_
        repeat (first | walk_at "oxs" | simp only [e1])
        refine ⟨x, S, most, pl, al, [], [], r, W, hS.same s1, hok, hv.same s1, ho, hm, Nat.zero_le _, Nat.zero_le _, rfl, fun H2 W2 k2 => hN _ _ ?_⟩
        clear hN N
        obtain ⟨dx2, e2⟩ := W2.e
        repeat (first | walk_at "oxs" | simp only [e2])
        have hroom := wr_room hok 11 [] r [] (most := most) ho (Nat.zero_le _)
        have s2 : Same H H2 := (((((Keep.of s1).trans k2).drop nwy).drop npl).drop nal).same
        have hroom2 : ((wr S most 11 [] r []).map (fun z => Str.length z)).sum ≤ most + (27040 + 11) := hroom
        have hj : (Txt.join (Str.ofString "") (wr S most 11 [] r [])).length ≤ most + (27040 + 11) := by
          have := PySem.StrLaws.join_length_le (Str.ofString "") (wr S most 11 [] r [])
          have l0 : Str.length (Str.ofString "") = 0 := rfl
          rw [l0, Nat.mul_zero, ← TL.join_eq] at this
          exact Nat.le_trans this hroom2
        refine ⟨_, rl_l W2.p, ?_, by rw [sizeLine_eq]; omega, h _ s2⟩
        rw [show Str.length (Str.ofString "") = 0 from rfl, Nat.mul_zero]
        exact Nat.le_trans hroom2 (by omega)
    · cases h
theorem cut_takeN (z : Str) (k : Nat) : cutS z none (some (k : Int)) = S_ (z.cps.toList.take k) := by
  unfold cutS
  have e : HT.sIx z.length z.length (some (k : Int)) = min k z.length := HT.sIx_nat _ _ _
  rw [HT.sIx_none, e, Nat.sub_zero, List.drop_zero]
  have e2 : z.cps.toList.take (min k z.length) = z.cps.toList.take k := by
    by_cases h : k ≤ z.length
    · rw [Nat.min_eq_left h]
    · rw [Nat.min_eq_right (by omega), List.take_of_length_le (by rw [Array.length_toList]; exact Nat.le_refl _), List.take_of_length_le (by rw [Array.length_toList]; exact Nat.le_of_lt (by simpa [Str.length] using h))]
  rw [e2]
  rfl
theorem cut_lenN (z : Str) (k : Nat) : (cutS z none (some (k : Int))).length ≤ k := by
  rw [cut_takeN]
  show ((z.cps.toList.take k).toArray).size ≤ k
  rw [List.size_toArray, List.length_take]
  omega
def textW (S : SV) (most : Nat) : RV → Str
  | .txt z => z
  | r => formW S most r
def spTextOf (w : World) (c : Cs) : Sp := fun vs H Q _ => match vs with
  | [.ref y, v, .int n] => ∃ x S r most, y = x.y ∧ n = (most : Nat) ∧ Sto w c H x S ∧ OkS S ∧ IsVal c H v r ∧ OkR S r ∧ most ≤ 1000 ∧ ∀ H', Same H H' → Q (.str (textW S most r)) H'
  | _ => False
theorem ok_textof (A : At K mg "text_of" "text_of" s_text_of ["store", "value", "most"]) (T : Txt K mg c) (H_write_value : Has P w K mg base CX0 "write_value" 44 ["store", "value", "most"] (spWV w c)) : Has P w K mg base CX0 "text_of" 45 ["store", "value", "most"] (spTextOf w c) := by
  have Sc := sc_text_of
  refine has_of A Sc (fun vs H Q E h => ?_) (fun cdv f A outer s H vs Q E hr h => ?_)
  · unfold spTextOf at h; split at h; rfl; cases h
  · unfold spTextOf at h
    split at h
    · rename_i y v n
      obtain ⟨x, S, r, most, rfl, rfl, hS, hok, hv, ho, hm, h⟩ := h
      refine ⟨_, (pss_cons (ps_if (pt_val (pe_callB (call_fIsiA T.kit) (by rfl) T.no_isinstance (by decide +kernel) (pa_cons (fe_var 1) (pa_cons (fe_ty (n := "str") (by rfl) T.no_str (by decide +kernel)) pa_nil)))) (pss_one (ps_ret (fe_var 1))) pss_nil)
      (pss_one (ps_ret (fe_call H_write_value (hr.mono (by walk_at "rm")) (by rfl) pass0 (pa_cons (fe_var 0) (pa_cons (fe_var 1) (pa_cons (fe_var 2) pa_nil))))))), ?_⟩
      walk_at "fx0"
      cases r with
      | nul => cases hv; repeat (walk_at "oxs"); exact ⟨x, S, .nul, most, rfl, rfl, hS, hok, rfl, ho, hm, h⟩
      | boo b => cases hv; repeat (walk_at "oxs"); exact ⟨x, S, .boo b, most, rfl, rfl, hS, hok, rfl, ho, hm, h⟩
      | num n => cases hv; repeat (walk_at "oxs"); exact ⟨x, S, .num n, most, rfl, rfl, hS, hok, rfl, ho, hm, h⟩
      | txt z => cases hv; repeat (walk_at "oxs"); exact h H (Same.refl _)
      | bt z =>
        obtain ⟨a, rfl, dx, e1⟩ := id hv
        repeat (first | walk_at "oxs" | simp only [e1])
        exact ⟨x, S, .bt z, most, rfl, rfl, hS, hok, hv, ho, hm, h⟩
      | ob n =>
        obtain ⟨a, rfl, dx, e1⟩ := id hv
        repeat (first | walk_at "oxs" | simp only [e1])
        exact ⟨x, S, .ob n, most, rfl, rfl, hS, hok, hv, ho, hm, h⟩
    · cases h
def shownW (S : SV) (r : RV) : Str := if 100 < (formW S 100 r).length then cutS (formW S 100 r) none (some 100) ++ "..." else formW S 100 r
def spShow (w : World) (c : Cs) : Sp := fun vs H Q _ => match vs with
  | [.ref y, v] => ∃ x S r, y = x.y ∧ Sto w c H x S ∧ OkS S ∧ IsVal c H v r ∧ OkR S r ∧ ∀ H', Same H H' → Q (.str (shownW S r)) H'
  | _ => False
theorem ok_show (A : At K mg "show" "show" s_show ["store", "value"]) (T : Txt K mg c) (H_write_value : Has P w K mg base CX0 "write_value" 44 ["store", "value", "most"] (spWV w c)) : Has P w K mg base CX0 "show" 45 ["store", "value"] (spShow w c) := by
  have Sc := sc_show
  refine has_of A Sc (fun vs H Q E h => ?_) (fun cdv f A outer s H vs Q E hr h => ?_)
  · unfold spShow at h; split at h; rfl; cases h
  · unfold spShow at h
    split at h
    · rename_i y v
      obtain ⟨x, S, r, rfl, hS, hok, hv, ho, h⟩ := h
      refine ⟨_, (pss_cons (ps_set (i := 2) Sc.nd rfl (.inl rfl) (fe_call H_write_value (hr.mono (by walk_at "rm")) (by rfl) pass0 (pa_cons (fe_var 0) (pa_cons (fe_var 1) (pa_cons (fe_gint (by rfl) T.g_MOST_SHOWN) pa_nil)))))
      (pss_cons (ps_if (pt_cmpR op_fGt (pe_callB call_fLen (by rfl) T.no_len (by decide +kernel) (pa_cons (fe_var 2) pa_nil)) (fe_gint (by rfl) T.g_MOST_SHOWN) (nomark _)) (pss_one (ps_ret (pe_op op_fAdd (pe_slice sl_fx (fe_var 2) po_none (po_some (fe_gint (by rfl) T.g_MOST_SHOWN))) pe_str))) pss_nil)
      (pss_one (ps_ret (fe_var 2))))), ?_⟩
      walk_at "fx0"
      simp only [tSeq]
      refine cut_ fun N hN => ?_
      repeat (walk_at "oxs")
      refine ⟨x, S, r, 100, rfl, rfl, hS, hok, hv, ho, by decide, fun H1 s1 => hN _ _ ?_⟩
      clear hN N
      have hl : (formW S 100 r).length ≤ 101 := cut_lenN _ 101
      have hl2 := cut_lenN (formW S 100 r) 100
      have l3 : Str.length (Str.ofString "...") = 3 := rfl
      have h1 := h H1 s1
      unfold shownW at h1
      repeat (walk_at "oxs")
      rw [sizeLine_eq]
      refine ⟨by omega, ?_⟩
      by_cases z : 100 < (formW S 100 r).length
      · rw [if_pos z] at h1
        rw [if_pos (by omega)]
        exact ⟨by omega, by rw [l3]; exact Nat.le_trans (Nat.add_le_add_right hl2 3) (by decide), h1⟩
      · rw [if_neg z] at h1
        rw [if_neg (by omega)]
        exact h1
    · cases h
end

section
variable {P : Program} {w : World} {K : PySem.W.Frag} {mg : Str → Option Value} {base : Heap} {c : Cs}
/-! ### written forms: the plain law -/
def Ag (n : Nat) (a b : List Nat) : Prop := a.take n = b.take n
theorem Ag.refl {n : Nat} (a : List Nat) : Ag n a a := rfl
theorem Ag.trans {n : Nat} {a b e : List Nat} (h : Ag n a b) (g : Ag n b e) : Ag n a e := Eq.trans h g
theorem Ag.symm {n : Nat} {a b : List Nat} (h : Ag n a b) : Ag n b a := Eq.symm h
theorem Ag.le {n m : Nat} {a b : List Nat} (h : Ag n a b) (l : m ≤ n) : Ag m a b := by
  have e : ∀ x : List Nat, x.take m = (x.take n).take m := fun x => by rw [List.take_take, Nat.min_eq_left l]
  unfold Ag
  rw [e a, e b, h]
theorem Ag.len {n : Nat} {a b : List Nat} (h : Ag n a b) : min n a.length = min n b.length := by
  have := congrArg List.length h
  rwa [List.length_take, List.length_take] at this
theorem Ag.eq {n : Nat} {a b : List Nat} (h : Ag n a b) (l : a.length < n) : a = b := by
  have h1 := h.len
  have h2 : a.take n = b.take n := h
  rwa [List.take_of_length_le (by omega), List.take_of_length_le (by omega)] at h2
theorem Ag.step {n : Nat} {a b s t : List Nat} (h : Ag n a b) (g : Ag (n - a.length) s t) : Ag n (a ++ s) (b ++ t) := by
  by_cases l : a.length < n
  · rw [h.eq l] at g ⊢
    unfold Ag
    rw [List.take_append, List.take_append, g]
  · have h1 := h.len
    unfold Ag
    rw [List.take_append_of_le_length (by omega), List.take_append_of_le_length (by omega)]
    exact h
theorem Ag.app {n : Nat} {a b : List Nat} (h : Ag n a b) (t : List Nat) : Ag n (a ++ t) (b ++ t) := h.step (Ag.refl t)
theorem Ag.long {n : Nat} {a t : List Nat} (l : n ≤ a.length) : Ag n a (a ++ t) := by
  unfold Ag
  rw [List.take_append_of_le_length l]
theorem L_app (a b : Str) : L (a ++ b) = L a ++ L b := by
  show (a ++ b).cps.toList = a.cps.toList ++ b.cps.toList
  rw [← Array.toList_append]; rfl
theorem L_len (a : Str) : (L a).length = a.length := Array.length_toList
def ftParts (f : RV → List Nat) : Bool → List RV → List Nat
  | _, [] => []
  | b, r :: rs => (if b = true then [] else L ", ") ++ (f r ++ ftParts f false rs)
def ftPairs (f : RV → List Nat) : Bool → List (RV × RV) → List Nat
  | _, [] => []
  | b, r :: rs => (if b = true then [] else L ", ") ++ (L (plainR r.1 ++ (": " : Str)) ++ (f r.2 ++ ftPairs f false rs))
theorem ftParts_cons {f : RV → List Nat} {b : Bool} {r : RV} {rs : List RV} : ftParts f b (r :: rs) = (if b = true then [] else L ", ") ++ (f r ++ ftParts f false rs) := rfl
theorem ftPairs_cons {f : RV → List Nat} {b : Bool} {r : RV × RV} {rs : List (RV × RV)} : ftPairs f b (r :: rs) = (if b = true then [] else L ", ") ++ (L (plainR r.1 ++ (": " : Str)) ++ (f r.2 ++ ftPairs f false rs)) := rfl
/-- the whole written form -/
def ft (S : SV) : Nat → List Nat → RV → List Nat
  | 0, _, _ => []
  | d + 1, ar, v => match v with
    | .ob n => match S.things[n]? with
      | some (.parts rs) => if n ∈ ar ∨ 10 ≤ ar.length then L (("[" : Str) ++ "..." ++ "]") else L "[" ++ ftParts (ft S d (ar ++ [n])) true rs ++ L "]"
      | some (.table rows) => if n ∈ ar ∨ 10 ≤ ar.length then L (("{" : Str) ++ "..." ++ "}") else L "{" ++ ftPairs (ft S d (ar ++ [n])) true rows ++ L "}"
      | some t => L (headT S t)
      | none => []
    | v => L (plainR v)
def J (ps : List Str) : List Nat := ps.flatMap L
theorem J_app {a b : List Str} : J (a ++ b) = J a ++ J b := List.flatMap_append
theorem J_one {z : Str} : J [z] = L z := by simp [J]
theorem J_len {ps : List Str} : (J ps).length = lenP ps := by
  induction ps with
  | nil => rfl
  | cons z ps ih =>
    have e1 : J (z :: ps) = L z ++ J ps := rfl
    have e2 : lenP (z :: ps) = z.length + lenP ps := by simp [lenP]
    rw [e1, e2, List.length_append, ih, L_len]
theorem wParts_ag {w1 : RV → List Str → List Str} {f : RV → List Nat} {m : Nat} (hw : ∀ r ps, Ag (m + 1) (J (w1 r ps)) (J ps ++ f r)) : ∀ (rs : List RV) (b : Bool) (ps : List Str), Ag (m + 1) (J (wParts w1 m b rs ps)) (J ps ++ ftParts f b rs)
  | [], _, ps => by simp only [wParts, ftParts, List.append_nil]; exact Ag.refl _
  | r :: rs, b, ps => by
    rw [wParts_cons]
    split
    · exact Ag.long (by rw [J_len]; omega)
    · refine (wParts_ag hw rs false _).trans (((hw r _).app _).trans ?_)
      have e : J (if b = true then ps else ps ++ [(", " : Str)]) = J ps ++ (if b = true then [] else L ", ") := by
        cases b
        · simp only [Bool.false_eq_true, if_false, J_app, J_one]
        · simp only [if_true, List.append_nil]
      rw [e, ftParts_cons, List.append_assoc, List.append_assoc]
      exact Ag.refl _
theorem wPairs_ag {w1 : RV → List Str → List Str} {f : RV → List Nat} {m : Nat} (hw : ∀ r ps, Ag (m + 1) (J (w1 r ps)) (J ps ++ f r)) : ∀ (rs : List (RV × RV)) (b : Bool) (ps : List Str), Ag (m + 1) (J (wPairs w1 m b rs ps)) (J ps ++ ftPairs f b rs)
  | [], _, ps => by simp only [wPairs, ftPairs, List.append_nil]; exact Ag.refl _
  | r :: rs, b, ps => by
    rw [wPairs_cons]
    split
    · exact Ag.long (by rw [J_len]; omega)
    · refine (wPairs_ag hw rs false _).trans (((hw r.2 _).app _).trans ?_)
      have e : J ((if b = true then ps else ps ++ [(", " : Str)]) ++ [plainR r.1 ++ (": " : Str)]) = J ps ++ ((if b = true then [] else L ", ") ++ L (plainR r.1 ++ (": " : Str))) := by
        cases b
        · simp only [Bool.false_eq_true, if_false, J_app, J_one, List.append_assoc]
        · simp only [if_true, List.nil_append, J_app, J_one]
      rw [e, ftPairs_cons]
      simp only [List.append_assoc]
      exact Ag.refl _
theorem wr_ag {S : SV} {m : Nat} : ∀ (d : Nat) (ar : List Nat) (r : RV) (ps : List Str), Ag (m + 1) (J (wr S m d ar r ps)) (J ps ++ ft S d ar r)
  | 0, _, _, ps => by simp only [wr, ft, List.append_nil]; exact Ag.refl _
  | d + 1, ar, r, ps => by
    unfold wr ft
    split
    · exact Ag.long (by rw [J_len]; omega)
    · split
      · rename_i n
        split
        · split
          · rw [J_app, J_one]; exact Ag.refl _
          · rename_i rs e z
            rw [J_app, J_one]
            refine ((wParts_ag (f := ft S d (ar ++ [n])) (fun r ps => wr_ag d (ar ++ [n]) r ps) rs true (ps ++ [("[" : Str)])).app _).trans ?_
            rw [J_app, J_one]
            simp only [List.append_assoc]
            exact Ag.refl _
        · split
          · rw [J_app, J_one]; exact Ag.refl _
          · rename_i rs e z
            rw [J_app, J_one]
            refine ((wPairs_ag (f := ft S d (ar ++ [n])) (fun r ps => wr_ag d (ar ++ [n]) r ps) rs true (ps ++ [("{" : Str)])).app _).trans ?_
            rw [J_app, J_one]
            simp only [List.append_assoc]
            exact Ag.refl _
        · rw [J_app, J_one]; exact Ag.refl _
        · rw [List.append_nil]; exact Ag.refl _
      · rw [J_app, J_one]; exact Ag.refl _
/-! the law's own form -/
def lfParts (f : Int → RV → Str) (room : Int) : Bool → List RV → Str → Str
  | _, [], told => told
  | b, r :: rs, told => lfParts f room false rs ((if b = true then told else told ++ (", " : Str)) ++ f (room - ((if b = true then told else told ++ (", " : Str)).length : Nat)) r)
def lfPairs (f : Int → RV → Str) (room : Int) : Bool → List (RV × RV) → Str → Str
  | _, [], told => told
  | b, r :: rs, told => lfPairs f room false rs (((if b = true then told else told ++ (", " : Str)) ++ plainR r.1 ++ (": " : Str)) ++ f (room - (((if b = true then told else told ++ (", " : Str)) ++ plainR r.1 ++ (": " : Str)).length : Nat)) r.2)
def lf (S : SV) : Nat → List Nat → Int → RV → Str
  | 0, _, _, _ => ""
  | d + 1, ar, room, v => if room < 0 then "" else match v with
    | .ob n => match S.things[n]? with
      | some (.parts rs) => if n ∈ ar ∨ 10 ≤ ar.length then ("[" : Str) ++ "..." ++ "]" else lfParts (lf S d (ar ++ [n])) room true rs "[" ++ "]"
      | some (.table rows) => if n ∈ ar ∨ 10 ≤ ar.length then ("{" : Str) ++ "..." ++ "}" else lfPairs (lf S d (ar ++ [n])) room true rows "{" ++ "}"
      | some t => headT S t
      | none => ""
    | v => plainR v
theorem lfParts_ag {f : Int → RV → Str} {g : RV → List Nat} {room : Int} (hf : ∀ m r, Ag (m + 1).toNat (L (f m r)) (g r)) : ∀ (rs : List RV) (b : Bool) (told : Str) (full : List Nat), Ag (room + 1).toNat (L told) full → Ag (room + 1).toNat (L (lfParts f room b rs told)) (full ++ ftParts g b rs)
  | [], _, told, full, h => by simp only [lfParts, ftParts, List.append_nil]; exact h
  | r :: rs, b, told, full, h => by
    unfold lfParts ftParts
    have h1 : Ag (room + 1).toNat (L (if b = true then told else told ++ (", " : Str))) (full ++ if b = true then [] else L ", ") := by
      cases b
      · simp only [Bool.false_eq_true, if_false, L_app]; exact h.app _
      · simp only [if_true, List.append_nil]; exact h
    generalize (if b = true then told else told ++ (", " : Str)) = t1 at h1 ⊢
    rw [← List.append_assoc, ← List.append_assoc]
    refine lfParts_ag hf rs false _ _ ?_
    rw [L_app]
    refine h1.step ?_
    rw [L_len]
    exact (hf (room - (t1.length : Nat)) r).le (by omega)
theorem lfPairs_ag {f : Int → RV → Str} {g : RV → List Nat} {room : Int} (hf : ∀ m r, Ag (m + 1).toNat (L (f m r)) (g r)) : ∀ (rs : List (RV × RV)) (b : Bool) (told : Str) (full : List Nat), Ag (room + 1).toNat (L told) full → Ag (room + 1).toNat (L (lfPairs f room b rs told)) (full ++ ftPairs g b rs)
  | [], _, told, full, h => by simp only [lfPairs, ftPairs, List.append_nil]; exact h
  | r :: rs, b, told, full, h => by
    unfold lfPairs ftPairs
    have h1 : Ag (room + 1).toNat (L (if b = true then told else told ++ (", " : Str))) (full ++ if b = true then [] else L ", ") := by
      cases b
      · simp only [Bool.false_eq_true, if_false, L_app]; exact h.app _
      · simp only [if_true, List.append_nil]; exact h
    have h2 : Ag (room + 1).toNat (L ((if b = true then told else told ++ (", " : Str)) ++ plainR r.1 ++ (": " : Str))) ((full ++ if b = true then [] else L ", ") ++ L (plainR r.1 ++ (": " : Str))) := by
      rw [L_app, L_app, L_app, List.append_assoc]
      exact h1.app _
    generalize ((if b = true then told else told ++ (", " : Str)) ++ plainR r.1 ++ (": " : Str)) = t1 at h2 ⊢
    rw [← List.append_assoc, ← List.append_assoc, ← List.append_assoc]
    refine lfPairs_ag hf rs false _ _ ?_
    rw [L_app]
    refine h2.step ?_
    rw [L_len]
    exact (hf (room - (t1.length : Nat)) r.2).le (by omega)
theorem lf_ag {S : SV} : ∀ (d : Nat) (ar : List Nat) (room : Int) (r : RV), Ag (room + 1).toNat (L (lf S d ar room r)) (ft S d ar r)
  | 0, _, _, _ => Ag.refl _
  | d + 1, ar, room, r => by
    unfold lf ft
    split
    · rename_i z
      rw [show (room + 1).toNat = 0 by omega]
      rfl
    · split
      · rename_i n
        split
        · split
          · exact Ag.refl _
          · rename_i rs e z
            rw [L_app]
            exact (lfParts_ag (fun m r => lf_ag d (ar ++ [n]) m r) rs true "[" (L "[") (Ag.refl _)).app _
        · split
          · exact Ag.refl _
          · rename_i rs e z
            rw [L_app]
            exact (lfPairs_ag (fun m r => lf_ag d (ar ++ [n]) m r) rs true "{" (L "{") (Ag.refl _)).app _
        · exact Ag.refl _
        · exact Ag.refl _
      · exact Ag.refl _
/-! what the law asks -/
def dueW (S : SV) (r : RV) : Str := lf S 11 [] 500 r
theorem L_inj {a b : Str} (h : L a = L b) : a = b := by
  obtain ⟨a⟩ := a
  obtain ⟨b⟩ := b
  have h' : a.toList = b.toList := h
  rw [Array.toList_inj.mp h']
theorem L_cut (z : Str) (k : Nat) : L (cutS z none (some (k : Int))) = (L z).take k := by
  rw [cut_takeN]
  rfl
theorem L_join (ps : List Str) : L (Txt.join "" ps) = J ps := by
  rw [TL.join_eq]
  induction ps with
  | nil => rfl
  | cons z ps ih =>
    have e1 : J (z :: ps) = L z ++ J ps := rfl
    cases ps with
    | nil => rw [e1]; simp [PySem.Str.join, J]
    | cons y ps =>
      have e2 : (("" : Str).join (z :: y :: ps)) = z ++ "" ++ ("" : Str).join (y :: ps) := rfl
      rw [e1, e2, L_app, L_app, ih, show L (Str.ofString "") = [] from rfl, List.append_nil]
theorem due_ag (S : SV) (r : RV) : Ag 501 (L (dueW S r)) (ft S 11 [] r) := lf_ag 11 [] 500 r
theorem form_due {S : SV} {r : RV} {most : Nat} (h : most ≤ 500) : formW S most r = cutS (dueW S r) none (some ((most : Nat) + 1)) := by
  refine L_inj ?_
  have e : ((most : Nat) : Int) + 1 = ((most + 1 : Nat) : Int) := rfl
  unfold formW fullW
  rw [e, L_cut, L_cut, L_join]
  have h1 := wr_ag (S := S) (m := most) 11 [] r []
  have h2 := (due_ag S r).le (m := most + 1) (by omega)
  exact h1.trans h2.symm
theorem show_due {S : SV} {r : RV} : shownW S r = if 100 < (dueW S r).length then cutS (dueW S r) none (some 100) ++ "..." else dueW S r := by
  have e : formW S 100 r = cutS (dueW S r) none (some ((101 : Nat) : Int)) := form_due (by decide)
  have el : (formW S 100 r).length = min 101 (dueW S r).length := by
    rw [e, ← L_len, L_cut, List.length_take, L_len]
  unfold shownW
  by_cases h : 100 < (dueW S r).length
  · rw [if_pos h, if_pos (by omega)]
    congr 1
    refine L_inj ?_
    have e1 : ((100 : Int)) = ((100 : Nat) : Int) := rfl
    rw [e1, L_cut, L_cut, e, L_cut, List.take_take, Nat.min_eq_left (by decide)]
  · rw [if_neg h, if_neg (by omega)]
    refine L_inj ?_
    rw [e, L_cut, List.take_of_length_le (by rw [L_len]; omega)]
end

section
variable {P : Program} {w : World} {K : PySem.W.Frag} {mg : Str → Option Value} {base : Heap} {c : Cs}
/-! ### written forms: the law's own functions -/
theorem repl1_list {a : Nat} {z : List Nat} : ∀ (l : List Nat), StrLaws.replL [a] z l = l.flatMap fun d => if d = a then z else [d]
  | [] => StrLaws.replL_nil
  | d :: l => by
    rw [List.flatMap_cons]
    by_cases h : d = a
    · rw [StrLaws.replL_hit (by simp) (by simp [h]), if_pos h]
      exact congrArg (z ++ ·) (repl1_list l)
    · rw [StrLaws.replL_miss (by simp [h]), if_neg h, repl1_list l]
      rfl
theorem repl1 {a : Nat} {x y z : Str} (hy : L y = [a]) : L (Txt.replace x y z) = (L x).flatMap fun d => if d = a then L z else [d] := by
  have h1 : 1 ≤ y.length := by rw [← L_len, hy]; exact Nat.le_refl _
  have h2 := StrLaws.replace_list (x := x) (z := z) h1
  have e : y.cps.toList = [a] := hy
  rw [e] at h2
  exact h2.trans (repl1_list _)
def qc (d : Nat) : List Nat := if d = 10 then [92, 110] else if d = 34 ∨ d = 92 then [92, d] else [d]
theorem quoted_codes (z : Str) : L (quotedS z) = 34 :: ((L z).flatMap qc ++ [34]) := by
  unfold quotedS
  rw [L_app, L_app, repl1 (a := 10) (y := "\n") rfl, repl1 (a := 34) (y := "\"") rfl, repl1 (a := 92) (y := "\\") rfl, List.flatMap_assoc, List.flatMap_assoc]
  have e : ∀ d : Nat, ((if d = 92 then L "\\\\" else [d]).flatMap fun x => (if x = 34 then L "\\\"" else [x]).flatMap fun y => if y = 10 then L "\\n" else [y]) = qc d := fun d => by
    unfold qc
    by_cases h1 : d = 92
    · subst h1; decide
    · by_cases h2 : d = 34
      · subst h2; decide
      · by_cases h3 : d = 10
        · subst h3; decide
        · simp [h1, h2, h3]
  simp only [e]
  rfl
theorem one_eq {d : Nat} : ((⟨#[d]⟩ : Str) = Str.ofString "\n") ↔ d = 10 := by
  constructor
  · intro h
    have := congrArg L h
    have e : [d] = [10] := this
    simpa using e
  · rintro rfl; rfl
theorem in_two {d : Nat} : inV (.str ⟨#[d]⟩) [.str (Str.ofString "\""), .str (Str.ofString "\\")] = decide (d = 34 ∨ d = 92) := by
  have e : ∀ a : Nat, eqV (.str (S [a])) (.str ⟨#[d]⟩) = decide (d = a) := fun a => by
    simp only [eqV]
    by_cases h : d = a
    · subst h; simp [S]
    · have h' : ¬ S [a] = (⟨#[d]⟩ : Str) := fun q => h (by have := congrArg L q; have e : [a] = [d] := this; simpa using e.symm)
      simp [h, h']
  show (eqV (.str (S [34])) (.str ⟨#[d]⟩) || (eqV (.str (S [92])) (.str ⟨#[d]⟩) || false)) = _
  rw [e, e, Bool.or_false, ← Bool.decide_or]
def spLQuoted : Sp := fun vs H Q _ => match vs with
  | [.str z] => z.length ≤ 1000 ∧ ∀ H', Same H H' → Q (.str (quotedS z)) H'
  | _ => False
theorem ok_lquoted (A : At K mg "_law_quoted" "_law_quoted" s_law_quoted ["text"]) (T : Txt K mg c) : Has P w K mg base CX0 "_law_quoted" 1 ["text"] spLQuoted := by
  have Sc := sc_law_quoted
  refine has_of A Sc (fun vs H Q E h => ?_) (fun cdv f A outer s H vs Q E hr h => ?_)
  · unfold spLQuoted at h; split at h; rfl; cases h
  · unfold spLQuoted at h
    split at h
    · rename_i z
      obtain ⟨hz, h⟩ := h
      refine ⟨_, (pss_cons (ps_set (i := 1) Sc.nd rfl (.inl rfl) pe_str)
      (pss_cons (ps_for PassesOwn.never rfl (pi_range1 (by rfl) T.no_range (pa_cons (pe_callB call_fLen (by rfl) T.no_len (by decide +kernel) (pa_cons (fe_var 0) pa_nil)) pa_nil)) (pg_name (i := 2) Sc.nd rfl (.inl rfl)) (pss_cons (ps_set (i := 3) Sc.nd rfl (.inl rfl) (pe_ix ix_fx (fe_var 0) (fe_var 2) (fun _ _ => rfl)))
      (pss_one (ps_if (pt_cmpR (op_fEq hr.units) (fe_var 3) pe_str (nomark _)) (pss_one (ps_set (i := 1) Sc.nd rfl (.inl rfl) (pe_op op_fAdd (fe_var 1) pe_str))) (pss_one (ps_if (pt_cmpR op_fIn (fe_var 3) (fe_tup (pa_cons pe_str (pa_cons pe_str pa_nil))) (by with_unfolding_all rfl)) (pss_one (ps_set (i := 1) Sc.nd rfl (.inl rfl) (pe_op op_fAdd (pe_op op_fAdd (fe_var 1) pe_str) (fe_var 3)))) (pss_one (ps_set (i := 1) Sc.nd rfl (.inl rfl) (pe_op op_fAdd (fe_var 1) (fe_var 3))))))))))
      (pss_one (ps_ret (pe_op op_fAdd (fe_var 1) pe_str))))), ?_⟩
      walk_at "fx0"
      repeat (walk_at "oxs")
      have lz : (L z).length = z.length := L_len z
      have ql : ∀ l : List Nat, (l.flatMap qc).length ≤ 2 * l.length := fun l => by
        induction l with
        | nil => exact Nat.le_refl _
        | cons d l ih =>
          rw [List.flatMap_cons, List.length_append, List.length_cons]
          have : (qc d).length ≤ 2 := by unfold qc; split; exact Nat.le_refl _; split; exact Nat.le_refl _; exact (by decide : 1 ≤ 2)
          omega
      refine for_ ?_
      walk_at "ox"
      refine ⟨by rw [sizeLine_eq]; omega, by omega, by omega, ?_⟩
      refine loop_range (fun i σ H' => Same H H' ∧ ∃ v2 v3, σ = [some (.str z), some (.str (S (34 :: ((L z).take i).flatMap qc))), v2, v3]) ⟨Same.refl _, none, none, rfl⟩ ?_ ?_
      · rintro i σ H' hi ⟨s1, v2, v3, rfl⟩
        have hi2 : i < (L z).length := by omega
        have ei : (L z)[i]? = some (L z)[i] := List.getElem?_eq_getElem hi2
        generalize (L z)[i] = d at ei
        have hq := ql ((L z).take i)
        rw [List.length_take] at hq
        have nx : ∀ zz : Str, L zz = qc d → (S (34 :: ((L z).take i).flatMap qc)) ++ zz = S (34 :: ((L z).take (i + 1)).flatMap qc) := fun zz ez => by
          refine L_inj ?_
          rw [L_app, L_S, L_S, ez, List.take_add_one, ei]
          simp
        walk_at "ox"
        refine ⟨by rw [sizeLine_eq]; omega, d, atI_nat ei, ?_⟩
        repeat (walk_at "oxs")
        have l1 : Str.length (Str.ofString "\\n") = 2 := rfl
        have l2 : Str.length (Str.ofString "\\") = 1 := rfl
        have l4 : Str.length (⟨#[d]⟩ : Str) = 1 := rfl
        split
        · rename_i z1
          rw [one_eq] at z1
          exact ⟨by rw [l1, sizeLine_eq]; omega, s1, nx _ (by rw [z1]; rfl), _, rfl⟩
        · rename_i z1
          rw [one_eq] at z1
          intro p H2 np s2 ep
          refine ⟨_, rl_t ep, rfl, ?_⟩
          rw [in_two]
          split
          · rename_i z2
            have z2 := of_decide_eq_true z2
            have eq : qc d = [92, d] := by unfold qc; rw [if_neg z1, if_pos z2]
            refine ⟨by rw [l2, sizeLine_eq]; omega, ?_, s1.trans s2, ?_, _, rfl⟩
            · rw [l4, Str.length_append, l2, sizeLine_eq, S_len, List.length_cons]; omega
            · have e : ∀ a b e : Str, a ++ b ++ e = a ++ (b ++ e) := fun a b e => L_inj (by simp only [L_app, List.append_assoc])
              rw [e]
              exact nx _ (by rw [eq]; rfl)
          · rename_i z2
            have z2 := fun q => z2 (decide_eq_true q)
            have eq : qc d = [d] := by unfold qc; rw [if_neg z1, if_neg z2]
            exact ⟨by rw [l4, sizeLine_eq]; omega, s1.trans s2, nx _ (by rw [eq]; rfl), _, rfl⟩
      · rintro σ H' ⟨s1, v2, v3, rfl⟩
        walk_at "ox"
        have l2 : Str.length (Str.ofString "\"") = 1 := rfl
        have hq := ql ((L z).take z.length)
        rw [List.length_take] at hq
        refine ⟨by rw [l2, sizeLine_eq]; omega, ?_⟩
        have e : quotedS z = S (34 :: ((L z).take z.length).flatMap qc) ++ Str.ofString "\"" := by
          refine L_inj ?_
          rw [quoted_codes, L_app, L_S, List.take_of_length_le (by omega)]
          rfl
        rw [← e]
        exact h H' s1
    · cases h
/-! bounds of the law's things -/
structure SmR (S : SV) (r : RV) : Prop where
  wf : WfR S r
  tx : ∀ z, r = .txt z → z.length ≤ 6
  nm : ∀ n, r = .num n → n.natAbs.log2 < 200
theorem SmR.ok {S : SV} {r : RV} (h : SmR S r) : OkR S r := ⟨h.wf, fun z e => Nat.le_trans (h.tx z e) (by decide), fun n e => Nat.lt_trans (h.nm n e) (by decide)⟩
def SmT (S : SV) : Th → Prop
  | .parts rs => rs.length ≤ 4 ∧ ∀ r ∈ rs, SmR S r
  | .table rows => rows.length ≤ 4 ∧ ∀ r ∈ rows, SmR S r.1 ∧ SmR S r.2 ∧ ∀ n, r.1 ≠ .ob n
  | .inst o _ => ∃ p ms, S.things[o]? = some (.kin "Error" p ms)
  | .kin n _ _ => n.length ≤ 10
  | _ => True
def SmS (S : SV) : Prop := ∀ (n : Nat) (t : Th), S.things[n]? = some t → SmT S t
theorem SmS.ok {S : SV} (h : SmS S) : OkS S := fun n t e => by
  have := h n t e
  cases t with
  | parts rs => exact ⟨Nat.le_trans this.1 (by decide), fun r m => (this.2 r m).ok⟩
  | table rs => exact ⟨Nat.le_trans this.1 (by decide), fun r m => ⟨(this.2 r m).1.ok, (this.2 r m).2.1.ok, (this.2 r m).2.2⟩⟩
  | inst o fs => obtain ⟨p, ms, e⟩ := this; exact ⟨_, p, ms, e⟩
  | kin n p ms => exact Nat.le_trans this (by decide)
  | _ => trivial
theorem sm_plain {S : SV} {r : RV} (h : SmR S r) : (plainR r).length ≤ 300 := by
  cases r with
  | txt z =>
    show (quotedS z).length ≤ 300
    have hz := h.tx z rfl
    have ql : ∀ l : List Nat, (l.flatMap qc).length ≤ 2 * l.length := fun l => by
      induction l with
      | nil => exact Nat.le_refl _
      | cons d l ih =>
        rw [List.flatMap_cons, List.length_append, List.length_cons]
        have : (qc d).length ≤ 2 := by unfold qc; split; exact Nat.le_refl _; split; exact Nat.le_refl _; exact (by decide : 1 ≤ 2)
        omega
    have := ql (L z)
    rw [← L_len, quoted_codes, List.length_cons, List.length_append]
    rw [L_len] at this
    show _ + 1 + 1 ≤ 300
    omega
  | num n =>
    have e := int_text_length_le (k := 200) (by decide) (h.nm n rfl)
    show (Str.ofString (toString n)).length ≤ 300
    rw [PySem.ofString_length]
    omega
  | boo b => cases b <;> (simp only [plainR]; decide)
  | _ => simp only [plainR]; decide
theorem sm_head {S : SV} {t : Th} (hS : SmS S) (h : SmT S t) : (headT S t).length ≤ 300 := by
  cases t with
  | kin n p ms =>
    have h : n.length ≤ 10 := h
    show ("" ++ "<class " ++ n ++ ">" : Str).length ≤ 300
    have a0 : Str.length ("" : Str) = 0 := rfl
    have a1 : Str.length ("<class " : Str) = 7 := rfl
    have a2 : Str.length (">" : Str) = 1 := rfl
    simp only [Str.length_append, a0, a1, a2]
    omega
  | inst o fs =>
    obtain ⟨p, ms, e⟩ := h
    simp only [headT, e]
    decide
  | _ => simp only [headT]; decide
theorem lfParts_len {f : Int → RV → Str} {room : Int} {C : Nat} (h0 : 0 ≤ room) : ∀ {rs : List RV} {b : Bool} {told : Str} {a : Nat}, (∀ r ∈ rs, ∀ m, (m < 0 → f m r = "") ∧ (0 ≤ m → ((f m r).length : Int) ≤ m + C)) → (told.length : Int) ≤ room + C + a → ((lfParts f room b rs told).length : Int) ≤ room + C + a + 400 * rs.length
  | [], b, told, a, _, h => by simp only [lfParts]; exact Int.le_trans h (by omega)
  | r :: rs, b, told, a, hf, h => by
    unfold lfParts
    have h1 : ((if b = true then told else told ++ (", " : Str)).length : Int) ≤ room + C + (a + 2) := by
      cases b
      · simp only [Bool.false_eq_true, if_false, Str.length_append, show Str.length (Str.ofString ", ") = 2 from rfl]; omega
      · simp only [if_true]; omega
    generalize (if b = true then told else told ++ (", " : Str)) = t1 at h1 ⊢
    have h2 := hf r (List.mem_cons_self ..) (room - (t1.length : Nat))
    have h3 : ((t1 ++ f (room - (t1.length : Nat)) r).length : Int) ≤ room + C + ((a + 400 : Nat) : Int) := by
      by_cases z : room - (t1.length : Nat) < 0
      · rw [h2.1 z, Str.length_append, show Str.length (Str.ofString "") = 0 from rfl]; omega
      · have := h2.2 (by omega)
        rw [Str.length_append]; omega
    refine Int.le_trans (lfParts_len h0 (fun q m => hf q (List.mem_cons_of_mem _ m)) h3) ?_
    rw [List.length_cons]
    omega
theorem lfPairs_len {f : Int → RV → Str} {room : Int} {C : Nat} (h0 : 0 ≤ room) : ∀ {rs : List (RV × RV)} {b : Bool} {told : Str} {a : Nat}, (∀ r ∈ rs, (plainR r.1).length ≤ 300 ∧ ∀ m, (m < 0 → f m r.2 = "") ∧ (0 ≤ m → ((f m r.2).length : Int) ≤ m + C)) → (told.length : Int) ≤ room + C + a → ((lfPairs f room b rs told).length : Int) ≤ room + C + a + 400 * rs.length
  | [], b, told, a, _, h => by simp only [lfPairs]; exact Int.le_trans h (by omega)
  | r :: rs, b, told, a, hf, h => by
    unfold lfPairs
    have hp := (hf r (List.mem_cons_self ..)).1
    have h1 : (((if b = true then told else told ++ (", " : Str)) ++ plainR r.1 ++ (": " : Str)).length : Int) ≤ room + C + (a + 304) := by
      cases b
      · simp only [Bool.false_eq_true, if_false, Str.length_append, show Str.length (Str.ofString ", ") = 2 from rfl, show Str.length (Str.ofString ": ") = 2 from rfl]; omega
      · simp only [if_true, Str.length_append, show Str.length (Str.ofString ": ") = 2 from rfl]; omega
    generalize ((if b = true then told else told ++ (", " : Str)) ++ plainR r.1 ++ (": " : Str)) = t1 at h1 ⊢
    have h2 := (hf r (List.mem_cons_self ..)).2 (room - (t1.length : Nat))
    have h3 : ((t1 ++ f (room - (t1.length : Nat)) r.2).length : Int) ≤ room + C + ((a + 400 : Nat) : Int) := by
      by_cases z : room - (t1.length : Nat) < 0
      · rw [h2.1 z, Str.length_append, show Str.length (Str.ofString "") = 0 from rfl]; omega
      · have := h2.2 (by omega)
        rw [Str.length_append]; omega
    refine Int.le_trans (lfPairs_len h0 (fun q m => hf q (List.mem_cons_of_mem _ m)) h3) ?_
    rw [List.length_cons]
    omega
theorem lf_neg {S : SV} {d : Nat} {ar : List Nat} {room : Int} {r : RV} (h : room < 0) : lf S d ar room r = "" := by
  cases d with
  | zero => rfl
  | succ d => unfold lf; rw [if_pos h]
theorem lf_len {S : SV} (hS : SmS S) : ∀ (d : Nat) (ar : List Nat) (room : Int) (r : RV), SmR S r → 0 ≤ room → ((lf S d ar room r).length : Int) ≤ room + ((2000 * d : Nat) : Int)
  | 0, _, _, _, _, h => by simp only [lf]; exact Int.le_trans (by decide) (Int.le_trans h (by omega))
  | d + 1, ar, room, r, hr, h => by
    have sm : ∀ z : Str, z.length ≤ 300 → (z.length : Int) ≤ room + ((2000 * (d + 1) : Nat) : Int) := fun z hz => by omega
    unfold lf
    rw [if_neg (by omega)]
    split
    · rename_i n
      split
      · rename_i rs e
        split
        · exact sm _ (by decide)
        · have hb := hS n _ e
          have h2 := lfParts_len (f := lf S d (ar ++ [n])) (room := room) (C := 2000 * d) (b := true) (told := "[") (a := 1) (rs := rs) h (fun r m q => ⟨fun z => lf_neg z, fun z => lf_len hS d _ q r (hb.2 r m) z⟩) (by rw [show Str.length (Str.ofString "[") = 1 from rfl]; omega)
          have h4 := hb.1
          rw [Str.length_append, show Str.length (Str.ofString "]") = 1 from rfl]
          omega
      · rename_i rs e
        split
        · exact sm _ (by decide)
        · have hb := hS n _ e
          have h2 := lfPairs_len (f := lf S d (ar ++ [n])) (room := room) (C := 2000 * d) (b := true) (told := "{") (a := 1) (rs := rs) h (fun r m => ⟨sm_plain (hb.2 r m).1, fun q => ⟨fun z => lf_neg z, fun z => lf_len hS d _ q r.2 (hb.2 r m).2.1 z⟩⟩) (by rw [show Str.length (Str.ofString "{") = 1 from rfl]; omega)
          have h4 := hb.1
          rw [Str.length_append, show Str.length (Str.ofString "}") = 1 from rfl]
          omega
      · rename_i t _ _ e
        exact sm _ (sm_head hS (hS n t e))
      · exact sm _ (by decide)
    · exact sm _ (sm_plain hr)
def lplain (S : SV) : RV → Str
  | .ob n => match S.things[n]? with
    | some t => headT S t
    | none => ""
  | r => plainR r
def spLPlain (w : World) (c : Cs) : Sp := fun vs H Q _ => match vs with
  | [.ref y, v] => ∃ x S r, y = x.y ∧ Sto w c H x S ∧ SmS S ∧ IsVal c H v r ∧ SmR S r ∧ (∀ n rs, r = .ob n → S.things[n]? ≠ some (.parts rs)) ∧ (∀ n rows, r = .ob n → S.things[n]? ≠ some (.table rows)) ∧ ∀ H', Same H H' → Q (.str (lplain S r)) H'
  | _ => False
theorem ok_lplain (A : At K mg "_law_plain" "_law_plain" s_law_plain ["store", "value"]) (T : Txt K mg c) (H_law_quoted : Has P w K mg base CX0 "_law_quoted" 1 ["text"] spLQuoted) : Has P w K mg base CX0 "_law_plain" 2 ["store", "value"] (spLPlain w c) := by
  have Sc := sc_law_plain
  refine has_of A Sc (fun vs H Q E h => ?_) (fun cdv f A outer s H vs Q E hr h => ?_)
  · unfold spLPlain at h; split at h; rfl; cases h
  · unfold spLPlain at h
    split at h
    · rename_i y v
      obtain ⟨x, S, r, rfl, hS, hsm, hv, ho, n1, n2, h⟩ := h
      refine ⟨_, (pss_cons (ps_if (pt_cmpR op_fIsN (fe_var 1) pe_non (nomark _)) (pss_one (ps_ret pe_str)) pss_nil)
      (pss_cons (ps_if (pt_val (pe_callB (call_fIsiA T.kit) (by rfl) T.no_isinstance (by decide +kernel) (pa_cons (fe_var 1) (pa_cons (fe_ty (n := "bool") (by rfl) T.no_bool (by decide +kernel)) pa_nil)))) (pss_one (ps_ret (pe_ix ix_fx (fe_tup (pa_cons pe_str (pa_cons pe_str pa_nil))) (pe_callTy call_fInt (by rfl) T.no_int (by decide +kernel) (pa_cons (fe_var 1) pa_nil)) (fun _ _ => rfl)))) pss_nil)
      (pss_cons (ps_if (pt_val (pe_callB (call_fIsiA T.kit) (by rfl) T.no_isinstance (by decide +kernel) (pa_cons (fe_var 1) (pa_cons (fe_ty (n := "int") (by rfl) T.no_int (by decide +kernel)) pa_nil)))) (pss_one (ps_ret (pe_callTy call_fStr (by rfl) T.no_str (by decide +kernel) (pa_cons (fe_var 1) pa_nil)))) pss_nil)
      (pss_cons (ps_if (pt_val (pe_callB (call_fIsiA T.kit) (by rfl) T.no_isinstance (by decide +kernel) (pa_cons (fe_var 1) (pa_cons (fe_ty (n := "str") (by rfl) T.no_str (by decide +kernel)) pa_nil)))) (pss_one (ps_ret (fe_call H_law_quoted (hr.mono (by walk_at "rm")) (by rfl) pass0 (pa_cons (fe_var 1) pa_nil)))) pss_nil)
      (pss_cons (ps_if (pt_val (pe_callB (call_fIsiO T.kit) (by rfl) T.no_isinstance (by decide +kernel) (pa_cons (fe_var 1) (pa_cons (pe_glob (v := .ref c.Builtin) (by rfl) T.mg_Builtin rfl) pa_nil)))) (pss_one (ps_ret pe_str)) pss_nil)
      (pss_cons (ps_set (i := 2) Sc.nd rfl (.inl rfl) (pe_ix ix_fx (fe_fld (fe_var 0) T.pl_things rfl) (fe_fld (fe_var 1) T.pl_number rfl) (fun _ _ => rfl)))
      (pss_cons (ps_if (pt_val (pe_callB (call_fIsiO T.kit) (by rfl) T.no_isinstance (by decide +kernel) (pa_cons (fe_var 2) (pa_cons (pe_glob (v := .ref c.Kin) (by rfl) T.mg_Kin rfl) pa_nil)))) (pss_one (ps_ret (pe_op op_fAdd (pe_op op_fAdd pe_str (fe_fld (fe_var 2) T.pl_name rfl)) pe_str))) pss_nil)
      (pss_cons (ps_if (pt_val (pe_callB (call_fIsiO T.kit) (by rfl) T.no_isinstance (by decide +kernel) (pa_cons (fe_var 2) (pa_cons (pe_glob (v := .ref c.Instance) (by rfl) T.mg_Instance rfl) pa_nil)))) (pss_one (ps_ret pe_str)) pss_nil)
      (pss_one (ps_ret pe_str)))))))))), ?_⟩
      walk_at "fx0"
      cases r with
      | nul => cases hv; repeat (walk_at "oxs"); exact h H (Same.refl _)
      | boo b =>
        cases hv
        cases b <;>
          (repeat (walk_at "oxs")
           intro p H2 np s2 ep
           refine ⟨_, rl_t ep, _, rfl, h H2 s2⟩)
      | num n => cases hv; repeat (walk_at "oxs"); exact ⟨Nat.lt_trans (ho.nm n rfl) (by decide), h H (Same.refl _)⟩
      | txt z => cases hv; repeat (walk_at "oxs"); exact ⟨Nat.le_trans (ho.tx z rfl) (by decide), fun H' s' => h H' s'⟩
      | bt z =>
        obtain ⟨a, rfl, dx, e1⟩ := id hv
        repeat (first | walk_at "oxs" | simp only [e1])
        exact h H (Same.refl _)
      | ob n =>
        obtain ⟨a, rfl, dx, e1⟩ := id hv
        obtain ⟨sdx, es⟩ := hS.st
        have hn := ho.wf n rfl
        obtain ⟨t, et⟩ : ∃ t, S.things[n]? = some t := ⟨_, List.getElem?_eq_getElem hn⟩
        obtain ⟨a2, b2, ea, hT⟩ := hS.at et
        have ht := hsm n t et
        have hl : lplain S (.ob n) = headT S t := by simp only [lplain, et]
        rw [hl] at h
        have ixe : atI (x.L.map fun p => V.ref p.1) ((n : Nat) : Int) = some (.ref a2) := atI_nat (by rw [List.getElem?_map, ea]; rfl)
        repeat (first | walk_at "oxs" | simp only [e1] | simp only [es])
        refine ⟨_, rl_l hS.et, _, ixe, ?_⟩
        cases t with
        | parts rs => exact absurd et (n1 n rs rfl)
        | table rs => exact absurd et (n2 n rs rfl)
        | kin nm p ms =>
          obtain ⟨dx, pv, md, kvs, rfl, e2, _⟩ := hT
          have ht : nm.length ≤ 10 := ht
          repeat (first | walk_at "oxs" | simp only [e2])
          have a1 : Str.length (Str.ofString "<class ") = 7 := rfl
          have a3 : Str.length (Str.ofString ">") = 1 := rfl
          simp only [Str.length_append, a1, a3, sizeLine_eq]
          exact ⟨by omega, by omega, h H (Same.refl _)⟩
        | inst o fs =>
          obtain ⟨dx, ra, nd, kvs, rfl, e2, er, _⟩ := hT
          obtain ⟨p, ms, eo⟩ := ht
          simp only [headT, eo] at h
          repeat (first | walk_at "oxs" | simp only [e2])
          exact h H (Same.refl _)
        | _ =>
          obtain ⟨dx2, fs2, e2⟩ := hT.ins
          simp only [clsT] at e2
          repeat (first | walk_at "oxs" | simp only [e2])
          exact h H (Same.refl _)
    · cases h
end

section
variable {P : Program} {w : World} {K : PySem.W.Frag} {mg : Str → Option Value} {base : Heap} {c : Cs}
theorem lf_plain {S : SV} {d : Nat} {ns : List Nat} {room : Int} {r : RV} (h : 0 ≤ room) (n1 : ∀ n rs, r = .ob n → S.things[n]? ≠ some (.parts rs)) (n2 : ∀ n rs, r = .ob n → S.things[n]? ≠ some (.table rs)) : lf S (d + 1) ns room r = lplain S r := by
  unfold lf
  rw [if_neg (by omega)]
  cases r with
  | ob n =>
    have h1 := n1 n
    have h2 := n2 n
    simp only [lplain]
    cases e : S.things[n]? with
    | none => rfl
    | some t =>
      cases t with
      | parts rs => exact absurd e (h1 rs rfl)
      | table rs => exact absurd e (h2 rs rfl)
      | _ => rfl
  | _ => rfl
def spLForm (w : World) (c : Cs) (d : Nat) : Sp := fun vs H Q _ => match vs with
  | [.ref y, v, .ref ar, .int room] => ∃ x S r ns, y = x.y ∧ Sto w c H x S ∧ SmS S ∧ IsVal c H v r ∧ SmR S r ∧ H ar = some (.lst (ns.map fun n => V.int (n : Nat))) ∧ ns.length ≤ 10 ∧ ns.length + d = 11 ∧ room ≤ 500 ∧ ∀ H', Same H H' → Q (.str (lf S d ns room r)) H'
  | _ => False
theorem lfParts_cons {f : Int → RV → Str} {room : Int} {b : Bool} {r : RV} {rs : List RV} {told : Str} : lfParts f room b (r :: rs) told = lfParts f room false rs ((if b = true then told else told ++ (", " : Str)) ++ f (room - ((if b = true then told else told ++ (", " : Str)).length : Nat)) r) := rfl
theorem lfPairs_cons {f : Int → RV → Str} {room : Int} {b : Bool} {r : RV × RV} {rs : List (RV × RV)} {told : Str} : lfPairs f room b (r :: rs) told = lfPairs f room false rs (((if b = true then told else told ++ (", " : Str)) ++ plainR r.1 ++ (": " : Str)) ++ f (room - (((if b = true then told else told ++ (", " : Str)) ++ plainR r.1 ++ (": " : Str)).length : Nat)) r.2) := rfl
theorem ok_lform1 {d : Nat} (A : At K mg "_law_form" "_law_form" s_law_form ["store", "value", "around", "room"]) (T : Txt K mg c) (H_law_plain : Has P w K mg base CX0 "_law_plain" 2 ["store", "value"] (spLPlain w c)) (M_Table_pairs : HasM P w K mg base CX0 c.Table "pairs" 1 ["self"] (spPairs w c)) (H_law_form : Has P w K mg base CX0 "_law_form" (d + 5) ["store", "value", "around", "room"] (spLForm w c d)) : Has P w K mg base CX0 "_law_form" (d + 1 + 5) ["store", "value", "around", "room"] (spLForm w c (d + 1)) := by
  have Sc := sc_law_form
  refine has_of A Sc (fun vs H Q E h => ?_) (fun cdv f A outer s H vs Q E hr h => ?_)
  · unfold spLForm at h; split at h; rfl; cases h
  · unfold spLForm at h
    split at h
    · rename_i y v ar room
      obtain ⟨x, S, r, ns, rfl, hS, hsm, hv, ho, ear, hns, hd, hroom, h⟩ := h
      obtain ⟨sdx, es⟩ := hS.st
      refine ⟨_, (pss_cons (ps_if (pt_cmpR op_fLt (fe_var 3) pe_int (nomark _)) (pss_one (ps_ret pe_str)) pss_nil)
      (pss_cons (ps_if (PW.pt (pw_or (pt_not (pt_val (pe_callB (call_fIsiO T.kit) (by rfl) T.no_isinstance (by decide +kernel) (pa_cons (fe_var 1) (pa_cons (pe_glob (v := .ref c.Ref) (by rfl) T.mg_Ref rfl) pa_nil))))) (pw_or1 (pt_not (pt_val (pe_callB (call_fIsiP T.kit) (by rfl) T.no_isinstance (by decide +kernel) (pa_cons (pe_ix ix_fx (fe_fld (fe_var 0) T.pl_things rfl) (fe_fld (fe_var 1) T.pl_number rfl) (fun _ _ => rfl)) (pa_cons (fe_tup (pa_cons (pe_glob (v := .ref c.Parts) (by rfl) T.mg_Parts rfl) (pa_cons (pe_glob (v := .ref c.Table) (by rfl) T.mg_Table rfl) pa_nil))) pa_nil)))))))) (pss_one (ps_ret (fe_call H_law_plain (hr.mono (by walk_at "rm")) (by rfl) pass0 (pa_cons (fe_var 0) (pa_cons (fe_var 1) pa_nil))))) pss_nil)
      (pss_cons (ps_set (i := 4) Sc.nd rfl (.inl rfl) (pe_ix ix_fx (fe_fld (fe_var 0) T.pl_things rfl) (fe_fld (fe_var 1) T.pl_number rfl) (fun _ _ => rfl)))
      (pss_cons (ps_set (i := 5) Sc.nd rfl (.inl rfl) pe_str)
      (pss_cons (ps_if (pt_val (pe_callB (call_fIsiO T.kit) (by rfl) T.no_isinstance (by decide +kernel) (pa_cons (fe_var 4) (pa_cons (pe_glob (v := .ref c.Table) (by rfl) T.mg_Table rfl) pa_nil)))) (pss_one (ps_set (i := 5) Sc.nd rfl (.inl rfl) pe_str)) pss_nil)
      (pss_cons (ps_if (PW.pt (pw_or (pt_cmpR op_fIn (fe_fld (fe_var 1) T.pl_number rfl) (fe_var 2) (by with_unfolding_all rfl)) (pw_or1 (pt_cmpR op_fGe (pe_callB call_fLen (by rfl) T.no_len (by decide +kernel) (pa_cons (fe_var 2) pa_nil)) pe_int (nomark _))))) (pss_one (ps_ret (pe_op op_fAdd (pe_op op_fAdd (pe_ix ix_fx (fe_var 5) pe_int (fun _ _ => rfl)) pe_str) (pe_ix ix_fx (fe_var 5) pe_int (fun _ _ => rfl))))) pss_nil)
      (pss_cons (ps_set (i := 6) Sc.nd rfl (.inl rfl) (pe_op op_fAdd (fe_var 2) (fe_lst (pa_cons (fe_fld (fe_var 1) T.pl_number rfl) pa_nil))))
      (pss_cons (ps_set (i := 7) Sc.nd rfl (.inl rfl) (pe_ix ix_fx (fe_var 5) pe_int (fun _ _ => rfl)))
      (pss_cons (ps_if (pt_val (pe_callB (call_fIsiO T.kit) (by rfl) T.no_isinstance (by decide +kernel) (pa_cons (fe_var 4) (pa_cons (pe_glob (v := .ref c.Parts) (by rfl) T.mg_Parts rfl) pa_nil)))) (pss_one (ps_for PassesOwn.never rfl (pi_range1 (by rfl) T.no_range (pa_cons (pe_callB call_fLen (by rfl) T.no_len (by decide +kernel) (pa_cons (fe_fld (fe_var 4) T.pl_held rfl) pa_nil)) pa_nil)) (pg_name (i := 8) Sc.nd rfl (.inl rfl)) (pss_cons (ps_if (pt_cmpR op_fGt (fe_var 8) pe_int (nomark _)) (pss_one (ps_set (i := 7) Sc.nd rfl (.inl rfl) (pe_op op_fAdd (fe_var 7) pe_str))) pss_nil)
      (pss_one (ps_set (i := 7) Sc.nd rfl (.inl rfl) (pe_op op_fAdd (fe_var 7) (fe_call H_law_form (hr.mono (by walk_at "rm")) (by rfl) pass0 (pa_cons (fe_var 0) (pa_cons (pe_ix ix_fx (fe_fld (fe_var 4) T.pl_held rfl) (fe_var 8) (fun _ _ => rfl)) (pa_cons (fe_var 6) (pa_cons (pe_op op_fSub (fe_var 3) (pe_callB call_fLen (by rfl) T.no_len (by decide +kernel) (pa_cons (fe_var 7) pa_nil))) pa_nil))))))))))) (pss_cons (ps_set (i := 9) Sc.nd rfl (.inl rfl) (fe_meth0 M_Table_pairs T.cl_Table (hr.mono (by walk_at "rm")) pass0 (fe_var 4)))
      (pss_one (ps_for PassesOwn.never rfl (pi_range1 (by rfl) T.no_range (pa_cons (pe_callB call_fLen (by rfl) T.no_len (by decide +kernel) (pa_cons (fe_var 9) pa_nil)) pa_nil)) (pg_name (i := 8) Sc.nd rfl (.inl rfl)) (pss_cons (ps_if (pt_cmpR op_fGt (fe_var 8) pe_int (nomark _)) (pss_one (ps_set (i := 7) Sc.nd rfl (.inl rfl) (pe_op op_fAdd (fe_var 7) pe_str))) pss_nil)
      (pss_cons (ps_set (i := 7) Sc.nd rfl (.inl rfl) (pe_op op_fAdd (pe_op op_fAdd (fe_var 7) (fe_call H_law_plain (hr.mono (by walk_at "rm")) (by rfl) pass0 (pa_cons (fe_var 0) (pa_cons (pe_ix ix_fx (pe_ix ix_fx (fe_var 9) (fe_var 8) (fun _ _ => rfl)) pe_int (fun _ _ => rfl)) pa_nil)))) pe_str))
      (pss_one (ps_set (i := 7) Sc.nd rfl (.inl rfl) (pe_op op_fAdd (fe_var 7) (fe_call H_law_form (hr.mono (by walk_at "rm")) (by rfl) pass0 (pa_cons (fe_var 0) (pa_cons (pe_ix ix_fx (pe_ix ix_fx (fe_var 9) (fe_var 8) (fun _ _ => rfl)) pe_int (fun _ _ => rfl)) (pa_cons (fe_var 6) (pa_cons (pe_op op_fSub (fe_var 3) (pe_callB call_fLen (by rfl) T.no_len (by decide +kernel) (pa_cons (fe_var 7) pa_nil))) pa_nil))))))))))))))
      (pss_one (ps_ret (pe_op op_fAdd (fe_var 7) (pe_ix ix_fx (fe_var 5) pe_int (fun _ _ => rfl)))))))))))))), ?_⟩
      walk_at "fx0"
      simp only [tSeq]
      refine cut_ fun N hN => ?_
      repeat (walk_at "oxs")
      split
      · rename_i z
        have e := lf_neg (S := S) (d := d + 1) (ar := ns) (r := r) z
        rw [e] at h
        exact h H (Same.refl _)
      · rename_i z
        refine hN _ _ ?_
        clear hN N
        by_cases hob : ∃ n, r = .ob n
        · obtain ⟨n, rfl⟩ := hob
          have hn := ho.wf n rfl
          obtain ⟨t, et⟩ : ∃ t, S.things[n]? = some t := ⟨_, List.getElem?_eq_getElem hn⟩
          obtain ⟨a2, b2, ea, hT⟩ := hS.at et
          have ht := hsm n t et
          have ixe : atI (x.L.map fun p => V.ref p.1) ((n : Nat) : Int) = some (.ref a2) := atI_nat (by rw [List.getElem?_map, ea]; rfl)
          obtain ⟨va, rfl, vdx, ev⟩ := id hv
          simp only [tSeq]
          refine cut_ fun N hN => ?_
          repeat (first | walk_at "oxs" | simp only [ev] | simp only [es])
          refine ⟨_, rl_l hS.et, _, ixe, ?_⟩
          cases t with
          | parts rs =>
            obtain ⟨dx2, l, xs, rfl, e1, el, hxs⟩ := id hT
            repeat (first | walk_at "oxs" | simp only [e1])
            intro p H2 np s2 ep
            have e1' := s2 _ _ e1
            have es' := s2 _ _ es
            have ev' := s2 _ _ ev
            have ear' := s2 _ _ ear
            have et' := s2 _ _ hS.et
            repeat (first | walk_at "oxs" | simp only [ep] | simp only [e1'])
            refine hN _ _ ?_
            clear hN N
            simp only [tSeq]
            refine cut_ fun N hN => ?_
            repeat (first | walk_at "oxs" | simp only [ev'] | simp only [es'])
            refine ⟨_, rl_l et', _, ixe, hN _ _ ?_⟩
            clear hN N
            simp only [tSeq]
            refine cut_ fun N hN => ?_
            repeat (walk_at "oxs")
            refine hN _ _ ?_
            clear hN N
            simp only [tSeq]
            refine cut_ fun N hN => ?_
            repeat (first | walk_at "oxs" | simp only [e1'])
            refine hN _ _ ?_
            clear hN N
            simp only [tSeq]
            refine cut_ fun N hN => ?_
            repeat (first | walk_at "oxs" | simp only [ev'])
            have e0 : lf S (d + 1) ns room (.ob n) = if n ∈ ns ∨ 10 ≤ ns.length then ("[" : Str) ++ "..." ++ "]" else lfParts (lf S d (ns ++ [n])) room true rs "[" ++ "]" := by
              unfold lf
              rw [if_neg (by omega)]
              simp only [et]
            refine ⟨_, rl_l ear', flat_ar, ?_⟩
            rw [inV_ar]
            split
            · rename_i z1
              rw [e0, if_pos (.inl (of_decide_eq_true z1))] at h
              exact ⟨by rw [sizeLine_eq]; decide, 91, rfl, by rw [sizeLine_eq]; decide, by rw [sizeLine_eq]; decide, 93, rfl, by rw [sizeLine_eq]; decide, h H2 s2⟩
            · rename_i z1
              refine ⟨_, rl_l ear', ?_⟩
              rw [List.length_map]
              split
              · rename_i z2
                rw [e0, if_pos (.inr (by omega))] at h
                exact ⟨by rw [sizeLine_eq]; decide, 91, rfl, by rw [sizeLine_eq]; decide, by rw [sizeLine_eq]; decide, 93, rfl, by rw [sizeLine_eq]; decide, h H2 s2⟩
              · rename_i z2
                have l10 : ns.length < 10 := by omega
                rw [e0, if_neg (fun q => q.elim (fun q => z1 (decide_eq_true q)) fun q => z2 (by omega))] at h
                refine hN _ _ ?_
                clear hN N e0 z1 z2
                simp only [tSeq]
                refine cut_ fun N hN => ?_
                repeat (first | walk_at "oxs" | simp only [ev'])
                intro p3 H3 np3 s3 ep3
                simp only [s3 _ _ ear', ep3]
                refine ⟨by rw [List.length_map, sizeLine_eq]; exact Nat.le_trans (Nat.add_le_add_right (Nat.le_of_lt l10) 1) (by decide), fun q H4 nq s4 eq => hN _ _ ?_⟩
                clear hN N
                have s24 : Same H H4 := (s2.trans s3).trans s4
                have eq' : H4 q = some (.lst ((ns ++ [n]).map fun n => V.int (n : Nat))) := by rw [eq, List.map_append]; rfl
                have e14 := s24 _ _ e1
                simp only [tSeq]
                refine cut_ fun N hN => ?_
                repeat (walk_at "oxs")
                refine ⟨by rw [sizeLine_eq]; decide, 91, rfl, hN _ _ ?_⟩
                clear hN N
                have el4 := s24 _ _ el
                have lxs := Paired.length hxs
                have hC : ∀ i, i < rs.length → True := fun _ _ => trivial
                simp only [tSeq]
                refine cut_ fun N hN => ?_
                repeat (first | walk_at "oxs" | simp only [e14])
                refine for_ ?_
                walk_at "ox"
                simp only [e14]
                walk_at "ox"
                have hb4 := ht.1
                refine ⟨_, rl_l el4, by omega, by omega, ?_⟩
                refine loop_range (fun i σ H' => Same H4 H' ∧ ∃ told v8, lfParts (lf S d (ns ++ [n])) room (decide (i = 0)) (rs.drop i) told = lfParts (lf S d (ns ++ [n])) room true rs "[" ∧ (told.length : Int) ≤ room + ((2000 * d : Nat) : Int) + ((1 + 400 * i : Nat) : Int) ∧ σ = [some (.ref x.y), some (.ref va), some (.ref ar), some (.int room), some (.ref a2), some (.str (Str.ofString "[]")), some (.ref q), some (.str told), v8, none]) ⟨Same.refl _, _, none, rfl, by (show ((1 : Nat) : Int) ≤ _; omega), rfl⟩ ?_ ?_
                · rintro i σ H5 hi ⟨s5, told, v8, et5, hl5, rfl⟩
                  have hi2 : i < xs.length := by omega
                  have exi : xs[i]? = some xs[i] := List.getElem?_eq_getElem hi2
                  generalize xs[i] = xv at exi
                  obtain ⟨rv, er, hrv⟩ := paired_get hxs exi
                  have ed : rs.drop i = rv :: rs.drop (i + 1) := by
                    obtain ⟨hi3, e2⟩ := List.getElem?_eq_some_iff.mp er
                    rw [List.drop_eq_getElem_cons hi3, e2]
                  rw [ed, lfParts_cons] at et5
                  have s25 := s24.trans s5
                  have e15 := s25 _ _ e1
                  have el5 := s25 _ _ el
                  have eq5 := s5 _ _ eq'
                  have sm := ht.2 rv (List.mem_of_getElem? er)
                  have hd2 : (ns ++ [n]).length = ns.length + 1 := by rw [List.length_append]; rfl
                  have call : ∀ (t1 : Str) (Q2 : VK), (t1.length : Int) ≤ room + ((2000 * d : Nat) : Int) + ((3 + 400 * i : Nat) : Int) → (∀ z H6, Same H5 H6 → z = lf S d (ns ++ [n]) (room - (t1.length : Nat)) rv → ((t1 ++ z).length : Int) ≤ room + ((2000 * d : Nat) : Int) + ((1 + 400 * (i + 1) : Nat) : Int) → Q2 (.str z) H6) → spLForm w c d [.ref x.y, xv, .ref q, .int (room - (t1.length : Nat))] H5 Q2 E0 := fun t1 Q2 h1 h2 => by
                    refine ⟨x, S, rv, ns ++ [n], rfl, hS.same s25, hsm, hrv.same s25, sm, eq5, by omega, by omega, by omega, fun H6 s6 => h2 _ H6 s6 rfl ?_⟩
                    rw [Str.length_append]
                    by_cases z : room - (t1.length : Nat) < 0
                    · rw [lf_neg z, show Str.length (Str.ofString "") = 0 from rfl]; omega
                    · have := lf_len hsm d (ns ++ [n]) (room - (t1.length : Nat)) rv sm (by omega)
                      omega
                  have exi' : atI xs ((i : Nat) : Int) = some xv := atI_nat exi
                  by_cases h0 : i = 0
                  · subst h0
                    rw [show decide ((0 : Nat) = 0) = true from rfl, if_pos rfl] at et5
                    repeat (first | walk_at "oxs" | simp only [e15])
                    rw [if_neg (by decide)]
                    refine ⟨_, rl_l el5, _, exi', by rw [sizeLine_eq]; omega, call told _ (by omega) (fun z H6 s6 ez hz => ?_)⟩
                    subst ez
                    refine ⟨?_, s5.trans s6, _, et5, hz, rfl, _, rfl⟩
                    rw [Str.length_append] at hz
                    rw [sizeLine_eq]
                    omega
                  · rw [show decide (i = 0) = false from decide_eq_false h0, if_neg (by decide)] at et5
                    have l2 : Str.length (Str.ofString ", ") = 2 := rfl
                    have lt : (told ++ Str.ofString ", ").length = told.length + 2 := by rw [Str.length_append, l2]
                    repeat (first | walk_at "oxs" | simp only [e15])
                    rw [if_pos (by omega)]
                    refine ⟨by rw [l2, sizeLine_eq]; omega, _, rl_l el5, _, exi', by rw [lt, sizeLine_eq]; omega, call (told ++ Str.ofString ", ") _ (by omega) (fun z H6 s6 ez hz => ?_)⟩
                    subst ez
                    refine ⟨?_, s5.trans s6, _, et5, hz, rfl, _, rfl⟩
                    rw [Str.length_append] at hz
                    rw [sizeLine_eq]
                    omega
                · rintro σ H5 ⟨s5, told, v8, et5, hl5, rfl⟩
                  refine hN _ _ ?_
                  clear hN N
                  rw [List.drop_eq_nil_of_le (by omega)] at et5
                  have et5 : told = lfParts (lf S d (ns ++ [n])) room true rs "[" := et5
                  rw [← et5] at h
                  repeat (walk_at "oxs")
                  refine ⟨by rw [sizeLine_eq]; decide, 93, rfl, ?_, h H5 (s24.trans s5)⟩
                  rw [sizeLine_eq, show Str.length (⟨#[93]⟩ : Str) = 1 from rfl]
                  omega
          | table rows =>
            obtain ⟨dd, rws, rfl, ⟨dx2, e1⟩, htab, hxs⟩ := id hT
            repeat (first | walk_at "oxs" | simp only [e1])
            intro p H2 np s2 ep
            have e1' := s2 _ _ e1
            have es' := s2 _ _ es
            have ev' := s2 _ _ ev
            have ear' := s2 _ _ ear
            have et' := s2 _ _ hS.et
            repeat (first | walk_at "oxs" | simp only [ep] | simp only [e1'])
            refine hN _ _ ?_
            clear hN N
            simp only [tSeq]
            refine cut_ fun N hN => ?_
            repeat (first | walk_at "oxs" | simp only [ev'] | simp only [es'])
            refine ⟨_, rl_l et', _, ixe, hN _ _ ?_⟩
            clear hN N
            simp only [tSeq]
            refine cut_ fun N hN => ?_
            repeat (walk_at "oxs")
            refine hN _ _ ?_
            clear hN N
            simp only [tSeq]
            refine cut_ fun N hN => ?_
            repeat (first | walk_at "oxs" | simp only [e1'])
            refine hN _ _ ?_
            clear hN N
            simp only [tSeq]
            refine cut_ fun N hN => ?_
            repeat (first | walk_at "oxs" | simp only [ev'])
            have e0 : lf S (d + 1) ns room (.ob n) = if n ∈ ns ∨ 10 ≤ ns.length then ("{" : Str) ++ "..." ++ "}" else lfPairs (lf S d (ns ++ [n])) room true rows "{" ++ "}" := by
              unfold lf
              rw [if_neg (by omega)]
              simp only [et]
            refine ⟨_, rl_l ear', flat_ar, ?_⟩
            rw [inV_ar]
            split
            · rename_i z1
              rw [e0, if_pos (.inl (of_decide_eq_true z1))] at h
              exact ⟨by rw [sizeLine_eq]; decide, 123, rfl, by rw [sizeLine_eq]; decide, by rw [sizeLine_eq]; decide, 125, rfl, by rw [sizeLine_eq]; decide, h H2 s2⟩
            · rename_i z1
              refine ⟨_, rl_l ear', ?_⟩
              rw [List.length_map]
              split
              · rename_i z2
                rw [e0, if_pos (.inr (by omega))] at h
                exact ⟨by rw [sizeLine_eq]; decide, 123, rfl, by rw [sizeLine_eq]; decide, by rw [sizeLine_eq]; decide, 125, rfl, by rw [sizeLine_eq]; decide, h H2 s2⟩
              · rename_i z2
                have l10 : ns.length < 10 := by omega
                rw [e0, if_neg (fun q => q.elim (fun q => z1 (decide_eq_true q)) fun q => z2 (by omega))] at h
                refine hN _ _ ?_
                clear hN N e0 z1 z2
                simp only [tSeq]
                refine cut_ fun N hN => ?_
                repeat (first | walk_at "oxs" | simp only [ev'])
                intro p3 H3 np3 s3 ep3
                simp only [s3 _ _ ear', ep3]
                refine ⟨by rw [List.length_map, sizeLine_eq]; exact Nat.le_trans (Nat.add_le_add_right (Nat.le_of_lt l10) 1) (by decide), fun q H4 nq s4 eq => hN _ _ ?_⟩
                clear hN N
                have s24 : Same H H4 := (s2.trans s3).trans s4
                have eq' : H4 q = some (.lst ((ns ++ [n]).map fun n => V.int (n : Nat))) := by rw [eq, List.map_append]; rfl
                have e14 := s24 _ _ e1
                simp only [tSeq]
                refine cut_ fun N hN => ?_
                repeat (walk_at "oxs")
                refine ⟨by rw [sizeLine_eq]; decide, 123, rfl, hN _ _ ?_⟩
                clear hN N
                have lxs := Paired.length hxs
                simp only [tSeq]
                refine cut_ fun N hN => ?_
                repeat (first | walk_at "oxs" | simp only [e14])
                have hb4 := ht.1
                refine ⟨dd, rws, ⟨_, e14⟩, htab.same s24, by omega, fun pq ts H4' nq' s4' el4 hts => ?_⟩
                have s24 := s24.trans s4'
                have eq' := s4' _ _ eq'
                have lts := Paired.length hts
                repeat (walk_at "oxs")
                refine for_ ?_
                walk_at "ox"
                refine ⟨_, rl_l el4, by rw [List.length_map]; omega, by rw [List.length_map]; omega, ?_⟩
                rw [List.length_map]
                refine loop_range (fun i σ H' => Same H4' H' ∧ ∃ told v8, lfPairs (lf S d (ns ++ [n])) room (decide (i = 0)) (rows.drop i) told = lfPairs (lf S d (ns ++ [n])) room true rows "{" ∧ (told.length : Int) ≤ room + ((2000 * d : Nat) : Int) + ((1 + 400 * i : Nat) : Int) ∧ σ = [some (.ref x.y), some (.ref va), some (.ref ar), some (.int room), some (.ref a2), some (.str (Str.ofString "{}")), some (.ref q), some (.str told), v8, some (.ref pq)]) ⟨Same.refl _, _, none, rfl, by (show ((1 : Nat) : Int) ≤ _; omega), rfl⟩ ?_ ?_
                · rintro i σ H5 hi ⟨s5, told, v8, et5, hl5, rfl⟩
                  have hi2 : i < ts.length := by omega
                  have eti : ts[i]? = some ts[i] := List.getElem?_eq_getElem hi2
                  generalize ts[i] = tp at eti
                  have exi : (ts.map V.ref)[i]? = some (.ref tp) := by rw [List.getElem?_map, eti]; rfl
                  obtain ⟨pr, epr, htp⟩ := paired_get hts eti
                  obtain ⟨rv, er, hrk, hrv⟩ := paired_get hxs epr
                  have ed : rows.drop i = rv :: rows.drop (i + 1) := by
                    obtain ⟨hi3, e2⟩ := List.getElem?_eq_some_iff.mp er
                    rw [List.drop_eq_getElem_cons hi3, e2]
                  rw [ed, lfPairs_cons] at et5
                  have s25 := s24.trans s5
                  have e15 := s25 _ _ e1
                  have el5 := s5 _ _ el4
                  have htp5 := s5 _ _ htp
                  have eq5 := s5 _ _ eq'
                  have sm0 := ht.2 rv (List.mem_of_getElem? er)
                  have sm := sm0.2.1
                  have hd2 : (ns ++ [n]).length = ns.length + 1 := by rw [List.length_append]; rfl
                  have call : ∀ (Hc : Hp) (t1 : Str) (Q2 : VK), Same H5 Hc → (t1.length : Int) ≤ room + ((2000 * d : Nat) : Int) + ((305 + 400 * i : Nat) : Int) → (∀ z H6, Same H5 H6 → z = lf S d (ns ++ [n]) (room - (t1.length : Nat)) rv.2 → ((t1 ++ z).length : Int) ≤ room + ((2000 * d : Nat) : Int) + ((1 + 400 * (i + 1) : Nat) : Int) → Q2 (.str z) H6) → spLForm w c d [.ref x.y, pr.2, .ref q, .int (room - (t1.length : Nat))] Hc Q2 E0 := fun Hc t1 Q2 sc h1 h2 => by
                    refine ⟨x, S, rv.2, ns ++ [n], rfl, hS.same (s25.trans sc), hsm, hrv.same (s25.trans sc), sm, sc _ _ eq5, by omega, by omega, by omega, fun H6 s6 => h2 _ H6 (sc.trans s6) rfl ?_⟩
                    rw [Str.length_append]
                    by_cases z : room - (t1.length : Nat) < 0
                    · rw [lf_neg z, show Str.length (Str.ofString "") = 0 from rfl]; omega
                    · have := lf_len hsm d (ns ++ [n]) (room - (t1.length : Nat)) rv.2 sm (by omega)
                      omega
                  have l3 : Str.length (Str.ofString ": ") = 2 := rfl
                  have exi' : atI (ts.map V.ref) ((i : Nat) : Int) = some (.ref tp) := atI_nat exi
                  have lpl := sm_plain sm0.1
                  have lkp : lplain S rv.1 = plainR rv.1 := by
                    have := sm0.2.2
                    cases e : rv.1 with
                    | ob n => exact absurd e (this n)
                    | _ => rfl
                  by_cases h0 : i = 0
                  · subst h0
                    rw [show decide ((0 : Nat) = 0) = true from rfl, if_pos rfl] at et5
                    repeat (first | walk_at "oxs" | simp only [e15])
                    rw [if_neg (by decide)]
                    refine ⟨_, rl_l el5, _, exi', _, rl_t htp5, _, rfl, ?_⟩
                    refine ⟨x, S, rv.1, rfl, hS.same s25, hsm, hrk.same s25, sm0.1, fun m _ e => absurd e (sm0.2.2 m), fun m _ e => absurd e (sm0.2.2 m), fun H6 s6 => ?_⟩
                    rw [lkp]
                    have lt3 : (told ++ plainR rv.1 ++ Str.ofString ": ").length = told.length + (plainR rv.1).length + 2 := by rw [Str.length_append, Str.length_append, l3]
                    refine ⟨by rw [sizeLine_eq]; omega, by rw [Str.length_append, l3, sizeLine_eq]; omega, _, rl_l (s6 _ _ el5), _, exi', ?_⟩
                    refine ⟨_, rl_t (s6 _ _ htp5), _, rfl, by rw [lt3, sizeLine_eq]; omega, call H6 (told ++ plainR rv.1 ++ Str.ofString ": ") _ s6 (by omega) (fun z H7 s7 ez hz => ?_)⟩
                    subst ez
                    refine ⟨?_, s5.trans s7, _, et5, hz, rfl, _, rfl⟩
                    rw [Str.length_append] at hz
                    rw [sizeLine_eq]
                    omega
                  · rw [show decide (i = 0) = false from decide_eq_false h0, if_neg (by decide)] at et5
                    have l2 : Str.length (Str.ofString ", ") = 2 := rfl
                    have lt : (told ++ Str.ofString ", ").length = told.length + 2 := by rw [Str.length_append, l2]
                    repeat (first | walk_at "oxs" | simp only [e15])
                    rw [if_pos (by omega)]
                    refine ⟨by rw [l2, sizeLine_eq]; omega, _, rl_l el5, _, exi', _, rl_t htp5, _, rfl, ?_⟩
                    refine ⟨x, S, rv.1, rfl, hS.same s25, hsm, hrk.same s25, sm0.1, fun m _ e => absurd e (sm0.2.2 m), fun m _ e => absurd e (sm0.2.2 m), fun H6 s6 => ?_⟩
                    rw [lkp]
                    have lt3 : ((told ++ Str.ofString ", ") ++ plainR rv.1 ++ Str.ofString ": ").length = told.length + 2 + (plainR rv.1).length + 2 := by rw [Str.length_append, Str.length_append, l3, lt]
                    refine ⟨by rw [lt, sizeLine_eq]; omega, by rw [Str.length_append, l3, lt, sizeLine_eq]; omega, _, rl_l (s6 _ _ el5), _, exi', ?_⟩
                    refine ⟨_, rl_t (s6 _ _ htp5), _, rfl, by rw [lt3, sizeLine_eq]; omega, call H6 ((told ++ Str.ofString ", ") ++ plainR rv.1 ++ Str.ofString ": ") _ s6 (by omega) (fun z H7 s7 ez hz => ?_)⟩
                    subst ez
                    refine ⟨?_, s5.trans s7, _, et5, hz, rfl, _, rfl⟩
                    rw [Str.length_append] at hz
                    rw [sizeLine_eq]
                    omega
                · rintro σ H5 ⟨s5, told, v8, et5, hl5, rfl⟩
                  refine hN _ _ ?_
                  clear hN N
                  rw [List.drop_eq_nil_of_le (by omega)] at et5
                  have et5 : told = lfPairs (lf S d (ns ++ [n])) room true rows "{" := et5
                  rw [← et5] at h
                  repeat (walk_at "oxs")
                  refine ⟨by rw [sizeLine_eq]; decide, 125, rfl, ?_, h H5 (s24.trans s5)⟩
                  rw [sizeLine_eq, show Str.length (⟨#[125]⟩ : Str) = 1 from rfl]
                  omega
          | _ =>
            obtain ⟨dx2, fs2, e2⟩ := hT.ins
            simp only [clsT] at e2
            repeat (first | walk_at "oxs" | simp only [e2])
            intro p H2 np s2 ep
            have e2' := s2 _ _ e2
            rw [lf_plain (by omega) (fun m rs q z => by cases q; rw [et] at z; cases z) (fun m rs q z => by cases q; rw [et] at z; cases z)] at h
            repeat (first | walk_at "oxs" | simp only [ep] | simp only [e2'])
            exact ⟨x, S, .ob n, rfl, hS.same s2, hsm, hv.same s2, ho, fun m rs q z => by (cases q; rw [et] at z; cases z), fun m rs q z => by (cases q; rw [et] at z; cases z), fun H3 s3 => h H3 (s2.trans s3)⟩
        · have hno : ∀ n, r ≠ .ob n := fun n e => hob ⟨n, e⟩
          rw [lf_plain (by omega) (fun n _ e => absurd e (hno n)) (fun n _ e => absurd e (hno n))] at h
          simp only [tSeq]
          refine cut_ fun N hN => ?_
          have fin : spLPlain w c [.ref x.y, v] H (fun v H1 => Q v H1) E0 := ⟨x, S, r, rfl, hS, hsm, hv, ho, fun n _ e => absurd e (hno n), fun n _ e => absurd e (hno n), h⟩
          cases r with
          | ob n => exact absurd rfl (hno n)
          | bt z =>
            obtain ⟨a, rfl, dx, e1⟩ := id hv
            repeat (first | walk_at "oxs" | simp only [e1])
            exact fin
          | _ =>
            cases hv
            repeat (walk_at "oxs")
            exact fin
    · cases h
end

section
variable {P : Program} {w : World} {K : PySem.W.Frag} {mg : Str → Option Value} {base : Heap} {c : Cs}
theorem ok_lform0 (A : At K mg "_law_form" "_law_form" s_law_form ["store", "value", "around", "room"]) : Has P w K mg base CX0 "_law_form" (0 + 5) ["store", "value", "around", "room"] (spLForm w c 0) := by
  have Sc := sc_law_form
  have no : ∀ vs H Q E, ¬ spLForm w c 0 vs H Q E := fun vs H Q E h => by
    unfold spLForm at h
    split at h
    · obtain ⟨_, _, _, ns, _, _, _, _, _, _, ha, hd, _⟩ := h
      omega
    · exact h
  exact has_of A Sc (fun vs H Q E h => (no _ _ _ _ h).elim) (fun cdv f A outer s H vs Q E hr h => (no _ _ _ _ h).elim)
theorem ok_lformAll (A : At K mg "_law_form" "_law_form" s_law_form ["store", "value", "around", "room"]) (T : Txt K mg c) (H_law_plain : Has P w K mg base CX0 "_law_plain" 2 ["store", "value"] (spLPlain w c)) (M_Table_pairs : HasM P w K mg base CX0 c.Table "pairs" 1 ["self"] (spPairs w c)) : Has P w K mg base CX0 "_law_form" 16 ["store", "value", "around", "room"] (spLForm w c 11) := by
  have all : ∀ d, Has P w K mg base CX0 "_law_form" (d + 5) ["store", "value", "around", "room"] (spLForm w c d) := fun d => by
    induction d with
    | zero => exact ok_lform0 A
    | succ d ih => exact ok_lform1 A T H_law_plain M_Table_pairs ih
  exact all 11
end

section
variable {P : Program} {w : World} {K : PySem.W.Frag} {mg : Str → Option Value} {base : Heap} {c : Cs}
/-! ### the law's own values -/
structure SmV (many : Nat) (r : RV) : Prop where
  wf : ∀ n, r = .ob n → n < many
  tx : ∀ z, r = .txt z → z.length ≤ 6
  nm : ∀ n, r = .num n → n.natAbs.log2 < 200
theorem SmV.nul {m : Nat} : SmV m .nul := ⟨fun _ e => (by cases e), fun _ e => (by cases e), fun _ e => (by cases e)⟩
theorem SmV.boo {m : Nat} {b : Bool} : SmV m (.boo b) := ⟨fun _ e => (by cases e), fun _ e => (by cases e), fun _ e => (by cases e)⟩
theorem SmV.bt {m : Nat} {z : Str} : SmV m (.bt z) := ⟨fun _ e => (by cases e), fun _ e => (by cases e), fun _ e => (by cases e)⟩
theorem SmV.num {m : Nat} {n : Int} (h : n.natAbs.log2 < 200) : SmV m (.num n) := ⟨fun _ e => (by cases e), fun _ e => (by cases e), fun _ e => by cases e; exact h⟩
theorem SmV.txt {m : Nat} {z : Str} (h : z.length ≤ 6) : SmV m (.txt z) := ⟨fun _ e => (by cases e), fun _ e => by cases e; exact h, fun _ e => (by cases e)⟩
theorem SmV.ob {m n : Nat} (h : n < m) : SmV m (.ob n) := ⟨fun _ e => by cases e; exact h, fun _ e => (by cases e), fun _ e => (by cases e)⟩
def spLVal (K : PySem.W.Frag) (c : Cs) : Sp := fun vs H Q _ => match vs with
  | [.ref s, .int m] => ∃ H0 sc ns many, m = ((many : Nat) : Int) ∧ 0 < many ∧ many ≤ 1000 ∧ Dr K H0 s sc ns H ∧ ∀ H1 v r, Keep [s] H H1 → Dr K H0 s sc ns H1 → IsVal c H1 v r → SmV many r → Q v H1
  | _ => False
theorem Dr.ne {H0 H : Hp} {s sc q : Addr} {ns : List Int} (D : Dr K H0 s sc ns H) (n : H q = none) : q ≠ s := fun z => by
  obtain ⟨a, k, e, _⟩ := D.st
  rw [z, e] at n; cases n
theorem ok_lval (A : At K mg "_law_value" "_law_value" s_law_value ["state", "many"]) (T : Txt K mg c) (H_law_draw : Has P w K mg base CX0 "_law_draw" 2 ["state", "many"] (spDraw K)) (H_law_pick : Has P w K mg base CX0 "_law_pick" 3 ["state", "row"] (spPick2 K)) (M_Builtin : HasC P w K mg base CX0 c.Builtin "Builtin" 1 ["self", "name"] (spMk_Builtin K c)) (M_Ref : HasC P w K mg base CX0 c.Ref "Ref" 1 ["self", "number"] (spMk_Ref K c)) : Has P w K mg base CX0 "_law_value" 4 ["state", "many"] (spLVal K c) := by
  have Sc := sc_law_value
  refine has_of A Sc (fun vs H Q E h => ?_) (fun cdv f A outer s H vs Q E hr h => ?_)
  · unfold spLVal at h; split at h; rfl; cases h
  · unfold spLVal at h
    split at h
    · rename_i st m
      obtain ⟨H0, sc, ns, many, rfl, hm0, hm1, D, h⟩ := h
      refine ⟨_, (pss_cons (ps_set (i := 2) Sc.nd rfl (.inl rfl) (fe_call H_law_draw (hr.mono (by walk_at "rm")) (by rfl) pass0 (pa_cons (fe_var 0) (pa_cons pe_int pa_nil))))
      (pss_cons (ps_if (pt_cmpR (op_fEq hr.units) (fe_var 2) pe_int (nomark _)) (pss_one (ps_ret (fe_call H_law_pick (hr.mono (by walk_at "rm")) (by rfl) pass0 (pa_cons (fe_var 0) (pa_cons (fe_tup (pa_cons pe_non (pa_cons pe_bl (pa_cons pe_bl pa_nil)))) pa_nil))))) pss_nil)
      (pss_cons (ps_if (pt_cmpR (op_fEq hr.units) (fe_var 2) pe_int (nomark _)) (pss_one (ps_ret (fe_call H_law_pick (hr.mono (by walk_at "rm")) (by rfl) pass0 (pa_cons (fe_var 0) (pa_cons (fe_tup (pa_cons pe_int (pa_cons (pe_un un_fNeg pe_int) (pa_cons pe_int (pa_cons (pe_un un_fNeg pe_int) (pa_cons (pe_op op_fPow pe_int pe_int) pa_nil)))))) pa_nil))))) pss_nil)
      (pss_cons (ps_if (pt_cmpR op_fLt (fe_var 2) pe_int (nomark _)) (pss_cons (ps_set (i := 3) Sc.nd rfl (.inl rfl) pe_str)
      (pss_cons (ps_set (i := 4) Sc.nd rfl (.inl rfl) pe_str)
      (pss_cons (ps_for PassesOwn.never rfl (pi_range1 (by rfl) T.no_range (pa_cons (fe_call H_law_draw (hr.mono (by walk_at "rm")) (by rfl) pass0 (pa_cons (fe_var 0) (pa_cons pe_int pa_nil))) pa_nil)) (pg_name (i := 5) Sc.nd rfl (.inl rfl)) (pss_one (ps_set (i := 4) Sc.nd rfl (.inl rfl) (pe_op op_fAdd (fe_var 4) (pe_ix ix_fx (fe_var 3) (fe_call H_law_draw (hr.mono (by walk_at "rm")) (by rfl) pass0 (pa_cons (fe_var 0) (pa_cons (pe_callB call_fLen (by rfl) T.no_len (by decide +kernel) (pa_cons (fe_var 3) pa_nil)) pa_nil))) (fun _ _ => rfl))))))
      (pss_one (ps_ret (fe_var 4)))))) pss_nil)
      (pss_cons (ps_if (pt_cmpR (op_fEq hr.units) (fe_var 2) pe_int (nomark _)) (pss_one (ps_ret (fe_make (k := _) M_Builtin (hr.mono (by walk_at "rm")) (by rfl) pass0 (pa_cons pe_str pa_nil)))) pss_nil)
      (pss_one (ps_ret (fe_make (k := _) M_Ref (hr.mono (by walk_at "rm")) (by rfl) pass0 (pa_cons (fe_call H_law_draw (hr.mono (by walk_at "rm")) (by rfl) pass0 (pa_cons (fe_var 0) (pa_cons (fe_var 1) pa_nil))) pa_nil))))))))), ?_⟩
      walk_at "fx0"
      simp only [tSeq]
      refine cut_ fun N hN => ?_
      repeat (walk_at "oxs")
      refine ⟨H0, sc, ns, D, by omega, by omega, fun H1 d k1 D1 d0 d1 => hN _ _ ?_⟩
      clear hN N
      simp only [tSeq]
      refine cut_ fun N hN => ?_
      repeat (walk_at "oxs")
      split
      · intro p H2 np s2 ep
        have nps := D1.ne np
        refine ⟨H0, sc, ns, _, D1.same s2, fun H3 k3 => rl_t (k3 _ _ (by simpa using nps) ep), by simp, by simp, fun H3 v k3 D3 hv => ?_⟩
        have k0 : Keep [st] H H3 := (k1.trans (Keep.of s2)).trans k3
        simp only [List.mem_cons, List.not_mem_nil, or_false] at hv
        rcases hv with rfl | rfl | rfl
        · exact h H3 _ .nul k0 D3 rfl .nul
        · exact h H3 _ (.boo true) k0 D3 rfl .boo
        · exact h H3 _ (.boo false) k0 D3 rfl .boo
      · refine hN _ _ ?_
        clear hN N
        simp only [tSeq]
        refine cut_ fun N hN => ?_
        repeat (walk_at "oxs")
        split
        · refine ⟨by decide, ?_⟩
          intro p H2 np s2 ep
          have nps := D1.ne np
          refine ⟨H0, sc, ns, _, D1.same s2, fun H3 k3 => rl_t (k3 _ _ (by simpa using nps) ep), by simp, by simp, fun H3 v k3 D3 hv => ?_⟩
          have k0 : Keep [st] H H3 := (k1.trans (Keep.of s2)).trans k3
          simp only [List.mem_cons, List.not_mem_nil, or_false] at hv
          rcases hv with rfl | rfl | rfl | rfl | rfl
          · exact h H3 _ (.num 0) k0 D3 rfl (.num (by decide))
          · exact h H3 _ (.num (-1)) k0 D3 rfl (.num (by decide))
          · exact h H3 _ (.num 12) k0 D3 rfl (.num (by decide))
          · exact h H3 _ (.num (-345)) k0 D3 rfl (.num (by decide))
          · exact h H3 _ (.num _) k0 D3 rfl (.num (by decide +kernel))
        · refine hN _ _ ?_
          clear hN N
          simp only [tSeq]
          refine cut_ fun N hN => ?_
          repeat (walk_at "oxs")
          split
          · refine for_ ?_
            repeat (walk_at "oxs")
            refine ⟨H0, sc, ns, D1, by omega, by omega, fun H2 d2 k2 D2 e0 e1 => ?_⟩
            repeat (walk_at "oxs")
            refine ⟨by omega, by omega, ?_⟩
            refine loop_range (fun i σ H' => Keep [st] H H' ∧ Dr K H0 st sc ns H' ∧ ∃ (z : Str) (v5 : Option V), z.length = i ∧ σ = [some (.ref st), some (.int ((many : Nat) : Int)), some (.int d), some (.str (Str.ofString "ab\"\\\n 'n{}[]")), some (.str z), v5]) ⟨k1.trans k2, D2, Str.ofString "", none, rfl, rfl⟩ ?_ ?_
            · rintro i σ H3 hi ⟨k3, D3, z, v5, hz, rfl⟩
              repeat (walk_at "oxs")
              have el : Str.length (Str.ofString "ab\"\\\n 'n{}[]") = 12 := rfl
              refine ⟨by rw [el, sizeLine_eq]; decide, ?_⟩
              refine ⟨H0, sc, ns, D3, by rw [el]; decide, by rw [el]; decide, fun H4 d4 k4 D4 f0 f1 => ?_⟩
              rw [el] at f1
              obtain ⟨n, rfl⟩ := Int.eq_ofNat_of_zero_le f0
              have ec : (Str.ofString "ab\"\\\n 'n{}[]").cps.toList[n]? = some (Str.ofString "ab\"\\\n 'n{}[]").cps.toList[n]! := by
                rw [List.getElem!_eq_getElem?_getD, List.getElem?_eq_getElem (by show n < 12; omega)]; rfl
              generalize (Str.ofString "ab\"\\\n 'n{}[]").cps.toList[n]! = ch at ec
              have l1 : ∀ ch : Nat, Str.length (⟨#[ch]⟩ : Str) = 1 := fun _ => rfl
              dsimp only
              refine ⟨by rw [el, sizeLine_eq]; decide, ch, atI_nat ec, by rw [l1, sizeLine_eq]; omega, k3.trans k4, D4, _, ?_, rfl, _, rfl⟩
              rw [Str.length_append, l1]; omega
            · rintro σ H3 ⟨k3, D3, z, v5, hz, rfl⟩
              repeat (walk_at "oxs")
              exact h H3 _ (.txt z) k3 D3 rfl (.txt (by omega))
          · refine hN _ _ ?_
            clear hN N
            simp only [tSeq]
            refine cut_ fun N hN => ?_
            repeat (walk_at "oxs")
            split
            · unfold spMk_Builtin
              intro b bdx H2 nb s2 eb
              exact h H2 _ (.bt "len") (k1.trans (Keep.of s2)) (D1.same s2) ⟨b, rfl, bdx, eb⟩ .bt
            · refine hN _ _ ?_
              clear hN N
              repeat (walk_at "oxs")
              refine ⟨H0, sc, ns, D1, by omega, by omega, fun H2 d2 k2 D2 e0 e1 => ?_⟩
              unfold spMk_Ref
              intro b bdx H3 nb s3 eb
              obtain ⟨n, rfl⟩ := Int.eq_ofNat_of_zero_le e0
              exact h H3 _ (.ob n) ((k1.trans k2).trans (Keep.of s3)) (D2.same s3) ⟨b, rfl, bdx, eb⟩ (.ob (by omega))
    · cases h
end

section
variable {P : Program} {w : World} {K : PySem.W.Frag} {mg : Str → Option Value} {base : Heap} {c : Cs}
/-! ### the store is filled -/
def spEqRef (c : Cs) : Sp := fun vs H Q _ => match vs with
  | [.ref a, .ref b] => ∃ n m, IsRef c H a n ∧ IsRef c H b m ∧ Q (.bl (decide (n = m))) H
  | _ => False
theorem ok_eqRef (A : AtM K c.Ref "__eq__" "Ref.__eq__" s_Ref___eq__ ["self", "other"]) (T : Txt K mg c) : HasM P w K mg base CX0 c.Ref "__eq__" 1 ["self", "other"] (spEqRef c) := by
  have Sc := sc_Ref___eq__
  refine hasM_of A Sc (fun vs H Q E h => ?_) (fun cdv f A outer s H vs Q E hr h => ?_)
  · unfold spEqRef at h; split at h; rfl; cases h
  · unfold spEqRef at h
    split at h
    · obtain ⟨n, m, ⟨dx, e1⟩, ⟨dy, e2⟩, k⟩ := h
      refine ⟨_, (pss_one (ps_ret (pe_and (pe_callB (call_fIsiO T.kit) (by rfl) T.no_isinstance (by decide +kernel) (pa_cons (fe_var 1) (pa_cons (pe_glob (v := .ref c.Ref) (by rfl) T.mg_Ref rfl) pa_nil))) (pe_one (pe_cmpR (op_fEq hr.units) (fe_fld (fe_var 0) T.pl_number rfl) (fe_fld (fe_var 1) T.pl_number rfl) (nomark _)))))), ?_⟩
      walk_at "fx0"
      repeat (first | walk_at "oxs" | simp only [e2] | simp only [e1])
      exact k
    · cases h
def spEqBt : Sp := fun _ _ _ _ => False
theorem ok_eqBt (A : AtM K c.Builtin "__eq__" "Builtin.__eq__" s_Builtin___eq__ ["self", "other"]) (T : Txt K mg c) : HasM P w K mg base CX0 c.Builtin "__eq__" 1 ["self", "other"] spEqBt := by
  have Sc := sc_Builtin___eq__
  exact hasM_of A Sc (fun vs H Q E h => h.elim) (fun cdv f A outer s H vs Q E hr h => h.elim)
def FT (many b : Nat) : Th → Prop
  | .parts rs => rs.length ≤ b ∧ ∀ r ∈ rs, SmV many r
  | .table rows => rows.length ≤ b ∧ ∀ r ∈ rows, SmV many r.1 ∧ SmV many r.2 ∧ ∀ n, r.1 ≠ .ob n
  | .inst o _ => o = 0
  | .kin n _ _ => n.length ≤ 10
  | _ => True
structure FS (S : SV) (many len : Nat) (B : Nat → Nat) : Prop where
  le : S.things.length = len
  e0 : ∃ p ms, S.things[0]? = some (.kin "Error" p ms)
  th : ∀ n t, S.things[n]? = some t → FT many (B n) t
theorem FT.le {many b b' : Nat} {t : Th} (h : FT many b t) (l : b ≤ b') : FT many b' t := by
  cases t <;> first | exact h | exact ⟨Nat.le_trans h.1 l, h.2⟩
theorem FS.to {S : SV} {many len : Nat} {B B' : Nat → Nat} (h : FS S many len B) (l : ∀ n, B n ≤ B' n) : FS S many len B' := ⟨h.le, h.e0, fun n t e => (h.th n t e).le (l n)⟩
theorem FS.add {S : SV} {many len : Nat} {B : Nat → Nat} {t : Th} (h : FS S many len B) (ht : FT many (B len) t) : FS (S.add t) many (len + 1) B := by
  have hl := h.le
  refine ⟨by show (S.things ++ [t]).length = _; rw [List.length_append, hl]; rfl, ?_, fun n u e => ?_⟩
  · obtain ⟨p, ms, e⟩ := h.e0
    obtain ⟨hi, _⟩ := List.getElem?_eq_some_iff.mp e
    exact ⟨p, ms, by show (S.things ++ [t])[0]? = _; rw [List.getElem?_append_left hi]; exact e⟩
  · have e : (S.things ++ [t])[n]? = some u := e
    by_cases hn : n < S.things.length
    · rw [List.getElem?_append_left hn] at e
      exact h.th n u e
    · rw [List.getElem?_append_right (by omega)] at e
      have z : n - S.things.length = 0 := by
        by_cases q : n - S.things.length = 0
        · exact q
        · rw [List.getElem?_eq_none (by show 1 ≤ _; omega)] at e; cases e
      rw [z] at e
      cases e
      rw [show n = len by omega]
      exact ht
theorem FS.set {S : SV} {many len n : Nat} {B B' : Nat → Nat} {t : Th} (h : FS S many len B) (hn : n ≠ 0) (ht : FT many (B' n) t) (hb : ∀ m, m ≠ n → B m = B' m) : FS (S.setT n t) many len B' := by
  refine ⟨by show (S.things.set n t).length = _; rw [List.length_set]; exact h.le, ?_, fun m u e => ?_⟩
  · obtain ⟨p, ms, e⟩ := h.e0
    exact ⟨p, ms, by show (S.things.set n t)[0]? = _; rw [List.getElem?_set_ne hn]; exact e⟩
  · have e : (S.things.set n t)[m]? = some u := e
    by_cases q : n = m
    · subst q
      rw [List.getElem?_set] at e
      rw [if_pos rfl] at e
      split at e
      · cases e; exact ht
      · cases e
    · rw [List.getElem?_set_ne q] at e
      rw [← hb m (Ne.symm q)]
      exact h.th m u e
theorem SmV.sm {S : SV} {many : Nat} {r : RV} (h : SmV many r) (l : S.things.length = many) : SmR S r := ⟨fun n e => by have := h.wf n e; omega, h.tx, h.nm⟩
theorem FS.sm {S : SV} {many : Nat} {B : Nat → Nat} (h : FS S many many B) (hb : ∀ n, B n ≤ 4) : SmS S := fun n t e => by
  have ht := (h.th n t e).le (hb n)
  cases t with
  | parts rs => exact ⟨ht.1, fun r m => (ht.2 r m).sm h.le⟩
  | table rows => exact ⟨ht.1, fun r m => ⟨(ht.2 r m).1.sm h.le, (ht.2 r m).2.1.sm h.le, (ht.2 r m).2.2⟩⟩
  | inst o fs =>
    have ht : o = 0 := ht
    subst ht
    exact h.e0
  | kin n p ms => exact ht
  | _ => trivial
theorem fs0 {many : Nat} {B : Nat → Nat} : FS (st0 []) many 1 B := ⟨rfl, ⟨_, _, rfl⟩, fun n t e => by
  cases n with
  | zero => cases e; exact (by decide : Str.length (Str.ofString "Error") ≤ 10)
  | succ n => cases e⟩
theorem put_rows {F : V × V → RV × RV → Prop} {k v : V} {kr vr : RV} (hkv : F (k, v) (kr, vr)) : ∀ {rws : List (V × V)} {rows : List (RV × RV)}, Paired F rws rows → ∃ rows', Paired F (putR rws k v) rows' ∧ rows'.length ≤ rows.length + 1 ∧ ∀ r ∈ rows', r ∈ rows ∨ r = (kr, vr) := by
  intro rws rows h
  unfold putR
  split
  · have go : ∀ {rws : List (V × V)} {rows : List (RV × RV)}, Paired F rws rows → ∃ rows', Paired F (rws.map fun r => if r.1 = k then (k, v) else r) rows' ∧ rows'.length = rows.length ∧ ∀ r ∈ rows', r ∈ rows ∨ r = (kr, vr) := by
      intro rws rows h
      induction h with
      | nil => exact ⟨[], .nil, rfl, fun r m => by cases m⟩
      | @cons a b as bs r t ih =>
        obtain ⟨rs, h1, h2, h3⟩ := ih
        by_cases q : a.1 = k
        · refine ⟨(kr, vr) :: rs, .cons (by show F (if a.1 = k then (k, v) else a) (kr, vr); rw [if_pos q]; exact hkv) h1, by rw [List.length_cons, h2]; rfl, fun z m => ?_⟩
          rcases List.mem_cons.mp m with rfl | m
          · exact .inr rfl
          · exact (h3 z m).imp (fun g => List.mem_cons_of_mem _ g) id
        · refine ⟨b :: rs, .cons (by show F (if a.1 = k then (k, v) else a) b; rw [if_neg q]; exact r) h1, by rw [List.length_cons, h2]; rfl, fun z m => ?_⟩
          rcases List.mem_cons.mp m with rfl | m
          · exact .inl (List.mem_cons_self ..)
          · exact (h3 z m).imp (fun g => List.mem_cons_of_mem _ g) id
    obtain ⟨rs, h1, h2, h3⟩ := go h
    exact ⟨rs, h1, by omega, h3⟩
  · refine ⟨rows ++ [(kr, vr)], Paired.snoc h hkv, by rw [List.length_append]; exact Nat.le_refl _, fun r m => ?_⟩
    rcases List.mem_append.mp m with m | m
    · exact .inl m
    · exact .inr (List.mem_singleton.mp m)
theorem eqO_ref {H : Hp} {r r2 : Addr} {n m : Int} {Q : VK} (h1 : IsRef c H r n) (h2 : IsRef c H r2 m) (q : Q (.bl (decide (n = m))) H) : fEqO c.Ref (spEqRef c) E0 (.ref r) (.ref r2) H Q := by
  obtain ⟨d1, e1⟩ := id h1
  obtain ⟨d2, e2⟩ := id h2
  refine ⟨by rw [e1], by rw [e2], n, m, h1, h2, q⟩
def NoG : Hp → Prop := fun _ => True
def spFill (K : PySem.W.Frag) (w : World) (c : Cs) : Sp := fun vs H Q _ => match vs with
  | [.ref y, .ref s, .int m] => ∃ H0 sc ns x many, y = x.y ∧ m = ((many : Nat) : Int) ∧ 2 ≤ many ∧ many ≤ 14 ∧ Wd K w c H0 s sc ns x (st0 []) NoG [] H ∧ ∀ H1 x' S', Wd K w c H0 s sc ns x' S' NoG [] H1 → x'.y = x.y → S'.things.length = many → SmS S' → Q (.bl true) H1
  | _ => False
def Fill1 (K : PySem.W.Frag) (w : World) (c : Cs) (H0 : Hp) (s sc : Addr) (ns : List Int) (y : Addr) (many : Nat) (i : Nat) (σ : L2.St) (H : Hp) : Prop := ∃ x S v3 v4 v5, σ = [some (.ref y), some (.ref s), some (.int ((many : Nat) : Int)), v3, v4, v5, none] ∧ x.y = y ∧ Wd K w c H0 s sc ns x S NoG [] H ∧ FS S many (1 + i) (fun _ => 0)
def Fill2 (K : PySem.W.Frag) (w : World) (c : Cs) (H0 : Hp) (s sc : Addr) (ns : List Int) (y : Addr) (many : Nat) (i : Nat) (σ : L2.St) (H : Hp) : Prop := ∃ x S v3 v4 v5 v6, σ = [some (.ref y), some (.ref s), some (.int ((many : Nat) : Int)), v3, v4, v5, v6] ∧ x.y = y ∧ Wd K w c H0 s sc ns x S NoG [] H ∧ FS S many many (fun n => if n < 1 + i then 4 else 0)
def Fill3 (K : PySem.W.Frag) (w : World) (c : Cs) (H0 : Hp) (s sc : Addr) (ns : List Int) (y : Addr) (many i : Nat) (a : Addr) (v4 : Option V) (j : Nat) (σ : L2.St) (H : Hp) : Prop := ∃ x S b v6, σ = [some (.ref y), some (.ref s), some (.int ((many : Nat) : Int)), some (.int (1 + (i : Nat))), v4, some (.ref a), v6] ∧ x.y = y ∧ x.L[1 + i]? = some (a, b) ∧ Wd K w c H0 s sc ns x S NoG [] H ∧ FS S many many (fun n => if n < 1 + i then 4 else if n = 1 + i then j else 0)
set_option maxHeartbeats 8000000 in
theorem ok_fill (A : At K mg "_law_fill" "_law_fill" s_law_fill ["store", "state", "many"]) (T : Txt K mg c) (H_law_draw : Has P w K mg base CX0 "_law_draw" 2 ["state", "many"] (spDraw K)) (H_law_pick : Has P w K mg base CX0 "_law_pick" 3 ["state", "row"] (spPick2 K)) (H_law_value : Has P w K mg base CX0 "_law_value" 4 ["state", "many"] (spLVal K c)) (M_Ref : HasC P w K mg base CX0 c.Ref "Ref" 1 ["self", "number"] (spMk_Ref K c)) (M_Parts : HasC P w K mg base CX0 c.Parts "Parts" 1 ["self", "held"] (spMk_Parts K c)) (M_Table : HasC P w K mg base CX0 c.Table "Table" 1 ["self"] (spMkTab w c)) (M_Instance : HasC P w K mg base CX0 c.Instance "Instance" 1 ["self", "owner"] (spMk_Instance K c)) (M_Closure : HasC P w K mg base CX0 c.Closure "Closure" 1 ["self", "number", "wanted", "scope"] (spMk_Closure K c)) (M_Bound : HasC P w K mg base CX0 c.Bound "Bound" 1 ["self", "owner", "function"] (spMk_Bound K c)) (M_Cursor : HasC P w K mg base CX0 c.Cursor "Cursor" 1 ["self", "rest"] (spMk_Cursor K c)) (M_Kin : HasC P w K mg base CX0 c.Kin "Kin" 1 ["self", "name", "parent"] (spMk_Kin K c)) (M_Store_make : HasM P w K mg base CX0 c.Store "make" 3 ["self", "thing"] (spMake w c)) (M_Table_put : HasM P w K mg base CX0 c.Table "put" 2 ["self", "key", "value"] (spPut w c)) (M_Ref___eq__ : HasM P w K mg base CX0 c.Ref "__eq__" 1 ["self", "other"] (spEqRef c)) (M_Builtin___eq__ : HasM P w K mg base CX0 c.Builtin "__eq__" 1 ["self", "other"] spEqBt) : Has P w K mg base CX0 "_law_fill" 5 ["store", "state", "many"] (spFill K w c) := by
  have Sc := sc_law_fill
  refine has_of A Sc (fun vs H Q E h => ?_) (fun cdv f A outer s H vs Q E hr h => ?_)
  · unfold spFill at h; split at h; rfl; cases h
  · unfold spFill at h
    split at h
    · rename_i y st m
      obtain ⟨H0, sc, ns, x0, many, rfl, rfl, hm0, hm1, W0, h⟩ := h
      refine ⟨_, (pss_cons (ps_for PassesOwn.never rfl (pi_range2 (by rfl) T.no_range (pa_cons pe_int (pa_cons (fe_var 2) pa_nil))) (pg_name (i := 3) Sc.nd rfl (.inl rfl)) (pss_cons (ps_set (i := 4) Sc.nd rfl (.inl rfl) (fe_call H_law_draw (hr.mono (by walk_at "rm")) (by rfl) pass0 (pa_cons (fe_var 1) (pa_cons pe_int pa_nil))))
      (pss_cons (ps_set (i := 5) Sc.nd rfl (.inl rfl) (fe_make (k := _) M_Parts (hr.mono (by walk_at "rm")) (by rfl) pass0 (pa_cons (fe_lst pa_nil) pa_nil)))
      (pss_cons (ps_if (pt_cmpR op_fIn (fe_var 4) (fe_tup (pa_cons pe_int (pa_cons pe_int pa_nil))) (by with_unfolding_all rfl)) (pss_one (ps_set (i := 5) Sc.nd rfl (.inl rfl) (fe_make0 M_Table (hr.mono (by walk_at "rm")) (by rfl) pass0))) (pss_one (ps_if (pt_cmpR (op_fEq hr.units) (fe_var 4) pe_int (nomark _)) (pss_one (ps_set (i := 5) Sc.nd rfl (.inl rfl) (fe_make (k := _) M_Instance (hr.mono (by walk_at "rm")) (by rfl) pass0 (pa_cons (fe_make (k := _) M_Ref (hr.mono (by walk_at "rm")) (by rfl) pass0 (pa_cons pe_int pa_nil)) pa_nil)))) (pss_one (ps_if (pt_cmpR (op_fEq hr.units) (fe_var 4) pe_int (nomark _)) (pss_one (ps_set (i := 5) Sc.nd rfl (.inl rfl) (fe_call H_law_pick (hr.mono (by walk_at "rm")) (by rfl) pass0 (pa_cons (fe_var 1) (pa_cons (fe_tup (pa_cons (fe_make (k := _) M_Closure (hr.mono (by walk_at "rm")) (by rfl) pass0 (pa_cons pe_int (pa_cons pe_int (pa_cons (fe_tup pa_nil) pa_nil)))) (pa_cons (fe_make (k := _) M_Bound (hr.mono (by walk_at "rm")) (by rfl) pass0 (pa_cons (fe_make (k := _) M_Ref (hr.mono (by walk_at "rm")) (by rfl) pass0 (pa_cons pe_int pa_nil)) (pa_cons (fe_make (k := _) M_Ref (hr.mono (by walk_at "rm")) (by rfl) pass0 (pa_cons pe_int pa_nil)) pa_nil))) (pa_cons (fe_make (k := _) M_Cursor (hr.mono (by walk_at "rm")) (by rfl) pass0 (pa_cons (fe_lst (pa_cons pe_int pa_nil)) pa_nil)) pa_nil)))) pa_nil))))) (pss_one (ps_if (pt_cmpR (op_fEq hr.units) (fe_var 4) pe_int (nomark _)) (pss_one (ps_set (i := 5) Sc.nd rfl (.inl rfl) (fe_make (k := _) M_Kin (hr.mono (by walk_at "rm")) (by rfl) pass0 (pa_cons (pe_op op_fMul pe_str (pe_op op_fAdd pe_int (fe_call H_law_draw (hr.mono (by walk_at "rm")) (by rfl) pass0 (pa_cons (fe_var 1) (pa_cons pe_int pa_nil))))) (pa_cons pe_non pa_nil))))) pss_nil)))))))
      (pss_one (ps_if (pt_not (pt_cmpR (op_fOr (op_fEqO M_Ref___eq__ (hr.mono (by walk_at "rm")) pass0) (op_fOr (op_fEqO M_Builtin___eq__ (hr.mono (by walk_at "rm")) pass0) (op_fEq hr.units))) (fe_meth M_Store_make T.cl_Store (hr.mono (by walk_at "rm")) pass0 (fe_var 0) (pa_cons (fe_var 5) pa_nil)) (fe_make (k := _) M_Ref (hr.mono (by walk_at "rm")) (by rfl) pass0 (pa_cons (fe_var 3) pa_nil)) (nomark _))) (pss_one (ps_ret pe_bl)) pss_nil))))))
      (pss_cons (ps_for PassesOwn.never rfl (pi_range2 (by rfl) T.no_range (pa_cons pe_int (pa_cons (fe_var 2) pa_nil))) (pg_name (i := 3) Sc.nd rfl (.inl rfl)) (pss_cons (ps_set (i := 5) Sc.nd rfl (.inl rfl) (pe_ix ix_fx (fe_fld (fe_var 0) T.pl_things rfl) (fe_var 3) (fun _ _ => rfl)))
      (pss_one (ps_for PassesOwn.never rfl (pi_range1 (by rfl) T.no_range (pa_cons (fe_call H_law_draw (hr.mono (by walk_at "rm")) (by rfl) pass0 (pa_cons (fe_var 1) (pa_cons pe_int pa_nil))) pa_nil)) (pg_name (i := 6) Sc.nd rfl (.inl rfl)) (pss_one (ps_if (pt_val (pe_callB (call_fIsiO T.kit) (by rfl) T.no_isinstance (by decide +kernel) (pa_cons (fe_var 5) (pa_cons (pe_glob (v := .ref c.Parts) (by rfl) T.mg_Parts rfl) pa_nil)))) (pss_one (ps_expr (fe_bm PySem.F.plainAttrs_list PySem.F.slot_list_append PySem.F.type_list_append isLst_ty mt_fAppend (fe_fld (fe_var 5) T.pl_held rfl) (pa_cons (fe_call H_law_value (hr.mono (by walk_at "rm")) (by rfl) pass0 (pa_cons (fe_var 1) (pa_cons (fe_var 2) pa_nil))) pa_nil)))) (pss_one (ps_if (pt_val (pe_callB (call_fIsiO T.kit) (by rfl) T.no_isinstance (by decide +kernel) (pa_cons (fe_var 5) (pa_cons (pe_glob (v := .ref c.Table) (by rfl) T.mg_Table rfl) pa_nil)))) (pss_one (ps_expr (fe_meth M_Table_put T.cl_Table (hr.mono (by walk_at "rm")) pass0 (fe_var 5) (pa_cons (fe_call H_law_pick (hr.mono (by walk_at "rm")) (by rfl) pass0 (pa_cons (fe_var 1) (pa_cons (fe_tup (pa_cons pe_non (pa_cons pe_bl (pa_cons pe_int (pa_cons pe_int (pa_cons pe_str (pa_cons pe_str pa_nil))))))) pa_nil))) (pa_cons (fe_call H_law_value (hr.mono (by walk_at "rm")) (by rfl) pass0 (pa_cons (fe_var 1) (pa_cons (fe_var 2) pa_nil))) pa_nil))))) pss_nil))))))))
      (pss_one (ps_ret pe_bl)))), ?_⟩
      walk_at "fx0"
      simp only [tSeq]
      refine cut_ fun N hN => for_ ?_
      repeat (walk_at "oxs")
      refine ⟨⟨by omega, by omega, by omega, by omega⟩, ?_⟩
      refine loop_range (Fill1 K w c H0 st sc ns x0.y many) ⟨x0, _, _, _, _, rfl, rfl, W0, fs0⟩ ?_ ?_
      · rintro i σ H1 hi ⟨x, S, v3, v4, v5, rfl, ey, W1, F1⟩
        simp only [gName, List.set_cons_succ, List.set_cons_zero]
        simp only [tSeq]
        refine cut_ fun N1 hN1 => ?_
        repeat (walk_at "oxs")
        refine ⟨H0, sc, ns, W1.dr, by omega, by omega, fun H2 d k2 D2 d0 d1 => hN1 _ _ ?_⟩
        clear hN1 N1
        have W2 := W1.draw k2 D2
        have lS := F1.le
        simp only [tSeq]
        refine cut_ fun N1 hN1 => ?_
        repeat (walk_at "oxs")
        intro l0 H3 nl0 s3 el0
        refine ⟨[], rl_l el0, fun a0 adx p0 H4 na s4 ea np ep ne0 => hN1 _ _ ?_⟩
        clear hN1 N1
        have s24 := s3.trans s4
        have W4 := W2.same s24
        have na2 := s3.free na
        have np2 := s3.free np
        simp only [tSeq]
        refine cut_ fun N1 hN1 => ?_
        have fin : ∀ a b t H5, Wd K w c H0 st sc ns x S NoG [] H5 → ThAt w c H5 a b t → FT many 0 t → (footT a b).Nodup → (∀ q ∈ footT a b, H2 q = none) → N1 [some (.ref x0.y), some (.ref st), some (.int ((many : Nat) : Int)), some (.int (1 + (i : Nat))), some (.int d), some (.ref a), none] H5 := fun a b t H5 W5 hT hft hnd hfr => by
          refine hN1 _ _ ?_
          clear hN1 N1
          obtain ⟨dx5, ey5⟩ := W5.st.st
          rw [ey] at ey5
          repeat (first | walk_at "oxs" | simp only [ey5])
          have hfr2 : ∀ q ∈ footT a b, q ∉ st :: (x.foot ++ []) ∧ H0 q = none := fun q m => ⟨fun m2 => (by
            obtain ⟨o, e⟩ := W2.live m2
            rw [hfr q m] at e; cases e), W2.dr.sm.free (hfr q m)⟩
          refine ⟨x, S, b, t, ey.symm, W5.st, hT, hnd, fun q m m2 => (hfr2 q m).1 (List.mem_cons_of_mem _ (List.mem_append_left _ m2)), by omega, fun r H6 nr k6 st6 hr6 => ?_⟩
          have W6 := W5.make2 (fun q m => (hfr2 q m).1) (fun q m => (hfr2 q m).2) k6 st6
          unfold spMk_Ref
          intro r2 rdx H7 nr2 s7 er2
          refine .inl (eqO_ref (hr6.same s7) ⟨_, er2⟩ ?_)
          rw [decide_eq_true (by omega)]
          repeat (walk_at "oxs")
          refine ⟨x.add a b, S.add t, _, _, _, rfl, ey, W6.same s7, ?_⟩
          rw [show 1 + (i + 1) = 1 + i + 1 by omega]
          exact F1.add hft
        repeat (walk_at "oxs")
        intro pt H5 npt s5 ept
        refine ⟨_, rl_t ept, by decide, ?_⟩
        have W5 := W4.same s5
        have S25 := s24.trans s5
        split
        · unfold spMkTab
          intro a dd H6 na6 nd6 s6 ha6 TR6
          refine fin a (some dd) (.table []) H6 (W5.same s6) ⟨dd, [], rfl, ha6, TR6, .nil⟩ ⟨Nat.le_refl _, fun r m => by cases m⟩ (foot_two fun z => ?_) (free_two (S25.free na6) (S25.free nd6))
          obtain ⟨⟨es, _, e0, _⟩, _⟩ := TR6
          obtain ⟨dx, ea⟩ := ha6
          rw [z, ea] at e0; cases e0
        split
        · unfold spMk_Ref
          intro r rdx H6 nr s6 er
          unfold spMk_Instance
          intro a adx2 pn H7 na7 s7 ea7 npn epn nep
          exact fin a (some pn) (.inst 0 []) H7 (W5.same (s6.trans s7)) ⟨adx2, r, pn, [], rfl, ea7, ⟨rdx, s7 _ _ er⟩, epn, .nil⟩ rfl (foot_two nep) (free_two ((S25.trans s6).free na7) ((S25.trans s6).free npn))
        split
        · intro pe H6 npe s6 epe
          unfold spMk_Closure
          intro ac cdx H7 nac s7 eac
          unfold spMk_Ref
          intro r1 r1dx H8 nr1 s8 er1
          intro r2 r2dx H9 nr2 s9 er2
          unfold spMk_Bound
          intro ab bdx H10 nab s10 eab
          intro pl H11 npl s11 epl
          unfold spMk_Cursor
          refine ⟨_, rl_l epl, fun au udx pr H12 nau s12 eau npr epr nepr => ?_⟩
          intro pp H13 npp s13 epp
          have s713 := ((((s8.trans s9).trans s10).trans s11).trans s12).trans s13
          have S26 := S25.trans s6
          have S29 := ((S26.trans s7).trans s8).trans s9
          have S211 := (S29.trans s10).trans s11
          have W12 := W5.same (((((((s6.trans s7).trans s8).trans s9).trans s10).trans s11).trans s12))
          have W13 := W12.same s13
          have n2 : ∀ q, H2 q = none → q ∉ [st] := fun q e m => W2.dr.ne e (List.mem_singleton.mp m)
          have t1 : ThAt w c H13 ac none (.clo 0 0 []) := ⟨cdx, pe, [], rfl, s713 _ _ eac, s713 _ _ (s7 _ _ epe), .nil⟩
          have t2 : ThAt w c H13 ab none (.bound 0 0) := ⟨bdx, .ref r1, .ref r2, rfl, s13 _ _ (s12 _ _ (s11 _ _ eab)), ⟨r1, rfl, r1dx, s13 _ _ (s12 _ _ (s11 _ _ (s10 _ _ (s9 _ _ er1))))⟩, ⟨r2, rfl, r2dx, s13 _ _ (s12 _ _ (s11 _ _ (s10 _ _ er2)))⟩⟩
          have t3 : ThAt w c H13 au (some pr) (.cur [.num 1]) := ⟨udx, pr, [.int 1], rfl, s13 _ _ eau, s13 _ _ epr, .cons rfl .nil⟩
          refine ⟨H0, sc, ns, _, W13.dr, fun H14 k14 => rl_t (k14 _ _ (by simpa using W12.dr.ne npp) epp), by simp, by simp, fun H14 v k14 D14 hv => ?_⟩
          have W14 := W13.draw k14 D14
          have f1 := free_one (S26.free nac)
          have f2 := free_one (S29.free nab)
          have f3 := free_two (S211.free nau) (S211.free npr)
          simp only [List.mem_cons, List.not_mem_nil, or_false] at hv
          rcases hv with rfl | rfl | rfl
          · exact fin ac none _ H14 W14 (t1.keep k14 W13.s_soft fun q m => n2 q (f1 q m)) trivial foot_one f1
          · exact fin ab none _ H14 W14 (t2.keep k14 W13.s_soft fun q m => n2 q (f2 q m)) trivial foot_one f2
          · exact fin au (some pr) _ H14 W14 (t3.keep k14 W13.s_soft fun q m => n2 q (f3 q m)) trivial (foot_two nepr) f3
        split
        · refine ⟨H0, sc, ns, W5.dr, by omega, by omega, fun H6 d6 k6 D6 e0 e1 => ?_⟩
          have W6 := W5.draw k6 D6
          have fr6 : ∀ q, H6 q = none → H2 q = none := fun q e => by
            refine S25.free ?_
            cases z : H5 q with
            | none => rfl
            | some o => rw [k6 _ _ (fun m => by rw [List.mem_singleton.mp m] at e; obtain ⟨_, _, e2, _⟩ := D6.st; rw [e2] at e; cases e) z] at e; cases e
          have hd6 : d6 = 0 ∨ d6 = 1 := by omega
          have hm : MulOk (Str.ofString "Shape") (1 + d6) ∧ (Txt.mul (Str.ofString "Shape") (1 + d6)).length ≤ 10 := by rcases hd6 with rfl | rfl <;> exact ⟨by unfold MulOk; decide, by decide⟩
          dsimp only
          refine ⟨hm.1, ?_⟩
          unfold spMk_Kin
          intro a adx2 pm H7 na7 s7 ea7 npm epm nep
          exact fin a (some pm) (.kin _ none []) H7 (W6.same s7) ⟨adx2, .non, pm, [], rfl, ea7, rfl, epm, .nil⟩ hm.2 (foot_two nep) (free_two (fr6 _ na7) (fr6 _ npm))
        · exact fin a0 (some p0) (.parts []) H5 W5 ⟨adx, p0, [], rfl, s5 _ _ ea, s5 _ _ ep, .nil⟩ ⟨Nat.le_refl _, fun r m => by cases m⟩ (foot_two ne0) (free_two na2 np2)
      · rintro σ H1 ⟨x, S, v3, v4, v5, rfl, ey, W1, F1⟩
        refine hN _ _ ?_
        clear hN N
        rw [show 1 + ((many : Int) - 1).toNat = many by omega] at F1
        simp only [tSeq]
        refine cut_ fun N hN => for_ ?_
        repeat (walk_at "oxs")
        refine ⟨⟨by omega, by omega, by omega, by omega⟩, ?_⟩
        refine loop_range (Fill2 K w c H0 st sc ns x0.y many) ⟨x, S, _, _, _, _, rfl, ey, W1, F1.to fun n => Nat.zero_le _⟩ ?_ ?_
        · rintro i σ H2 hi ⟨x, S, v3, v4, v5, v6, rfl, ey, W2, F2⟩
          obtain ⟨dx2, ey2⟩ := W2.st.st
          rw [ey] at ey2
          have hlS := F2.le
          have hlt : 1 + i < S.things.length := by omega
          obtain ⟨t, et⟩ : ∃ t, S.things[1 + i]? = some t := ⟨_, List.getElem?_eq_getElem hlt⟩
          obtain ⟨a, b, hx, hT, ha⟩ := W2.st.num et
          have ha : atI (x.L.map fun p => V.ref p.1) (1 + (i : Nat)) = some (.ref a) := by
            have e : ((1 + i : Nat) : Int) = 1 + (i : Int) := by omega
            rw [e] at ha; exact ha
          simp only [gName, List.set_cons_succ, List.set_cons_zero]
          simp only [tSeq]
          refine cut_ fun N1 hN1 => ?_
          repeat (first | walk_at "oxs" | simp only [ey2])
          refine ⟨_, rl_l W2.st.et, _, ha, hN1 _ _ ?_⟩
          clear hN1 N1
          dsimp only
          refine for_ ?_
          repeat (walk_at "oxs")
          refine ⟨H0, sc, ns, W2.dr, by omega, by omega, fun H3 d k3 D3 d0 d1 => ?_⟩
          have W3 := W2.draw k3 D3
          repeat (walk_at "oxs")
          refine ⟨by omega, by omega, ?_⟩
          refine loop_range (Fill3 K w c H0 st sc ns x0.y many i a v4) ⟨x, S, b, _, rfl, ey, hx, W3, F2.to fun n => by split <;> omega⟩ ?_ ?_
          · rintro j σ H4 hj ⟨X, S1, b1, v6, rfl, ey1, hx1, W4, F4⟩
            have lS1 := F4.le
            obtain ⟨t1, et1⟩ : ∃ t, S1.things[1 + i]? = some t := ⟨_, List.getElem?_eq_getElem (by omega)⟩
            have hat : ∀ {H : Hp}, Wd K w c H0 st sc ns X S1 NoG [] H → ThAt w c H a b1 t1 := fun W => by
              obtain ⟨a', b', e1, e2⟩ := W.st.at et1
              rw [hx1] at e1
              cases e1
              exact e2
            have hT4 := hat W4
            have ft := F4.th _ _ et1
            simp only [Nat.lt_irrefl, if_false, if_true] at ft
            have hn0 : 1 + i ≠ 0 := by omega
            have hj4 : j < 4 := by omega
            have hb' : ∀ m, m ≠ 1 + i → (if m < 1 + i then 4 else if m = 1 + i then j else 0) = (if m < 1 + i then 4 else if m = 1 + i then j + 1 else 0) := fun m hm => by rw [if_neg hm, if_neg hm]
            have F4' : FS S1 many many (fun n => if n < 1 + i then 4 else if n = 1 + i then j + 1 else 0) := F4.to fun n => by
              by_cases z : n < 1 + i
              · rw [if_pos z, if_pos z]; exact Nat.le_refl _
              · by_cases z2 : n = 1 + i
                · rw [if_neg z, if_neg z, if_pos z2, if_pos z2]; omega
                · rw [if_neg z, if_neg z, if_neg z2, if_neg z2]; exact Nat.le_refl _
            have mx : ∀ q, b1 = some q → q ∈ X.foot := fun q e => mem_add (List.mem_of_getElem? hx1) (by rw [e]; simp [footT])
            cases t1 with
            | parts rs =>
              obtain ⟨dx2, l, xs, rfl, e1, el, hxs⟩ := id hT4
              repeat (first | walk_at "oxs" | simp only [e1] | simp only [el])
              refine ⟨H0, sc, ns, many, rfl, by omega, by omega, W4.dr, fun H5 v r k5 D5 hv hr => ?_⟩
              have W5 := W4.draw k5 D5
              obtain ⟨dx3, l', xs5, eb, e15, el5, hxs5⟩ := hat W5
              cases eb
              have ll := Paired.length hxs5
              have hl4 : rs.length ≤ j := ft.1
              dsimp only
              simp only [el5]
              have k6 : Keep [l] H5 (upd H5 l (.lst (xs5 ++ [v]))) := Keep.refl.upd (by simp)
              have so : Soft c H5 l := soft_lst el5
              have hs : HardStay c H5 (upd H5 l (.lst (xs5 ++ [v]))) := .keep k6 fun p m => by rw [List.mem_singleton.mp m]; exact so
              have nal : a ≠ l := fun z => by rw [z, el5] at e15; cases e15
              have th : ThAt w c (upd H5 l (.lst (xs5 ++ [v]))) a (some l) (.parts (rs ++ [r])) := ⟨dx3, l, _, rfl, k6 _ _ (by simpa using nal) e15, upd_same, VsAt.hs (Paired.snoc hxs5 hv) hs⟩
              have st6 := W5.st.setT hx1 k6 so th
              refine ⟨len_line' (by omega), X, S1.setT (1 + i) (.parts (rs ++ [r])), some l, _, rfl, ey1, hx1, W5.set (mx l rfl) k6 so st6, F4.set hn0 ⟨?_, fun q m => ?_⟩ hb'⟩
              · simp only [Nat.lt_irrefl, if_false, if_true, List.length_append, List.length_singleton]; omega
              · rcases List.mem_append.mp m with m | m
                · exact ft.2 q m
                · rw [List.mem_singleton.mp m]; exact hr
            | table rows =>
              obtain ⟨dd, rws, rfl, ⟨dx2, e1⟩, htab, hxs⟩ := id hT4
              repeat (first | walk_at "oxs" | simp only [e1])
              intro pt H5 npt s5 ept
              have W5 := W4.same s5
              refine ⟨H0, sc, ns, _, W5.dr, fun H6 k6 => rl_t (k6 _ _ (by simpa using W4.dr.ne npt) ept), by simp, by simp, fun H6 kv k6 D6 hkv => ?_⟩
              have W6 := W5.draw k6 D6
              refine ⟨H0, sc, ns, many, rfl, by omega, by omega, W6.dr, fun H7 v r k7 D7 hv hr => ?_⟩
              have W7 := W6.draw k7 D7
              obtain ⟨dd', rws7, eb, ⟨dx3, e17⟩, htab7, hxs7⟩ := hat W7
              cases eb
              have hk : ∃ kr, IsVal c H7 kv kr ∧ SmV many kr ∧ scV kv = true ∧ ∀ n, kr ≠ .ob n := by
                simp only [List.mem_cons, List.not_mem_nil, or_false] at hkv
                rcases hkv with rfl | rfl | rfl | rfl | rfl | rfl
                · exact ⟨.nul, rfl, .nul, rfl, fun n e => by cases e⟩
                · exact ⟨.boo true, rfl, .boo, rfl, fun n e => by cases e⟩
                · exact ⟨.num 0, rfl, .num (by decide), rfl, fun n e => by cases e⟩
                · exact ⟨.num 1, rfl, .num (by decide), rfl, fun n e => by cases e⟩
                · exact ⟨.txt "a", rfl, .txt (by decide), rfl, fun n e => by cases e⟩
                · exact ⟨.txt "\"", rfl, .txt (by decide), rfl, fun n e => by cases e⟩
              obtain ⟨kr, hkr, hks, hksc, hkn⟩ := hk
              have l7 := Paired.length hxs7
              have hl4 : rows.length ≤ j := ft.1
              refine ⟨dd, rws7, ⟨dx3, e17⟩, htab7, hksc, by omega, fun H8 k8 TR8 => ?_⟩
              have so : Soft c H7 dd := htab7.soft
              have hs : HardStay c H7 H8 := .keep k8 fun p m => by rw [List.mem_singleton.mp m]; exact so
              obtain ⟨rows', p1, p2, p3⟩ := put_rows (F := fun x r => IsVal c H7 x.1 r.1 ∧ IsVal c H7 x.2 r.2) (k := kv) (v := v) (kr := kr) (vr := r) ⟨hkr, hv⟩ hxs7
              have nal : a ≠ dd := fun z => by
                obtain ⟨⟨es, _, e0, _⟩, _⟩ := htab7
                rw [← z, e17] at e0; cases e0
              have th : ThAt w c H8 a (some dd) (.table rows') := ⟨dd, _, rfl, ⟨dx3, k8 _ _ (by simpa using nal) e17⟩, TR8, Paired.mapP p1 fun _ _ z => ⟨z.1.hs hs, z.2.hs hs⟩⟩
              have st8 := W7.st.setT hx1 k8 so th
              repeat (walk_at "oxs")
              refine ⟨X, S1.setT (1 + i) (.table rows'), some dd, _, rfl, ey1, hx1, W7.set (mx dd rfl) k8 so st8, F4.set hn0 ⟨?_, fun q m => ?_⟩ hb'⟩
              · simp only [Nat.lt_irrefl, if_false, if_true]; omega
              · rcases p3 q m with m | rfl
                · exact ft.2 q m
                · exact ⟨hks, hr, hkn⟩
            | _ =>
              obtain ⟨dx2, fs2, e2⟩ := hT4.ins
              simp only [clsT] at e2
              repeat (first | walk_at "oxs" | simp only [e2])
              exact ⟨X, S1, b1, _, rfl, ey1, hx1, W4, F4'⟩
          · rintro σ H4 ⟨X, S1, b1, v6, rfl, ey1, hx1, W4, F4⟩
            refine ⟨X, S1, _, _, _, _, rfl, ey1, W4, F4.to fun n => ?_⟩
            have hd : d.toNat ≤ 4 := by omega
            split
            · rw [if_pos (by omega)]; exact Nat.le_refl _
            · split
              · rw [if_pos (by omega)]; exact hd
              · exact Nat.zero_le _
        · rintro σ H2 ⟨x, S, v3, v4, v5, v6, rfl, ey, W2, F2⟩
          refine hN _ _ ?_
          clear hN N
          repeat (walk_at "oxs")
          exact h H2 x S W2 ey F2.le (F2.sm fun n => by split <;> omega)
    · cases h
end

section
variable {P : Program} {w : World} {K : PySem.W.Frag} {mg : Str → Option Value} {base : Heap} {c : Cs}
def spLaw (K : PySem.W.Frag) : Sp := fun vs H Q _ => ∃ (a : Addr) (ns : List Int), vs = [.ref a] ∧ SqL K H a (ns.map V.int) ∧ ns.length ≤ 63 ∧ ∀ H', Q (.bl true) H'
def LawI (K : PySem.W.Frag) (w : World) (c : Cs) (H0 : Hp) (s sc : Addr) (ns : List Int) (x : SA) (S : SV) (many : Nat) (k : Nat) (σ : L2.St) (H : Hp) : Prop := ∃ v4 v5 v6 v7 v8, σ = [some (.ref sc), some (.ref s), some (.ref x.y), some (.int ((many : Nat) : Int)), v4, v5, v6, v7, v8] ∧ Wd K w c H0 s sc ns x S NoG [] H
set_option maxHeartbeats 8000000 in
theorem law_has {fa : Addr} {fd : FuncData} (F : Fun K "law" "law" s_law fa fd) (T : Txt K mg c) (H_law_begin : Has P w K mg base CX0 "_law_begin" 1 ["script", "k"] (spBegin K)) (H_law_draw : Has P w K mg base CX0 "_law_draw" 2 ["state", "many"] (spDraw K)) (H_law_pick : Has P w K mg base CX0 "_law_pick" 3 ["state", "row"] (spPick2 K)) (H_law_value : Has P w K mg base CX0 "_law_value" 4 ["state", "many"] (spLVal K c)) (M_Store : HasC P w K mg base CX0 c.Store "Store" 3 ["self", "lines"] (spStore w K c)) (H_law_fill : Has P w K mg base CX0 "_law_fill" 5 ["store", "state", "many"] (spFill K w c)) (H_law_form : Has P w K mg base CX0 "_law_form" 16 ["store", "value", "around", "room"] (spLForm w c 11)) (H_write_value : Has P w K mg base CX0 "write_value" 44 ["store", "value", "most"] (spWV w c)) (H_text_of : Has P w K mg base CX0 "text_of" 45 ["store", "value", "most"] (spTextOf w c)) (H_show : Has P w K mg base CX0 "show" 45 ["store", "value"] (spShow w c)) : FnOk P w K mg base CX0 46 fa fd ["script"] (spLaw K) := by
  have Sc := sc_law
  refine F.ok Sc (fun vs H Q E h => ?_) (fun cdv A outer s H vs Q E hr h => ?_)
  · obtain ⟨a, ns, rfl, _⟩ := h; rfl
  · obtain ⟨sc, ns, rfl, hS, hn, hq⟩ := h
    refine ⟨_, (pss_cons (ps_set (i := 1) Sc.nd rfl (.inl rfl) (fe_call H_law_begin (hr.mono (by walk_at "rm")) (by rfl) pass0 (pa_cons (fe_var 0) (pa_cons pe_int pa_nil))))
      (pss_cons (ps_set (i := 2) Sc.nd rfl (.inl rfl) (fe_make (k := _) M_Store (hr.mono (by walk_at "rm")) (by rfl) pass0 (pa_cons (fe_lst pa_nil) pa_nil)))
      (pss_cons (ps_set (i := 3) Sc.nd rfl (.inl rfl) (pe_op op_fAdd pe_int (fe_call H_law_draw (hr.mono (by walk_at "rm")) (by rfl) pass0 (pa_cons (fe_var 1) (pa_cons pe_int pa_nil)))))
      (pss_cons (ps_if (pt_not (pt_val (fe_call H_law_fill (hr.mono (by walk_at "rm")) (by rfl) pass0 (pa_cons (fe_var 2) (pa_cons (fe_var 1) (pa_cons (fe_var 3) pa_nil)))))) (pss_one (ps_ret pe_bl)) pss_nil)
      (pss_cons (ps_for PassesOwn.never rfl (pi_range1 (by rfl) T.no_range (pa_cons (pe_callB (call_fMin rfl) (by rfl) T.no_min (by decide +kernel) (pa_cons pe_int (pa_cons (pe_callB (call_fMax rfl) (by rfl) T.no_max (by decide +kernel) (pa_cons pe_int (pa_cons (pe_callB call_fLen (by rfl) T.no_len (by decide +kernel) (pa_cons (fe_var 0) pa_nil)) pa_nil))) pa_nil))) pa_nil)) (pg_name (i := 4) Sc.nd rfl (.inl rfl)) (pss_cons (ps_set (i := 5) Sc.nd rfl (.inl rfl) (fe_call H_law_value (hr.mono (by walk_at "rm")) (by rfl) pass0 (pa_cons (fe_var 1) (pa_cons (fe_var 3) pa_nil))))
      (pss_cons (ps_set (i := 6) Sc.nd rfl (.inl rfl) (fe_call H_law_pick (hr.mono (by walk_at "rm")) (by rfl) pass0 (pa_cons (fe_var 1) (pa_cons (fe_tup (pa_cons pe_int (pa_cons pe_int (pa_cons pe_int (pa_cons pe_int (pa_cons pe_int (pa_cons pe_int (pa_cons pe_int (pa_cons (fe_call H_law_draw (hr.mono (by walk_at "rm")) (by rfl) pass0 (pa_cons (fe_var 1) (pa_cons pe_int pa_nil))) pa_nil))))))))) pa_nil))))
      (pss_cons (ps_set (i := 7) Sc.nd rfl (.inl rfl) (fe_call H_law_form (hr.mono (by walk_at "rm")) (by rfl) pass0 (pa_cons (fe_var 2) (pa_cons (fe_var 5) (pa_cons (fe_lst pa_nil) (pa_cons pe_int pa_nil))))))
      (pss_cons (ps_set (i := 8) Sc.nd rfl (.inl rfl) (fe_call H_write_value (hr.mono (by walk_at "rm")) (by rfl) pass0 (pa_cons (fe_var 2) (pa_cons (fe_var 5) (pa_cons (fe_var 6) pa_nil)))))
      (pss_cons (ps_if (PW.pt (pw_or (pt_not (pt_val (pe_callB (call_fIsiA T.kit) (by rfl) T.no_isinstance (by decide +kernel) (pa_cons (fe_var 8) (pa_cons (fe_ty (n := "str") (by rfl) T.no_str (by decide +kernel)) pa_nil))))) (pw_or1 (pt_cmpR (op_fNe hr.units) (fe_var 8) (pe_slice sl_fx (fe_var 7) po_none (po_some (pe_op op_fAdd (fe_var 6) pe_int))) (nomark _))))) (pss_one (ps_ret pe_bl)) pss_nil)
      (pss_cons (ps_set (i := 8) Sc.nd rfl (.inl rfl) (fe_call H_text_of (hr.mono (by walk_at "rm")) (by rfl) pass0 (pa_cons (fe_var 2) (pa_cons (fe_var 5) (pa_cons (fe_var 6) pa_nil)))))
      (pss_cons (ps_if (pt_val (pe_callB (call_fIsiA T.kit) (by rfl) T.no_isinstance (by decide +kernel) (pa_cons (fe_var 5) (pa_cons (fe_ty (n := "str") (by rfl) T.no_str (by decide +kernel)) pa_nil)))) (pss_one (ps_if (pt_cmpR (op_fNe hr.units) (fe_var 8) (fe_var 5) (nomark _)) (pss_one (ps_ret pe_bl)) pss_nil)) (pss_one (ps_if (pt_cmpR (op_fNe hr.units) (fe_var 8) (pe_slice sl_fx (fe_var 7) po_none (po_some (pe_op op_fAdd (fe_var 6) pe_int))) (nomark _)) (pss_one (ps_ret pe_bl)) pss_nil)))
      (pss_cons (ps_if (pt_cmpR op_fGt (pe_callB call_fLen (by rfl) T.no_len (by decide +kernel) (pa_cons (fe_var 7) pa_nil)) pe_int (nomark _)) (pss_one (ps_set (i := 7) Sc.nd rfl (.inl rfl) (pe_op op_fAdd (pe_slice sl_fx (fe_var 7) po_none (po_some pe_int)) pe_str))) pss_nil)
      (pss_one (ps_if (pt_cmpR (op_fNe hr.units) (fe_call H_show (hr.mono (by walk_at "rm")) (by rfl) pass0 (pa_cons (fe_var 2) (pa_cons (fe_var 5) pa_nil))) (fe_var 7) (nomark _)) (pss_one (ps_ret pe_bl)) pss_nil)))))))))))
      (pss_one (ps_ret (pe_cmpR (op_fEq hr.units) (pe_callB call_fLen (by rfl) T.no_len (by decide +kernel) (pa_cons (fe_fld (fe_var 2) T.pl_things rfl) pa_nil)) (fe_var 3) (nomark _))))))))), ?_⟩
    walk_at "fx0"
    walk_at "ox"
    refine ⟨by decide, ?_⟩
    intro s H1 ns1 sm1 es
    have D : Dr K H s sc ns H1 := ⟨⟨0, 0, es, by decide, by decide⟩, hS, sm1, ns1, hn⟩
    walk_at "ox"
    intro l0 H2 nl0 s2 el0
    refine ⟨[], rl_l el0, fun x H3 St s3 hfr => ?_⟩
    have W0 : Wd K w c H s sc ns x (st0 []) NoG [] H3 := by
      refine ⟨(D.same s2).same s3, St, trivial, fun _ _ _ _ _ => trivial, (fun q m => by cases m), ?_, ?_⟩
      · rw [List.append_nil, List.nodup_cons]
        exact ⟨(fun m => by have := hfr s m; rw [s2 _ _ es] at this; cases this), St.nd⟩
      · intro q m
        rw [List.append_nil] at m
        rcases List.mem_cons.mp m with rfl | m
        · exact ns1
        · exact (sm1.trans s2).free (hfr q m)
    walk_at "ox"
    refine ⟨H, sc, ns, W0.dr, by omega, by omega, fun H4 d k4 D4 d0 d1 => ?_⟩
    have W4 := W0.draw k4 D4
    dsimp only
    obtain ⟨m0, rfl⟩ := Int.eq_ofNat_of_zero_le d0
    obtain ⟨many, em⟩ : ∃ many : Nat, (2 : Int) + (m0 : Nat) = (many : Nat) := ⟨2 + m0, by omega⟩
    rw [em]
    refine cut_ fun N hN => ?_
    repeat (walk_at "oxs")
    refine ⟨H, sc, ns, x, many, rfl, rfl, by omega, by omega, W4, fun H5 x' S W5 ey hl hsm => ?_⟩
    repeat (walk_at "oxs")
    refine hN _ _ ?_
    clear hN N
    rw [← ey]
    simp only [tSeq]
    refine cut_ fun N hN => for_ ?_
    repeat (walk_at "oxs")
    refine ⟨_, .inl (W5.dr.sm.seq hS), ?_⟩
    rw [List.length_map]
    generalize hm : (if (if (ns.length : Int) > 3 then (ns.length : Int) else 3) < 12 then (if (ns.length : Int) > 3 then (ns.length : Int) else 3) else 12) = m
    have hm9 : 0 ≤ m ∧ m ≤ 12 := by
      rw [← hm]
      split <;> split <;> omega
    refine ⟨by omega, by omega, ?_⟩
    refine loop_range (LawI K w c H s sc ns x' S many) ⟨_, _, _, _, _, rfl, W5⟩ ?_ ?_
    · rintro k σ H6 hk ⟨v4, v5, v6, v7, v8, rfl, W6⟩
      simp only [gName, List.set_cons_succ, List.set_cons_zero]
      simp only [tSeq]
      refine cut_ fun N1 hN1 => ?_
      repeat (walk_at "oxs")
      refine ⟨H, sc, ns, many, rfl, by omega, by omega, W6.dr, fun H7 v r k7 D7 hv hr => hN1 _ _ ?_⟩
      clear hN1 N1
      have W7 := W6.draw k7 D7
      have hsr : SmR S r := hr.sm hl
      simp only [tSeq]
      refine cut_ fun N1 hN1 => ?_
      repeat (walk_at "oxs")
      refine ⟨H, sc, ns, W7.dr, by omega, by omega, fun H8 d8 k8 D8 e80 e81 => ?_⟩
      have W8 := W7.draw k8 D8
      repeat (walk_at "oxs")
      intro p9 H9 np9 s9 ep9
      have W9 := W8.same s9
      have n9 : p9 ≠ s := W8.dr.ne np9
      refine ⟨H, sc, ns, _, W9.dr, fun H10 k10 => rl_t (k10 _ _ (by simpa using n9) ep9), by simp, by simp, fun H10 mv k10 D10 hmv => hN1 _ _ ?_⟩
      clear hN1 N1
      have W10 := W9.draw k10 D10
      have hmost : ∃ most : Nat, mv = .int (most : Nat) ∧ most ≤ 400 := by
        obtain ⟨n8, rfl⟩ := Int.eq_ofNat_of_zero_le e80
        simp only [List.mem_cons, List.not_mem_nil, or_false] at hmv
        rcases hmv with rfl | rfl | rfl | rfl | rfl | rfl | rfl | rfl
        · exact ⟨0, rfl, by omega⟩
        · exact ⟨1, rfl, by omega⟩
        · exact ⟨5, rfl, by omega⟩
        · exact ⟨30, rfl, by omega⟩
        · exact ⟨100, rfl, by omega⟩
        · exact ⟨101, rfl, by omega⟩
        · exact ⟨400, rfl, by omega⟩
        · exact ⟨n8, rfl, by omega⟩
      obtain ⟨most, rfl, hm4⟩ := hmost
      clear hmv
      have hv10 : IsVal c H10 v r := ((hv.hs (.keep k8 W7.s_soft)).same s9).hs (.keep k10 W9.s_soft)
      simp only [tSeq]
      refine cut_ fun N1 hN1 => ?_
      repeat (walk_at "oxs")
      intro pa H11 npa s11 epa
      have W11 := W10.same s11
      refine ⟨x', S, r, [], rfl, W11.st, hsm, hv10.same s11, hsr, epa, by decide, rfl, by decide, fun H12 s12 => hN1 _ _ ?_⟩
      clear hN1 N1
      have W12 := W11.same s12
      have hv12 := (hv10.same s11).same s12
      have hdl : ((dueW S r).length : Int) ≤ 500 + ((2000 * 11 : Nat) : Int) := lf_len hsm 11 [] 500 r hsr (by decide)
      have hdue : lf S 11 [] 500 r = dueW S r := rfl
      rw [hdue]
      have hfd : formW S most r = cutS (dueW S r) none (some ((most : Nat) + 1)) := form_due (by omega)
      simp only [tSeq]
      refine cut_ fun N1 hN1 => ?_
      repeat (walk_at "oxs")
      refine ⟨x', S, r, most, rfl, rfl, W12.st, hsm.ok, hv12, hsr.ok, by omega, fun H13 s13 => hN1 _ _ ?_⟩
      clear hN1 N1
      have W13 := W12.same s13
      have hv13 := hv12.same s13
      rw [hfd]
      simp only [tSeq]
      refine cut_ fun N1 hN1 => ?_
      repeat (walk_at "oxs")
      have hls : (dueW S r).length ≤ sizeLine := by rw [sizeLine_eq]; omega
      refine ⟨hls, hN1 _ _ ?_⟩
      clear hN1 N1
      simp only [tSeq]
      refine cut_ fun N1 hN1 => ?_
      repeat (walk_at "oxs")
      refine ⟨x', S, r, most, rfl, rfl, W13.st, hsm.ok, hv13, hsr.ok, by omega, fun H14 s14 => hN1 _ _ ?_⟩
      clear hN1 N1
      have W14 := W13.same s14
      have hv14 := hv13.same s14
      simp only [tSeq]
      refine cut_ fun N1 hN1 => ?_
      have fin : N1 [some (V.ref sc), some (V.ref s), some (V.ref x'.y), some (V.int ((many : Nat) : Int)), some (V.int (k : Nat)), some v, some (V.int (most : Nat)), some (V.str (dueW S r)), some (V.str (textW S most r))] H14 := by
        refine hN1 _ _ ?_
        clear hN1 N1
        simp only [tSeq]
        refine cut_ fun N1 hN1 => ?_
        have fin2 : ∀ z : Str, z = shownW S r → N1 [some (V.ref sc), some (V.ref s), some (V.ref x'.y), some (V.int ((many : Nat) : Int)), some (V.int (k : Nat)), some v, some (V.int (most : Nat)), some (V.str z), some (V.str (textW S most r))] H14 := fun z ez => by
          refine hN1 _ _ ?_
          clear hN1 N1
          repeat (walk_at "oxs")
          refine ⟨x', S, r, rfl, W14.st, hsm.ok, hv14, hsr.ok, fun H15 s15 => ?_⟩
          rw [ez]
          repeat (walk_at "oxs")
          exact ⟨_, _, _, _, _, rfl, W14.same s15⟩
        have hsd := show_due (S := S) (r := r)
        repeat (walk_at "oxs")
        refine ⟨hls, ?_⟩
        split
        · rename_i q
          rw [if_pos (by omega)] at hsd
          have l1 := cut_lenN (dueW S r) 100
          have l3 : Str.length (Str.ofString "...") = 3 := rfl
          refine ⟨hls, by rw [l3, sizeLine_eq]; exact Nat.le_trans (Nat.add_le_add_right l1 3) (by decide), fin2 _ hsd.symm⟩
        · rename_i q
          rw [if_neg (by omega)] at hsd
          exact fin2 _ hsd.symm
      have ht : ∀ z, r = .txt z → textW S most r = z := fun z e => by rw [e]; rfl
      have ht2 : (∀ z, r ≠ .txt z) → textW S most r = cutS (dueW S r) none (some ((most : Nat) + 1)) := fun n => by
        rw [← hfd]
        cases r <;> first | rfl | exact absurd rfl (n _)
      cases r with
      | txt z =>
        cases hv14
        rw [ht z rfl] at fin ⊢
        repeat (walk_at "oxs")
        exact fin
      | ob n =>
        obtain ⟨a, rfl, dx, ea⟩ := id hv14
        rw [ht2 fun z e => by cases e] at fin ⊢
        repeat (first | walk_at "oxs" | simp only [ea])
        exact ⟨hls, fin⟩
      | bt n =>
        obtain ⟨a, rfl, dx, ea⟩ := id hv14
        rw [ht2 fun z e => by cases e] at fin ⊢
        repeat (first | walk_at "oxs" | simp only [ea])
        exact ⟨hls, fin⟩
      | _ =>
        cases hv14
        rw [ht2 fun z e => by cases e] at fin ⊢
        repeat (walk_at "oxs")
        exact ⟨hls, fin⟩
    · rintro σ H6 ⟨v4, v5, v6, v7, v8, rfl, W6⟩
      refine hN _ _ ?_
      clear hN N
      obtain ⟨dx6, ey6⟩ := W6.st.st
      repeat (first | walk_at "oxs" | simp only [ey6])
      refine ⟨_, rl_l W6.st.et, ?_⟩
      rw [List.length_map, Paired.length W6.st.th, hl]
      simpa using hq H6
end

section
variable {P : Program} {w : World} {K : PySem.W.Frag} {mg : Str → Option Value} {base : Heap} {c : Cs}
theorem law_fn {fa : Addr} {fd : FuncData} (F : Fun K "law" "law" s_law fa fd) (T : Txt K mg c)
    (a_law_cell : At K mg "_law_cell" "_law_cell" s_law_cell ["script", "k"])
    (a_law_begin : At K mg "_law_begin" "_law_begin" s_law_begin ["script", "k"])
    (a_law_draw : At K mg "_law_draw" "_law_draw" s_law_draw ["state", "many"])
    (a_Ref___init__ : AtM K c.Ref "__init__" "Ref.__init__" s_Ref___init__ ["self", "number"])
    (a_Builtin___init__ : AtM K c.Builtin "__init__" "Builtin.__init__" s_Builtin___init__ ["self", "name"])
    (a_Instance___init__ : AtM K c.Instance "__init__" "Instance.__init__" s_Instance___init__ ["self", "owner"])
    (a_Kin___init__ : AtM K c.Kin "__init__" "Kin.__init__" s_Kin___init__ ["self", "name", "parent"])
    (a_Parts___init__ : AtM K c.Parts "__init__" "Parts.__init__" s_Parts___init__ ["self", "held"])
    (a_Closure___init__ : AtM K c.Closure "__init__" "Closure.__init__" s_Closure___init__ ["self", "number", "wanted", "scope"])
    (a_Bound___init__ : AtM K c.Bound "__init__" "Bound.__init__" s_Bound___init__ ["self", "owner", "function"])
    (a_Cursor___init__ : AtM K c.Cursor "__init__" "Cursor.__init__" s_Cursor___init__ ["self", "rest"])
    (a_Writer___init__ : AtM K c.Writer "__init__" "Writer.__init__" s_Writer___init__ ["self", "store", "most"])
    (a_Table___init__ : AtM K c.Table "__init__" "Table.__init__" s_Table___init__ ["self"])
    (a_key_of : At K mg "key_of" "key_of" s_key_of ["value"])
    (a_Table_put : AtM K c.Table "put" "Table.put" s_Table_put ["self", "key", "value"])
    (a_Table_pairs : AtM K c.Table "pairs" "Table.pairs" s_Table_pairs ["self"])
    (a_Store___init__ : AtM K c.Store "__init__" "Store.__init__" s_Store___init__ ["self", "lines"])
    (a_Store_make : AtM K c.Store "make" "Store.make" s_Store_make ["self", "thing"])
    (a_Store_at : AtM K c.Store "at" "Store.at" s_Store_at ["self", "ref"])
    (a_thing_of : At K mg "thing_of" "thing_of" s_thing_of ["store", "value"])
    (a_law_pick : At K mg "_law_pick" "_law_pick" s_law_pick ["state", "row"])
    (a_quoted : At K mg "quoted" "quoted" s_quoted ["text"])
    (a_plain : At K mg "plain" "plain" s_plain ["value"])
    (a_head_of : At K mg "head_of" "head_of" s_head_of ["store", "thing"])
    (a_Writer_put : AtM K c.Writer "put" "Writer.put" s_Writer_put ["self", "piece"])
    (a_Writer_write_box : AtM K c.Writer "write_box" "Writer.write_box" s_Writer_write_box ["self", "number", "thing"])
    (a_Writer_write_parts : AtM K c.Writer "write_parts" "Writer.write_parts" s_Writer_write_parts ["self", "held"])
    (a_Writer_write_pairs : AtM K c.Writer "write_pairs" "Writer.write_pairs" s_Writer_write_pairs ["self", "pairs"])
    (a_Writer_write : AtM K c.Writer "write" "Writer.write" s_Writer_write ["self", "value"])
    (a_write_value : At K mg "write_value" "write_value" s_write_value ["store", "value", "most"])
    (a_text_of : At K mg "text_of" "text_of" s_text_of ["store", "value", "most"])
    (a_show : At K mg "show" "show" s_show ["store", "value"])
    (a_law_quoted : At K mg "_law_quoted" "_law_quoted" s_law_quoted ["text"])
    (a_law_plain : At K mg "_law_plain" "_law_plain" s_law_plain ["store", "value"])
    (a_law_form : At K mg "_law_form" "_law_form" s_law_form ["store", "value", "around", "room"])
    (a_law_value : At K mg "_law_value" "_law_value" s_law_value ["state", "many"])
    (a_Ref___eq__ : AtM K c.Ref "__eq__" "Ref.__eq__" s_Ref___eq__ ["self", "other"])
    (a_Builtin___eq__ : AtM K c.Builtin "__eq__" "Builtin.__eq__" s_Builtin___eq__ ["self", "other"])
    (a_law_fill : At K mg "_law_fill" "_law_fill" s_law_fill ["store", "state", "many"]) :
    FnOk P w K mg base CX0 46 fa fd ["script"] (spLaw K) := by
  have H_law_cell := ok_cell (P := P) (w := w) (base := base) a_law_cell T 
  have H_law_begin := ok_begin (P := P) (w := w) (base := base) a_law_begin T 
  have H_law_draw := ok_draw (P := P) (w := w) (base := base) a_law_draw T H_law_cell
  have M_Ref := mk_Ref (P := P) (w := w) (base := base) a_Ref___init__ T 
  have M_Builtin := mk_Builtin (P := P) (w := w) (base := base) a_Builtin___init__ T 
  have M_Instance := mk_Instance (P := P) (w := w) (base := base) a_Instance___init__ T 
  have M_Kin := mk_Kin (P := P) (w := w) (base := base) a_Kin___init__ T 
  have M_Parts := mk_Parts (P := P) (w := w) (base := base) a_Parts___init__ T 
  have M_Closure := mk_Closure (P := P) (w := w) (base := base) a_Closure___init__ T 
  have M_Bound := mk_Bound (P := P) (w := w) (base := base) a_Bound___init__ T 
  have M_Cursor := mk_Cursor (P := P) (w := w) (base := base) a_Cursor___init__ T 
  have M_Writer := mk_Writer (P := P) (w := w) (base := base) a_Writer___init__ T 
  have M_Table := ok_mktab (P := P) (w := w) (base := base) a_Table___init__ T 
  have H_key_of := ok_keyof (P := P) (w := w) (base := base) a_key_of T 
  have M_Table_put := ok_put (P := P) (w := w) (base := base) a_Table_put T H_key_of
  have M_Table_pairs := ok_pairs (P := P) (w := w) (base := base) a_Table_pairs T 
  have M_Store := ok_store (P := P) (w := w) (base := base) a_Store___init__ T M_Kin
  have M_Store_make := ok_make (P := P) (w := w) (base := base) a_Store_make T M_Ref
  have M_Store_at := ok_at (P := P) (w := w) (base := base) a_Store_at T 
  have H_thing_of := ok_thing (P := P) (w := w) (base := base) a_thing_of T M_Store_at
  have H_law_pick := ok_pick2 (P := P) (w := w) (base := base) a_law_pick T H_law_draw
  have H_quoted := ok_quoted (P := P) (w := w) (base := base) a_quoted T 
  have H_plain := ok_plain (P := P) (w := w) (base := base) a_plain T H_quoted
  have H_head_of := ok_head (P := P) (w := w) (base := base) a_head_of T M_Store_at
  have M_Writer_put := ok_putW (P := P) (w := w) (base := base) a_Writer_put T 
  have M_Writer_write := ok_writeAll (P := P) (w := w) (base := base) a_Writer_write T a_Writer_write_box a_Writer_write_parts a_Writer_write_pairs H_thing_of H_plain H_head_of M_Table_pairs M_Writer_put
  have H_write_value := ok_wv (P := P) (w := w) (base := base) a_write_value T M_Writer M_Writer_write
  have H_text_of := ok_textof (P := P) (w := w) (base := base) a_text_of T H_write_value
  have H_show := ok_show (P := P) (w := w) (base := base) a_show T H_write_value
  have H_law_quoted := ok_lquoted (P := P) (w := w) (base := base) a_law_quoted T 
  have H_law_plain := ok_lplain (P := P) (w := w) (base := base) a_law_plain T H_law_quoted
  have H_law_form := ok_lformAll (P := P) (w := w) (base := base) a_law_form T H_law_plain M_Table_pairs
  have H_law_value := ok_lval (P := P) (w := w) (base := base) a_law_value T H_law_draw H_law_pick M_Builtin M_Ref
  have M_Ref___eq__ := ok_eqRef (P := P) (w := w) (base := base) a_Ref___eq__ T 
  have M_Builtin___eq__ := ok_eqBt (P := P) (w := w) (base := base) a_Builtin___eq__ T 
  have H_law_fill := ok_fill (P := P) (w := w) (base := base) a_law_fill T H_law_draw H_law_pick H_law_value M_Ref M_Parts M_Table M_Instance M_Closure M_Bound M_Cursor M_Kin M_Store_make M_Table_put M_Ref___eq__ M_Builtin___eq__
  exact law_has F T H_law_begin H_law_draw H_law_pick H_law_value M_Store H_law_fill H_law_form H_write_value H_text_of H_show
end
theorem all_mk {P : Program} {w : World} {K : PySem.W.Frag} {h : Heap} {mg : Str → Option Value} {fa : Addr} {C_Ref C_Builtin C_Parts C_Table C_Instance C_Kin C_Closure C_Bound C_Cursor C_Writer C_Store : Addr} (X : K.In h) (G : h.Ns mainGlobals mg) (hfa : mg "law" = some (.ref fa))
    (n_Ref : PySem.W.nsIn K mainGlobals "Ref" = some (some (.ref C_Ref)))
    (n_Builtin : PySem.W.nsIn K mainGlobals "Builtin" = some (some (.ref C_Builtin)))
    (n_Parts : PySem.W.nsIn K mainGlobals "Parts" = some (some (.ref C_Parts)))
    (n_Table : PySem.W.nsIn K mainGlobals "Table" = some (some (.ref C_Table)))
    (n_Instance : PySem.W.nsIn K mainGlobals "Instance" = some (some (.ref C_Instance)))
    (n_Kin : PySem.W.nsIn K mainGlobals "Kin" = some (some (.ref C_Kin)))
    (n_Closure : PySem.W.nsIn K mainGlobals "Closure" = some (some (.ref C_Closure)))
    (n_Bound : PySem.W.nsIn K mainGlobals "Bound" = some (some (.ref C_Bound)))
    (n_Cursor : PySem.W.nsIn K mainGlobals "Cursor" = some (some (.ref C_Cursor)))
    (n_Writer : PySem.W.nsIn K mainGlobals "Writer" = some (some (.ref C_Writer)))
    (n_Store : PySem.W.nsIn K mainGlobals "Store" = some (some (.ref C_Store)))
    (x_Ref : ClsFact K C_Ref)
    (x_Builtin : ClsFact K C_Builtin)
    (x_Parts : ClsFact K C_Parts)
    (x_Table : ClsFact K C_Table)
    (x_Instance : ClsFact K C_Instance)
    (x_Kin : ClsFact K C_Kin)
    (x_Closure : ClsFact K C_Closure)
    (x_Bound : ClsFact K C_Bound)
    (x_Cursor : ClsFact K C_Cursor)
    (x_Writer : ClsFact K C_Writer)
    (x_Store : ClsFact K C_Store)
    (ob : ObjFact K)
    (na__rows_Table : PySem.W.findIn K (.ref C_Table) "_rows" = some none)
    (na_around_Writer : PySem.W.findIn K (.ref C_Writer) "around" = some none)
    (na_function_Bound : PySem.W.findIn K (.ref C_Bound) "function" = some none)
    (na_held_Parts : PySem.W.findIn K (.ref C_Parts) "held" = some none)
    (na_lines_Store : PySem.W.findIn K (.ref C_Store) "lines" = some none)
    (na_methods_Kin : PySem.W.findIn K (.ref C_Kin) "methods" = some none)
    (na_most_Writer : PySem.W.findIn K (.ref C_Writer) "most" = some none)
    (na_name_Builtin : PySem.W.findIn K (.ref C_Builtin) "name" = some none)
    (na_name_Kin : PySem.W.findIn K (.ref C_Kin) "name" = some none)
    (na_named_Instance : PySem.W.findIn K (.ref C_Instance) "named" = some none)
    (na_number_Ref : PySem.W.findIn K (.ref C_Ref) "number" = some none)
    (na_number_Closure : PySem.W.findIn K (.ref C_Closure) "number" = some none)
    (na_output_Store : PySem.W.findIn K (.ref C_Store) "output" = some none)
    (na_owner_Instance : PySem.W.findIn K (.ref C_Instance) "owner" = some none)
    (na_owner_Bound : PySem.W.findIn K (.ref C_Bound) "owner" = some none)
    (na_parent_Kin : PySem.W.findIn K (.ref C_Kin) "parent" = some none)
    (na_pieces_Writer : PySem.W.findIn K (.ref C_Writer) "pieces" = some none)
    (na_rest_Cursor : PySem.W.findIn K (.ref C_Cursor) "rest" = some none)
    (na_scope_Closure : PySem.W.findIn K (.ref C_Closure) "scope" = some none)
    (na_store_Writer : PySem.W.findIn K (.ref C_Writer) "store" = some none)
    (na_taken_Store : PySem.W.findIn K (.ref C_Store) "taken" = some none)
    (na_things_Store : PySem.W.findIn K (.ref C_Store) "things" = some none)
    (na_wanted_Closure : PySem.W.findIn K (.ref C_Closure) "wanted" = some none)
    (na_written_Writer : PySem.W.findIn K (.ref C_Writer) "written" = some none)
    (oo_Ref_Ref : PySem.W.kitOne K (.ref C_Ref) (.ref C_Ref) = some (decide (C_Ref = C_Ref)))
    (oo_Ref_Builtin : PySem.W.kitOne K (.ref C_Ref) (.ref C_Builtin) = some (decide (C_Ref = C_Builtin)))
    (oo_Ref_Kin : PySem.W.kitOne K (.ref C_Ref) (.ref C_Kin) = some (decide (C_Ref = C_Kin)))
    (oo_Ref_Instance : PySem.W.kitOne K (.ref C_Ref) (.ref C_Instance) = some (decide (C_Ref = C_Instance)))
    (oo_Ref_Table : PySem.W.kitOne K (.ref C_Ref) (.ref C_Table) = some (decide (C_Ref = C_Table)))
    (oo_Ref_Parts : PySem.W.kitOne K (.ref C_Ref) (.ref C_Parts) = some (decide (C_Ref = C_Parts)))
    (oo_Builtin_Ref : PySem.W.kitOne K (.ref C_Builtin) (.ref C_Ref) = some (decide (C_Builtin = C_Ref)))
    (oo_Builtin_Builtin : PySem.W.kitOne K (.ref C_Builtin) (.ref C_Builtin) = some (decide (C_Builtin = C_Builtin)))
    (oo_Builtin_Kin : PySem.W.kitOne K (.ref C_Builtin) (.ref C_Kin) = some (decide (C_Builtin = C_Kin)))
    (oo_Builtin_Instance : PySem.W.kitOne K (.ref C_Builtin) (.ref C_Instance) = some (decide (C_Builtin = C_Instance)))
    (oo_Builtin_Table : PySem.W.kitOne K (.ref C_Builtin) (.ref C_Table) = some (decide (C_Builtin = C_Table)))
    (oo_Builtin_Parts : PySem.W.kitOne K (.ref C_Builtin) (.ref C_Parts) = some (decide (C_Builtin = C_Parts)))
    (oo_Parts_Ref : PySem.W.kitOne K (.ref C_Parts) (.ref C_Ref) = some (decide (C_Parts = C_Ref)))
    (oo_Parts_Builtin : PySem.W.kitOne K (.ref C_Parts) (.ref C_Builtin) = some (decide (C_Parts = C_Builtin)))
    (oo_Parts_Kin : PySem.W.kitOne K (.ref C_Parts) (.ref C_Kin) = some (decide (C_Parts = C_Kin)))
    (oo_Parts_Instance : PySem.W.kitOne K (.ref C_Parts) (.ref C_Instance) = some (decide (C_Parts = C_Instance)))
    (oo_Parts_Table : PySem.W.kitOne K (.ref C_Parts) (.ref C_Table) = some (decide (C_Parts = C_Table)))
    (oo_Parts_Parts : PySem.W.kitOne K (.ref C_Parts) (.ref C_Parts) = some (decide (C_Parts = C_Parts)))
    (oo_Table_Ref : PySem.W.kitOne K (.ref C_Table) (.ref C_Ref) = some (decide (C_Table = C_Ref)))
    (oo_Table_Builtin : PySem.W.kitOne K (.ref C_Table) (.ref C_Builtin) = some (decide (C_Table = C_Builtin)))
    (oo_Table_Kin : PySem.W.kitOne K (.ref C_Table) (.ref C_Kin) = some (decide (C_Table = C_Kin)))
    (oo_Table_Instance : PySem.W.kitOne K (.ref C_Table) (.ref C_Instance) = some (decide (C_Table = C_Instance)))
    (oo_Table_Table : PySem.W.kitOne K (.ref C_Table) (.ref C_Table) = some (decide (C_Table = C_Table)))
    (oo_Table_Parts : PySem.W.kitOne K (.ref C_Table) (.ref C_Parts) = some (decide (C_Table = C_Parts)))
    (oo_Instance_Ref : PySem.W.kitOne K (.ref C_Instance) (.ref C_Ref) = some (decide (C_Instance = C_Ref)))
    (oo_Instance_Builtin : PySem.W.kitOne K (.ref C_Instance) (.ref C_Builtin) = some (decide (C_Instance = C_Builtin)))
    (oo_Instance_Kin : PySem.W.kitOne K (.ref C_Instance) (.ref C_Kin) = some (decide (C_Instance = C_Kin)))
    (oo_Instance_Instance : PySem.W.kitOne K (.ref C_Instance) (.ref C_Instance) = some (decide (C_Instance = C_Instance)))
    (oo_Instance_Table : PySem.W.kitOne K (.ref C_Instance) (.ref C_Table) = some (decide (C_Instance = C_Table)))
    (oo_Instance_Parts : PySem.W.kitOne K (.ref C_Instance) (.ref C_Parts) = some (decide (C_Instance = C_Parts)))
    (oo_Kin_Ref : PySem.W.kitOne K (.ref C_Kin) (.ref C_Ref) = some (decide (C_Kin = C_Ref)))
    (oo_Kin_Builtin : PySem.W.kitOne K (.ref C_Kin) (.ref C_Builtin) = some (decide (C_Kin = C_Builtin)))
    (oo_Kin_Kin : PySem.W.kitOne K (.ref C_Kin) (.ref C_Kin) = some (decide (C_Kin = C_Kin)))
    (oo_Kin_Instance : PySem.W.kitOne K (.ref C_Kin) (.ref C_Instance) = some (decide (C_Kin = C_Instance)))
    (oo_Kin_Table : PySem.W.kitOne K (.ref C_Kin) (.ref C_Table) = some (decide (C_Kin = C_Table)))
    (oo_Kin_Parts : PySem.W.kitOne K (.ref C_Kin) (.ref C_Parts) = some (decide (C_Kin = C_Parts)))
    (oo_Closure_Ref : PySem.W.kitOne K (.ref C_Closure) (.ref C_Ref) = some (decide (C_Closure = C_Ref)))
    (oo_Closure_Builtin : PySem.W.kitOne K (.ref C_Closure) (.ref C_Builtin) = some (decide (C_Closure = C_Builtin)))
    (oo_Closure_Kin : PySem.W.kitOne K (.ref C_Closure) (.ref C_Kin) = some (decide (C_Closure = C_Kin)))
    (oo_Closure_Instance : PySem.W.kitOne K (.ref C_Closure) (.ref C_Instance) = some (decide (C_Closure = C_Instance)))
    (oo_Closure_Table : PySem.W.kitOne K (.ref C_Closure) (.ref C_Table) = some (decide (C_Closure = C_Table)))
    (oo_Closure_Parts : PySem.W.kitOne K (.ref C_Closure) (.ref C_Parts) = some (decide (C_Closure = C_Parts)))
    (oo_Bound_Ref : PySem.W.kitOne K (.ref C_Bound) (.ref C_Ref) = some (decide (C_Bound = C_Ref)))
    (oo_Bound_Builtin : PySem.W.kitOne K (.ref C_Bound) (.ref C_Builtin) = some (decide (C_Bound = C_Builtin)))
    (oo_Bound_Kin : PySem.W.kitOne K (.ref C_Bound) (.ref C_Kin) = some (decide (C_Bound = C_Kin)))
    (oo_Bound_Instance : PySem.W.kitOne K (.ref C_Bound) (.ref C_Instance) = some (decide (C_Bound = C_Instance)))
    (oo_Bound_Table : PySem.W.kitOne K (.ref C_Bound) (.ref C_Table) = some (decide (C_Bound = C_Table)))
    (oo_Bound_Parts : PySem.W.kitOne K (.ref C_Bound) (.ref C_Parts) = some (decide (C_Bound = C_Parts)))
    (oo_Cursor_Ref : PySem.W.kitOne K (.ref C_Cursor) (.ref C_Ref) = some (decide (C_Cursor = C_Ref)))
    (oo_Cursor_Builtin : PySem.W.kitOne K (.ref C_Cursor) (.ref C_Builtin) = some (decide (C_Cursor = C_Builtin)))
    (oo_Cursor_Kin : PySem.W.kitOne K (.ref C_Cursor) (.ref C_Kin) = some (decide (C_Cursor = C_Kin)))
    (oo_Cursor_Instance : PySem.W.kitOne K (.ref C_Cursor) (.ref C_Instance) = some (decide (C_Cursor = C_Instance)))
    (oo_Cursor_Table : PySem.W.kitOne K (.ref C_Cursor) (.ref C_Table) = some (decide (C_Cursor = C_Table)))
    (oo_Cursor_Parts : PySem.W.kitOne K (.ref C_Cursor) (.ref C_Parts) = some (decide (C_Cursor = C_Parts)))
    (oo_Writer_Ref : PySem.W.kitOne K (.ref C_Writer) (.ref C_Ref) = some (decide (C_Writer = C_Ref)))
    (oo_Writer_Builtin : PySem.W.kitOne K (.ref C_Writer) (.ref C_Builtin) = some (decide (C_Writer = C_Builtin)))
    (oo_Writer_Kin : PySem.W.kitOne K (.ref C_Writer) (.ref C_Kin) = some (decide (C_Writer = C_Kin)))
    (oo_Writer_Instance : PySem.W.kitOne K (.ref C_Writer) (.ref C_Instance) = some (decide (C_Writer = C_Instance)))
    (oo_Writer_Table : PySem.W.kitOne K (.ref C_Writer) (.ref C_Table) = some (decide (C_Writer = C_Table)))
    (oo_Writer_Parts : PySem.W.kitOne K (.ref C_Writer) (.ref C_Parts) = some (decide (C_Writer = C_Parts)))
    (oo_Store_Ref : PySem.W.kitOne K (.ref C_Store) (.ref C_Ref) = some (decide (C_Store = C_Ref)))
    (oo_Store_Builtin : PySem.W.kitOne K (.ref C_Store) (.ref C_Builtin) = some (decide (C_Store = C_Builtin)))
    (oo_Store_Kin : PySem.W.kitOne K (.ref C_Store) (.ref C_Kin) = some (decide (C_Store = C_Kin)))
    (oo_Store_Instance : PySem.W.kitOne K (.ref C_Store) (.ref C_Instance) = some (decide (C_Store = C_Instance)))
    (oo_Store_Table : PySem.W.kitOne K (.ref C_Store) (.ref C_Table) = some (decide (C_Store = C_Table)))
    (oo_Store_Parts : PySem.W.kitOne K (.ref C_Store) (.ref C_Parts) = some (decide (C_Store = C_Parts)))
    (bo_NoneType_Ref : PySem.W.kitOne K (.type "NoneType") (.ref C_Ref) = some false)
    (bo_NoneType_Builtin : PySem.W.kitOne K (.type "NoneType") (.ref C_Builtin) = some false)
    (bo_NoneType_Kin : PySem.W.kitOne K (.type "NoneType") (.ref C_Kin) = some false)
    (bo_NoneType_Instance : PySem.W.kitOne K (.type "NoneType") (.ref C_Instance) = some false)
    (bo_NoneType_Table : PySem.W.kitOne K (.type "NoneType") (.ref C_Table) = some false)
    (bo_NoneType_Parts : PySem.W.kitOne K (.type "NoneType") (.ref C_Parts) = some false)
    (bo_bool_Ref : PySem.W.kitOne K (.type "bool") (.ref C_Ref) = some false)
    (bo_bool_Builtin : PySem.W.kitOne K (.type "bool") (.ref C_Builtin) = some false)
    (bo_bool_Kin : PySem.W.kitOne K (.type "bool") (.ref C_Kin) = some false)
    (bo_bool_Instance : PySem.W.kitOne K (.type "bool") (.ref C_Instance) = some false)
    (bo_bool_Table : PySem.W.kitOne K (.type "bool") (.ref C_Table) = some false)
    (bo_bool_Parts : PySem.W.kitOne K (.type "bool") (.ref C_Parts) = some false)
    (bo_int_Ref : PySem.W.kitOne K (.type "int") (.ref C_Ref) = some false)
    (bo_int_Builtin : PySem.W.kitOne K (.type "int") (.ref C_Builtin) = some false)
    (bo_int_Kin : PySem.W.kitOne K (.type "int") (.ref C_Kin) = some false)
    (bo_int_Instance : PySem.W.kitOne K (.type "int") (.ref C_Instance) = some false)
    (bo_int_Table : PySem.W.kitOne K (.type "int") (.ref C_Table) = some false)
    (bo_int_Parts : PySem.W.kitOne K (.type "int") (.ref C_Parts) = some false)
    (bo_str_Ref : PySem.W.kitOne K (.type "str") (.ref C_Ref) = some false)
    (bo_str_Builtin : PySem.W.kitOne K (.type "str") (.ref C_Builtin) = some false)
    (bo_str_Kin : PySem.W.kitOne K (.type "str") (.ref C_Kin) = some false)
    (bo_str_Instance : PySem.W.kitOne K (.type "str") (.ref C_Instance) = some false)
    (bo_str_Table : PySem.W.kitOne K (.type "str") (.ref C_Table) = some false)
    (bo_str_Parts : PySem.W.kitOne K (.type "str") (.ref C_Parts) = some false)
    (bo_list_Ref : PySem.W.kitOne K (.type "list") (.ref C_Ref) = some false)
    (bo_list_Builtin : PySem.W.kitOne K (.type "list") (.ref C_Builtin) = some false)
    (bo_list_Kin : PySem.W.kitOne K (.type "list") (.ref C_Kin) = some false)
    (bo_list_Instance : PySem.W.kitOne K (.type "list") (.ref C_Instance) = some false)
    (bo_list_Table : PySem.W.kitOne K (.type "list") (.ref C_Table) = some false)
    (bo_list_Parts : PySem.W.kitOne K (.type "list") (.ref C_Parts) = some false)
    (bo_tuple_Ref : PySem.W.kitOne K (.type "tuple") (.ref C_Ref) = some false)
    (bo_tuple_Builtin : PySem.W.kitOne K (.type "tuple") (.ref C_Builtin) = some false)
    (bo_tuple_Kin : PySem.W.kitOne K (.type "tuple") (.ref C_Kin) = some false)
    (bo_tuple_Instance : PySem.W.kitOne K (.type "tuple") (.ref C_Instance) = some false)
    (bo_tuple_Table : PySem.W.kitOne K (.type "tuple") (.ref C_Table) = some false)
    (bo_tuple_Parts : PySem.W.kitOne K (.type "tuple") (.ref C_Parts) = some false)
    (bo_dict_Ref : PySem.W.kitOne K (.type "dict") (.ref C_Ref) = some false)
    (bo_dict_Builtin : PySem.W.kitOne K (.type "dict") (.ref C_Builtin) = some false)
    (bo_dict_Kin : PySem.W.kitOne K (.type "dict") (.ref C_Kin) = some false)
    (bo_dict_Instance : PySem.W.kitOne K (.type "dict") (.ref C_Instance) = some false)
    (bo_dict_Table : PySem.W.kitOne K (.type "dict") (.ref C_Table) = some false)
    (bo_dict_Parts : PySem.W.kitOne K (.type "dict") (.ref C_Parts) = some false)
    (ob_Ref_bool : PySem.W.kitOne K (.ref C_Ref) (.type "bool") = some false)
    (ob_Ref_int : PySem.W.kitOne K (.ref C_Ref) (.type "int") = some false)
    (ob_Ref_str : PySem.W.kitOne K (.ref C_Ref) (.type "str") = some false)
    (ob_Ref_list : PySem.W.kitOne K (.ref C_Ref) (.type "list") = some false)
    (ob_Ref_tuple : PySem.W.kitOne K (.ref C_Ref) (.type "tuple") = some false)
    (ob_Ref_dict : PySem.W.kitOne K (.ref C_Ref) (.type "dict") = some false)
    (ob_Builtin_bool : PySem.W.kitOne K (.ref C_Builtin) (.type "bool") = some false)
    (ob_Builtin_int : PySem.W.kitOne K (.ref C_Builtin) (.type "int") = some false)
    (ob_Builtin_str : PySem.W.kitOne K (.ref C_Builtin) (.type "str") = some false)
    (ob_Builtin_list : PySem.W.kitOne K (.ref C_Builtin) (.type "list") = some false)
    (ob_Builtin_tuple : PySem.W.kitOne K (.ref C_Builtin) (.type "tuple") = some false)
    (ob_Builtin_dict : PySem.W.kitOne K (.ref C_Builtin) (.type "dict") = some false)
    (ob_Parts_bool : PySem.W.kitOne K (.ref C_Parts) (.type "bool") = some false)
    (ob_Parts_int : PySem.W.kitOne K (.ref C_Parts) (.type "int") = some false)
    (ob_Parts_str : PySem.W.kitOne K (.ref C_Parts) (.type "str") = some false)
    (ob_Parts_list : PySem.W.kitOne K (.ref C_Parts) (.type "list") = some false)
    (ob_Parts_tuple : PySem.W.kitOne K (.ref C_Parts) (.type "tuple") = some false)
    (ob_Parts_dict : PySem.W.kitOne K (.ref C_Parts) (.type "dict") = some false)
    (ob_Table_bool : PySem.W.kitOne K (.ref C_Table) (.type "bool") = some false)
    (ob_Table_int : PySem.W.kitOne K (.ref C_Table) (.type "int") = some false)
    (ob_Table_str : PySem.W.kitOne K (.ref C_Table) (.type "str") = some false)
    (ob_Table_list : PySem.W.kitOne K (.ref C_Table) (.type "list") = some false)
    (ob_Table_tuple : PySem.W.kitOne K (.ref C_Table) (.type "tuple") = some false)
    (ob_Table_dict : PySem.W.kitOne K (.ref C_Table) (.type "dict") = some false)
    (ob_Instance_bool : PySem.W.kitOne K (.ref C_Instance) (.type "bool") = some false)
    (ob_Instance_int : PySem.W.kitOne K (.ref C_Instance) (.type "int") = some false)
    (ob_Instance_str : PySem.W.kitOne K (.ref C_Instance) (.type "str") = some false)
    (ob_Instance_list : PySem.W.kitOne K (.ref C_Instance) (.type "list") = some false)
    (ob_Instance_tuple : PySem.W.kitOne K (.ref C_Instance) (.type "tuple") = some false)
    (ob_Instance_dict : PySem.W.kitOne K (.ref C_Instance) (.type "dict") = some false)
    (ob_Kin_bool : PySem.W.kitOne K (.ref C_Kin) (.type "bool") = some false)
    (ob_Kin_int : PySem.W.kitOne K (.ref C_Kin) (.type "int") = some false)
    (ob_Kin_str : PySem.W.kitOne K (.ref C_Kin) (.type "str") = some false)
    (ob_Kin_list : PySem.W.kitOne K (.ref C_Kin) (.type "list") = some false)
    (ob_Kin_tuple : PySem.W.kitOne K (.ref C_Kin) (.type "tuple") = some false)
    (ob_Kin_dict : PySem.W.kitOne K (.ref C_Kin) (.type "dict") = some false)
    (ob_Closure_bool : PySem.W.kitOne K (.ref C_Closure) (.type "bool") = some false)
    (ob_Closure_int : PySem.W.kitOne K (.ref C_Closure) (.type "int") = some false)
    (ob_Closure_str : PySem.W.kitOne K (.ref C_Closure) (.type "str") = some false)
    (ob_Closure_list : PySem.W.kitOne K (.ref C_Closure) (.type "list") = some false)
    (ob_Closure_tuple : PySem.W.kitOne K (.ref C_Closure) (.type "tuple") = some false)
    (ob_Closure_dict : PySem.W.kitOne K (.ref C_Closure) (.type "dict") = some false)
    (ob_Bound_bool : PySem.W.kitOne K (.ref C_Bound) (.type "bool") = some false)
    (ob_Bound_int : PySem.W.kitOne K (.ref C_Bound) (.type "int") = some false)
    (ob_Bound_str : PySem.W.kitOne K (.ref C_Bound) (.type "str") = some false)
    (ob_Bound_list : PySem.W.kitOne K (.ref C_Bound) (.type "list") = some false)
    (ob_Bound_tuple : PySem.W.kitOne K (.ref C_Bound) (.type "tuple") = some false)
    (ob_Bound_dict : PySem.W.kitOne K (.ref C_Bound) (.type "dict") = some false)
    (ob_Cursor_bool : PySem.W.kitOne K (.ref C_Cursor) (.type "bool") = some false)
    (ob_Cursor_int : PySem.W.kitOne K (.ref C_Cursor) (.type "int") = some false)
    (ob_Cursor_str : PySem.W.kitOne K (.ref C_Cursor) (.type "str") = some false)
    (ob_Cursor_list : PySem.W.kitOne K (.ref C_Cursor) (.type "list") = some false)
    (ob_Cursor_tuple : PySem.W.kitOne K (.ref C_Cursor) (.type "tuple") = some false)
    (ob_Cursor_dict : PySem.W.kitOne K (.ref C_Cursor) (.type "dict") = some false)
    (ob_Writer_bool : PySem.W.kitOne K (.ref C_Writer) (.type "bool") = some false)
    (ob_Writer_int : PySem.W.kitOne K (.ref C_Writer) (.type "int") = some false)
    (ob_Writer_str : PySem.W.kitOne K (.ref C_Writer) (.type "str") = some false)
    (ob_Writer_list : PySem.W.kitOne K (.ref C_Writer) (.type "list") = some false)
    (ob_Writer_tuple : PySem.W.kitOne K (.ref C_Writer) (.type "tuple") = some false)
    (ob_Writer_dict : PySem.W.kitOne K (.ref C_Writer) (.type "dict") = some false)
    (ob_Store_bool : PySem.W.kitOne K (.ref C_Store) (.type "bool") = some false)
    (ob_Store_int : PySem.W.kitOne K (.ref C_Store) (.type "int") = some false)
    (ob_Store_str : PySem.W.kitOne K (.ref C_Store) (.type "str") = some false)
    (ob_Store_list : PySem.W.kitOne K (.ref C_Store) (.type "list") = some false)
    (ob_Store_tuple : PySem.W.kitOne K (.ref C_Store) (.type "tuple") = some false)
    (ob_Store_dict : PySem.W.kitOne K (.ref C_Store) (.type "dict") = some false)
    (ne_Ref_Builtin : C_Ref ≠ C_Builtin)
    (ne_Ref_Parts : C_Ref ≠ C_Parts)
    (ne_Ref_Table : C_Ref ≠ C_Table)
    (ne_Ref_Instance : C_Ref ≠ C_Instance)
    (ne_Ref_Kin : C_Ref ≠ C_Kin)
    (ne_Ref_Closure : C_Ref ≠ C_Closure)
    (ne_Ref_Bound : C_Ref ≠ C_Bound)
    (ne_Ref_Cursor : C_Ref ≠ C_Cursor)
    (ne_Ref_Writer : C_Ref ≠ C_Writer)
    (ne_Ref_Store : C_Ref ≠ C_Store)
    (ne_Builtin_Parts : C_Builtin ≠ C_Parts)
    (ne_Builtin_Table : C_Builtin ≠ C_Table)
    (ne_Builtin_Instance : C_Builtin ≠ C_Instance)
    (ne_Builtin_Kin : C_Builtin ≠ C_Kin)
    (ne_Builtin_Closure : C_Builtin ≠ C_Closure)
    (ne_Builtin_Bound : C_Builtin ≠ C_Bound)
    (ne_Builtin_Cursor : C_Builtin ≠ C_Cursor)
    (ne_Builtin_Writer : C_Builtin ≠ C_Writer)
    (ne_Builtin_Store : C_Builtin ≠ C_Store)
    (ne_Parts_Table : C_Parts ≠ C_Table)
    (ne_Parts_Instance : C_Parts ≠ C_Instance)
    (ne_Parts_Kin : C_Parts ≠ C_Kin)
    (ne_Parts_Closure : C_Parts ≠ C_Closure)
    (ne_Parts_Bound : C_Parts ≠ C_Bound)
    (ne_Parts_Cursor : C_Parts ≠ C_Cursor)
    (ne_Parts_Writer : C_Parts ≠ C_Writer)
    (ne_Parts_Store : C_Parts ≠ C_Store)
    (ne_Table_Instance : C_Table ≠ C_Instance)
    (ne_Table_Kin : C_Table ≠ C_Kin)
    (ne_Table_Closure : C_Table ≠ C_Closure)
    (ne_Table_Bound : C_Table ≠ C_Bound)
    (ne_Table_Cursor : C_Table ≠ C_Cursor)
    (ne_Table_Writer : C_Table ≠ C_Writer)
    (ne_Table_Store : C_Table ≠ C_Store)
    (ne_Instance_Kin : C_Instance ≠ C_Kin)
    (ne_Instance_Closure : C_Instance ≠ C_Closure)
    (ne_Instance_Bound : C_Instance ≠ C_Bound)
    (ne_Instance_Cursor : C_Instance ≠ C_Cursor)
    (ne_Instance_Writer : C_Instance ≠ C_Writer)
    (ne_Instance_Store : C_Instance ≠ C_Store)
    (ne_Kin_Closure : C_Kin ≠ C_Closure)
    (ne_Kin_Bound : C_Kin ≠ C_Bound)
    (ne_Kin_Cursor : C_Kin ≠ C_Cursor)
    (ne_Kin_Writer : C_Kin ≠ C_Writer)
    (ne_Kin_Store : C_Kin ≠ C_Store)
    (ne_Closure_Bound : C_Closure ≠ C_Bound)
    (ne_Closure_Cursor : C_Closure ≠ C_Cursor)
    (ne_Closure_Writer : C_Closure ≠ C_Writer)
    (ne_Closure_Store : C_Closure ≠ C_Store)
    (ne_Bound_Cursor : C_Bound ≠ C_Cursor)
    (ne_Bound_Writer : C_Bound ≠ C_Writer)
    (ne_Bound_Store : C_Bound ≠ C_Store)
    (ne_Cursor_Writer : C_Cursor ≠ C_Writer)
    (ne_Cursor_Store : C_Cursor ≠ C_Store)
    (ne_Writer_Store : C_Writer ≠ C_Store)
    (f0 : FnFact K "_law_cell" "_law_cell" s_law_cell) (f1 : FnFact K "_law_begin" "_law_begin" s_law_begin) (f2 : FnFact K "_law_draw" "_law_draw" s_law_draw) (f3 : MFact K C_Ref "__init__" "Ref.__init__" s_Ref___init__) (f4 : MFact K C_Builtin "__init__" "Builtin.__init__" s_Builtin___init__) (f5 : MFact K C_Instance "__init__" "Instance.__init__" s_Instance___init__) (f6 : MFact K C_Kin "__init__" "Kin.__init__" s_Kin___init__) (f7 : MFact K C_Parts "__init__" "Parts.__init__" s_Parts___init__) (f8 : MFact K C_Closure "__init__" "Closure.__init__" s_Closure___init__) (f9 : MFact K C_Bound "__init__" "Bound.__init__" s_Bound___init__) (f10 : MFact K C_Cursor "__init__" "Cursor.__init__" s_Cursor___init__) (f11 : MFact K C_Writer "__init__" "Writer.__init__" s_Writer___init__) (f12 : MFact K C_Table "__init__" "Table.__init__" s_Table___init__) (f13 : FnFact K "key_of" "key_of" s_key_of) (f14 : MFact K C_Table "put" "Table.put" s_Table_put) (f15 : MFact K C_Table "pairs" "Table.pairs" s_Table_pairs) (f16 : MFact K C_Store "__init__" "Store.__init__" s_Store___init__) (f17 : MFact K C_Store "make" "Store.make" s_Store_make) (f18 : MFact K C_Store "at" "Store.at" s_Store_at) (f19 : FnFact K "thing_of" "thing_of" s_thing_of) (f20 : FnFact K "_law_pick" "_law_pick" s_law_pick) (f21 : FnFact K "quoted" "quoted" s_quoted) (f22 : FnFact K "plain" "plain" s_plain) (f23 : FnFact K "head_of" "head_of" s_head_of) (f24 : MFact K C_Writer "put" "Writer.put" s_Writer_put) (f25 : MFact K C_Writer "write_box" "Writer.write_box" s_Writer_write_box) (f26 : MFact K C_Writer "write_parts" "Writer.write_parts" s_Writer_write_parts) (f27 : MFact K C_Writer "write_pairs" "Writer.write_pairs" s_Writer_write_pairs) (f28 : MFact K C_Writer "write" "Writer.write" s_Writer_write) (f29 : FnFact K "write_value" "write_value" s_write_value) (f30 : FnFact K "text_of" "text_of" s_text_of) (f31 : FnFact K "show" "show" s_show) (f32 : FnFact K "_law_quoted" "_law_quoted" s_law_quoted) (f33 : FnFact K "_law_plain" "_law_plain" s_law_plain) (f34 : FnFact K "_law_form" "_law_form" s_law_form) (f35 : FnFact K "_law_value" "_law_value" s_law_value) (f36 : MFact K C_Ref "__eq__" "Ref.__eq__" s_Ref___eq__) (f37 : MFact K C_Builtin "__eq__" "Builtin.__eq__" s_Builtin___eq__) (f38 : FnFact K "_law_fill" "_law_fill" s_law_fill) (f39 : FnFact K "law" "law" s_law)
    (z_abs : PySem.W.nsIn K mainGlobals "abs" = some none) (z_bool : PySem.W.nsIn K mainGlobals "bool" = some none) (z_dict : PySem.W.nsIn K mainGlobals "dict" = some none) (z_enumerate : PySem.W.nsIn K mainGlobals "enumerate" = some none) (z_int : PySem.W.nsIn K mainGlobals "int" = some none) (z_isinstance : PySem.W.nsIn K mainGlobals "isinstance" = some none) (z_len : PySem.W.nsIn K mainGlobals "len" = some none) (z_list : PySem.W.nsIn K mainGlobals "list" = some none) (z_max : PySem.W.nsIn K mainGlobals "max" = some none) (z_min : PySem.W.nsIn K mainGlobals "min" = some none) (z_range : PySem.W.nsIn K mainGlobals "range" = some none) (z_str : PySem.W.nsIn K mainGlobals "str" = some none) (z_tuple : PySem.W.nsIn K mainGlobals "tuple" = some none) (z_zip : PySem.W.nsIn K mainGlobals "zip" = some none)
    (q_ERROR : ∃ t, PySem.W.nsIn K mainGlobals "ERROR" = some (some (.str "Error" t))) (q_MOST_DEEP : ∃ t, PySem.W.nsIn K mainGlobals "MOST_DEEP" = some (some (.int 10 t))) (q_MOST_SHOWN : ∃ t, PySem.W.nsIn K mainGlobals "MOST_SHOWN" = some (some (.int 100 t))) :
    ∃ fd : FuncData, (∀ (s : Shared) (v : Value), BindsTo s fd ⟨[v], []⟩ [("script", v)]) ∧ ∀ base : Heap, K.In base → base.Ns mainGlobals mg → FnOk P w K mg base CX0 46 fa fd ["script"] (spLaw K) := by
  have T : Txt K mg ⟨C_Ref, C_Builtin, C_Parts, C_Table, C_Instance, C_Kin, C_Closure, C_Bound, C_Cursor, C_Writer, C_Store⟩ := ⟨PySem.W.mg_none_of X G z_abs,
    PySem.W.mg_none_of X G z_bool,
    PySem.W.mg_none_of X G z_dict,
    PySem.W.mg_none_of X G z_enumerate,
    PySem.W.mg_none_of X G z_int,
    PySem.W.mg_none_of X G z_isinstance,
    PySem.W.mg_none_of X G z_len,
    PySem.W.mg_none_of X G z_list,
    PySem.W.mg_none_of X G z_max,
    PySem.W.mg_none_of X G z_min,
    PySem.W.mg_none_of X G z_range,
    PySem.W.mg_none_of X G z_str,
    PySem.W.mg_none_of X G z_tuple,
    PySem.W.mg_none_of X G z_zip,
    (let ⟨t, h⟩ := q_ERROR; ⟨t, PySem.W.mg_of X G h⟩),
    (let ⟨t, h⟩ := q_MOST_DEEP; ⟨t, PySem.W.mg_of X G h⟩),
    (let ⟨t, h⟩ := q_MOST_SHOWN; ⟨t, PySem.W.mg_of X G h⟩),
    PySem.W.mg_of X G n_Ref,
    x_Ref.cls,
    ⟨x_Ref.mks, x_Ref.kp, PySem.W.mg_of X G n_Ref⟩,
    PySem.W.mg_of X G n_Builtin,
    x_Builtin.cls,
    ⟨x_Builtin.mks, x_Builtin.kp, PySem.W.mg_of X G n_Builtin⟩,
    PySem.W.mg_of X G n_Parts,
    x_Parts.cls,
    ⟨x_Parts.mks, x_Parts.kp, PySem.W.mg_of X G n_Parts⟩,
    PySem.W.mg_of X G n_Table,
    x_Table.cls,
    ⟨x_Table.mks, x_Table.kp, PySem.W.mg_of X G n_Table⟩,
    PySem.W.mg_of X G n_Instance,
    x_Instance.cls,
    ⟨x_Instance.mks, x_Instance.kp, PySem.W.mg_of X G n_Instance⟩,
    PySem.W.mg_of X G n_Kin,
    x_Kin.cls,
    ⟨x_Kin.mks, x_Kin.kp, PySem.W.mg_of X G n_Kin⟩,
    PySem.W.mg_of X G n_Closure,
    x_Closure.cls,
    ⟨x_Closure.mks, x_Closure.kp, PySem.W.mg_of X G n_Closure⟩,
    PySem.W.mg_of X G n_Bound,
    x_Bound.cls,
    ⟨x_Bound.mks, x_Bound.kp, PySem.W.mg_of X G n_Bound⟩,
    PySem.W.mg_of X G n_Cursor,
    x_Cursor.cls,
    ⟨x_Cursor.mks, x_Cursor.kp, PySem.W.mg_of X G n_Cursor⟩,
    PySem.W.mg_of X G n_Writer,
    x_Writer.cls,
    ⟨x_Writer.mks, x_Writer.kp, PySem.W.mg_of X G n_Writer⟩,
    PySem.W.mg_of X G n_Store,
    x_Store.cls,
    ⟨x_Store.mks, x_Store.kp, PySem.W.mg_of X G n_Store⟩,
    (all_cons ⟨x_Table.cls, na__rows_Table⟩ all_nil),
    (all_cons ⟨x_Writer.cls, na_around_Writer⟩ all_nil),
    (all_cons ⟨x_Bound.cls, na_function_Bound⟩ all_nil),
    (all_cons ⟨x_Parts.cls, na_held_Parts⟩ all_nil),
    (all_cons ⟨x_Store.cls, na_lines_Store⟩ all_nil),
    (all_cons ⟨x_Kin.cls, na_methods_Kin⟩ all_nil),
    (all_cons ⟨x_Writer.cls, na_most_Writer⟩ all_nil),
    (all_cons ⟨x_Builtin.cls, na_name_Builtin⟩ (all_cons ⟨x_Kin.cls, na_name_Kin⟩ all_nil)),
    (all_cons ⟨x_Instance.cls, na_named_Instance⟩ all_nil),
    (all_cons ⟨x_Ref.cls, na_number_Ref⟩ (all_cons ⟨x_Closure.cls, na_number_Closure⟩ all_nil)),
    (all_cons ⟨x_Store.cls, na_output_Store⟩ all_nil),
    (all_cons ⟨x_Instance.cls, na_owner_Instance⟩ (all_cons ⟨x_Bound.cls, na_owner_Bound⟩ all_nil)),
    (all_cons ⟨x_Kin.cls, na_parent_Kin⟩ all_nil),
    (all_cons ⟨x_Writer.cls, na_pieces_Writer⟩ all_nil),
    (all_cons ⟨x_Cursor.cls, na_rest_Cursor⟩ all_nil),
    (all_cons ⟨x_Closure.cls, na_scope_Closure⟩ all_nil),
    (all_cons ⟨x_Writer.cls, na_store_Writer⟩ all_nil),
    (all_cons ⟨x_Store.cls, na_taken_Store⟩ all_nil),
    (all_cons ⟨x_Store.cls, na_things_Store⟩ all_nil),
    (all_cons ⟨x_Closure.cls, na_wanted_Closure⟩ all_nil),
    (all_cons ⟨x_Writer.cls, na_written_Writer⟩ all_nil),
    ob,
    ⟨(all_cons (x_Ref.ocls ob) (all_cons (x_Builtin.ocls ob) (all_cons (x_Parts.ocls ob) (all_cons (x_Table.ocls ob) (all_cons (x_Instance.ocls ob) (all_cons (x_Kin.ocls ob) (all_cons (x_Closure.ocls ob) (all_cons (x_Bound.ocls ob) (all_cons (x_Cursor.ocls ob) (all_cons (x_Writer.ocls ob) (all_cons (x_Store.ocls ob) all_nil))))))))))), (all_cons (all_cons oo_Ref_Ref (all_cons oo_Ref_Builtin (all_cons oo_Ref_Kin (all_cons oo_Ref_Instance (all_cons oo_Ref_Table (all_cons oo_Ref_Parts all_nil)))))) (all_cons (all_cons oo_Builtin_Ref (all_cons oo_Builtin_Builtin (all_cons oo_Builtin_Kin (all_cons oo_Builtin_Instance (all_cons oo_Builtin_Table (all_cons oo_Builtin_Parts all_nil)))))) (all_cons (all_cons oo_Parts_Ref (all_cons oo_Parts_Builtin (all_cons oo_Parts_Kin (all_cons oo_Parts_Instance (all_cons oo_Parts_Table (all_cons oo_Parts_Parts all_nil)))))) (all_cons (all_cons oo_Table_Ref (all_cons oo_Table_Builtin (all_cons oo_Table_Kin (all_cons oo_Table_Instance (all_cons oo_Table_Table (all_cons oo_Table_Parts all_nil)))))) (all_cons (all_cons oo_Instance_Ref (all_cons oo_Instance_Builtin (all_cons oo_Instance_Kin (all_cons oo_Instance_Instance (all_cons oo_Instance_Table (all_cons oo_Instance_Parts all_nil)))))) (all_cons (all_cons oo_Kin_Ref (all_cons oo_Kin_Builtin (all_cons oo_Kin_Kin (all_cons oo_Kin_Instance (all_cons oo_Kin_Table (all_cons oo_Kin_Parts all_nil)))))) (all_cons (all_cons oo_Closure_Ref (all_cons oo_Closure_Builtin (all_cons oo_Closure_Kin (all_cons oo_Closure_Instance (all_cons oo_Closure_Table (all_cons oo_Closure_Parts all_nil)))))) (all_cons (all_cons oo_Bound_Ref (all_cons oo_Bound_Builtin (all_cons oo_Bound_Kin (all_cons oo_Bound_Instance (all_cons oo_Bound_Table (all_cons oo_Bound_Parts all_nil)))))) (all_cons (all_cons oo_Cursor_Ref (all_cons oo_Cursor_Builtin (all_cons oo_Cursor_Kin (all_cons oo_Cursor_Instance (all_cons oo_Cursor_Table (all_cons oo_Cursor_Parts all_nil)))))) (all_cons (all_cons oo_Writer_Ref (all_cons oo_Writer_Builtin (all_cons oo_Writer_Kin (all_cons oo_Writer_Instance (all_cons oo_Writer_Table (all_cons oo_Writer_Parts all_nil)))))) (all_cons (all_cons oo_Store_Ref (all_cons oo_Store_Builtin (all_cons oo_Store_Kin (all_cons oo_Store_Instance (all_cons oo_Store_Table (all_cons oo_Store_Parts all_nil)))))) all_nil))))))))))), (all_cons (all_cons bo_NoneType_Ref (all_cons bo_NoneType_Builtin (all_cons bo_NoneType_Kin (all_cons bo_NoneType_Instance (all_cons bo_NoneType_Table (all_cons bo_NoneType_Parts all_nil)))))) (all_cons (all_cons bo_bool_Ref (all_cons bo_bool_Builtin (all_cons bo_bool_Kin (all_cons bo_bool_Instance (all_cons bo_bool_Table (all_cons bo_bool_Parts all_nil)))))) (all_cons (all_cons bo_int_Ref (all_cons bo_int_Builtin (all_cons bo_int_Kin (all_cons bo_int_Instance (all_cons bo_int_Table (all_cons bo_int_Parts all_nil)))))) (all_cons (all_cons bo_str_Ref (all_cons bo_str_Builtin (all_cons bo_str_Kin (all_cons bo_str_Instance (all_cons bo_str_Table (all_cons bo_str_Parts all_nil)))))) (all_cons (all_cons bo_list_Ref (all_cons bo_list_Builtin (all_cons bo_list_Kin (all_cons bo_list_Instance (all_cons bo_list_Table (all_cons bo_list_Parts all_nil)))))) (all_cons (all_cons bo_tuple_Ref (all_cons bo_tuple_Builtin (all_cons bo_tuple_Kin (all_cons bo_tuple_Instance (all_cons bo_tuple_Table (all_cons bo_tuple_Parts all_nil)))))) (all_cons (all_cons bo_dict_Ref (all_cons bo_dict_Builtin (all_cons bo_dict_Kin (all_cons bo_dict_Instance (all_cons bo_dict_Table (all_cons bo_dict_Parts all_nil)))))) all_nil))))))), (all_cons (all_cons ob_Ref_bool (all_cons ob_Ref_int (all_cons ob_Ref_str (all_cons ob_Ref_list (all_cons ob_Ref_tuple (all_cons ob_Ref_dict all_nil)))))) (all_cons (all_cons ob_Builtin_bool (all_cons ob_Builtin_int (all_cons ob_Builtin_str (all_cons ob_Builtin_list (all_cons ob_Builtin_tuple (all_cons ob_Builtin_dict all_nil)))))) (all_cons (all_cons ob_Parts_bool (all_cons ob_Parts_int (all_cons ob_Parts_str (all_cons ob_Parts_list (all_cons ob_Parts_tuple (all_cons ob_Parts_dict all_nil)))))) (all_cons (all_cons ob_Table_bool (all_cons ob_Table_int (all_cons ob_Table_str (all_cons ob_Table_list (all_cons ob_Table_tuple (all_cons ob_Table_dict all_nil)))))) (all_cons (all_cons ob_Instance_bool (all_cons ob_Instance_int (all_cons ob_Instance_str (all_cons ob_Instance_list (all_cons ob_Instance_tuple (all_cons ob_Instance_dict all_nil)))))) (all_cons (all_cons ob_Kin_bool (all_cons ob_Kin_int (all_cons ob_Kin_str (all_cons ob_Kin_list (all_cons ob_Kin_tuple (all_cons ob_Kin_dict all_nil)))))) (all_cons (all_cons ob_Closure_bool (all_cons ob_Closure_int (all_cons ob_Closure_str (all_cons ob_Closure_list (all_cons ob_Closure_tuple (all_cons ob_Closure_dict all_nil)))))) (all_cons (all_cons ob_Bound_bool (all_cons ob_Bound_int (all_cons ob_Bound_str (all_cons ob_Bound_list (all_cons ob_Bound_tuple (all_cons ob_Bound_dict all_nil)))))) (all_cons (all_cons ob_Cursor_bool (all_cons ob_Cursor_int (all_cons ob_Cursor_str (all_cons ob_Cursor_list (all_cons ob_Cursor_tuple (all_cons ob_Cursor_dict all_nil)))))) (all_cons (all_cons ob_Writer_bool (all_cons ob_Writer_int (all_cons ob_Writer_str (all_cons ob_Writer_list (all_cons ob_Writer_tuple (all_cons ob_Writer_dict all_nil)))))) (all_cons (all_cons ob_Store_bool (all_cons ob_Store_int (all_cons ob_Store_str (all_cons ob_Store_list (all_cons ob_Store_tuple (all_cons ob_Store_dict all_nil)))))) all_nil)))))))))))⟩,
    ⟨eq_false ne_Ref_Builtin, eq_false ne_Ref_Parts, eq_false ne_Ref_Table, eq_false ne_Ref_Instance, eq_false ne_Ref_Kin, eq_false ne_Ref_Closure, eq_false ne_Ref_Bound, eq_false ne_Ref_Cursor, eq_false ne_Ref_Writer, eq_false ne_Ref_Store, eq_false (fun h => ne_Ref_Builtin h.symm), eq_false ne_Builtin_Parts, eq_false ne_Builtin_Table, eq_false ne_Builtin_Instance, eq_false ne_Builtin_Kin, eq_false ne_Builtin_Closure, eq_false ne_Builtin_Bound, eq_false ne_Builtin_Cursor, eq_false ne_Builtin_Writer, eq_false ne_Builtin_Store, eq_false (fun h => ne_Ref_Parts h.symm), eq_false (fun h => ne_Builtin_Parts h.symm), eq_false ne_Parts_Table, eq_false ne_Parts_Instance, eq_false ne_Parts_Kin, eq_false ne_Parts_Closure, eq_false ne_Parts_Bound, eq_false ne_Parts_Cursor, eq_false ne_Parts_Writer, eq_false ne_Parts_Store, eq_false (fun h => ne_Ref_Table h.symm), eq_false (fun h => ne_Builtin_Table h.symm), eq_false (fun h => ne_Parts_Table h.symm), eq_false ne_Table_Instance, eq_false ne_Table_Kin, eq_false ne_Table_Closure, eq_false ne_Table_Bound, eq_false ne_Table_Cursor, eq_false ne_Table_Writer, eq_false ne_Table_Store, eq_false (fun h => ne_Ref_Instance h.symm), eq_false (fun h => ne_Builtin_Instance h.symm), eq_false (fun h => ne_Parts_Instance h.symm), eq_false (fun h => ne_Table_Instance h.symm), eq_false ne_Instance_Kin, eq_false ne_Instance_Closure, eq_false ne_Instance_Bound, eq_false ne_Instance_Cursor, eq_false ne_Instance_Writer, eq_false ne_Instance_Store, eq_false (fun h => ne_Ref_Kin h.symm), eq_false (fun h => ne_Builtin_Kin h.symm), eq_false (fun h => ne_Parts_Kin h.symm), eq_false (fun h => ne_Table_Kin h.symm), eq_false (fun h => ne_Instance_Kin h.symm), eq_false ne_Kin_Closure, eq_false ne_Kin_Bound, eq_false ne_Kin_Cursor, eq_false ne_Kin_Writer, eq_false ne_Kin_Store, eq_false (fun h => ne_Ref_Closure h.symm), eq_false (fun h => ne_Builtin_Closure h.symm), eq_false (fun h => ne_Parts_Closure h.symm), eq_false (fun h => ne_Table_Closure h.symm), eq_false (fun h => ne_Instance_Closure h.symm), eq_false (fun h => ne_Kin_Closure h.symm), eq_false ne_Closure_Bound, eq_false ne_Closure_Cursor, eq_false ne_Closure_Writer, eq_false ne_Closure_Store, eq_false (fun h => ne_Ref_Bound h.symm), eq_false (fun h => ne_Builtin_Bound h.symm), eq_false (fun h => ne_Parts_Bound h.symm), eq_false (fun h => ne_Table_Bound h.symm), eq_false (fun h => ne_Instance_Bound h.symm), eq_false (fun h => ne_Kin_Bound h.symm), eq_false (fun h => ne_Closure_Bound h.symm), eq_false ne_Bound_Cursor, eq_false ne_Bound_Writer, eq_false ne_Bound_Store, eq_false (fun h => ne_Ref_Cursor h.symm), eq_false (fun h => ne_Builtin_Cursor h.symm), eq_false (fun h => ne_Parts_Cursor h.symm), eq_false (fun h => ne_Table_Cursor h.symm), eq_false (fun h => ne_Instance_Cursor h.symm), eq_false (fun h => ne_Kin_Cursor h.symm), eq_false (fun h => ne_Closure_Cursor h.symm), eq_false (fun h => ne_Bound_Cursor h.symm), eq_false ne_Cursor_Writer, eq_false ne_Cursor_Store, eq_false (fun h => ne_Ref_Writer h.symm), eq_false (fun h => ne_Builtin_Writer h.symm), eq_false (fun h => ne_Parts_Writer h.symm), eq_false (fun h => ne_Table_Writer h.symm), eq_false (fun h => ne_Instance_Writer h.symm), eq_false (fun h => ne_Kin_Writer h.symm), eq_false (fun h => ne_Closure_Writer h.symm), eq_false (fun h => ne_Bound_Writer h.symm), eq_false (fun h => ne_Cursor_Writer h.symm), eq_false ne_Writer_Store, eq_false (fun h => ne_Ref_Store h.symm), eq_false (fun h => ne_Builtin_Store h.symm), eq_false (fun h => ne_Parts_Store h.symm), eq_false (fun h => ne_Table_Store h.symm), eq_false (fun h => ne_Instance_Store h.symm), eq_false (fun h => ne_Kin_Store h.symm), eq_false (fun h => ne_Closure_Store h.symm), eq_false (fun h => ne_Bound_Store h.symm), eq_false (fun h => ne_Cursor_Store h.symm), eq_false (fun h => ne_Writer_Store h.symm)⟩⟩
  have a0 : At K mg "_law_cell" "_law_cell" s_law_cell ["script", "k"] := At.of X G f0 fun _ _ _ _ _ _ us hl => match us, hl with | [_, _], _ => rfl
  have a1 : At K mg "_law_begin" "_law_begin" s_law_begin ["script", "k"] := At.of X G f1 fun _ _ _ _ _ _ us hl => match us, hl with | [_, _], _ => rfl
  have a2 : At K mg "_law_draw" "_law_draw" s_law_draw ["state", "many"] := At.of X G f2 fun _ _ _ _ _ _ us hl => match us, hl with | [_, _], _ => rfl
  have a3 : AtM K C_Ref "__init__" "Ref.__init__" s_Ref___init__ ["self", "number"] := AtM.of f3 fun _ _ _ _ _ _ us hl => match us, hl with | [_, _], _ => rfl
  have a4 : AtM K C_Builtin "__init__" "Builtin.__init__" s_Builtin___init__ ["self", "name"] := AtM.of f4 fun _ _ _ _ _ _ us hl => match us, hl with | [_, _], _ => rfl
  have a5 : AtM K C_Instance "__init__" "Instance.__init__" s_Instance___init__ ["self", "owner"] := AtM.of f5 fun _ _ _ _ _ _ us hl => match us, hl with | [_, _], _ => rfl
  have a6 : AtM K C_Kin "__init__" "Kin.__init__" s_Kin___init__ ["self", "name", "parent"] := AtM.of f6 fun _ _ _ _ _ _ us hl => match us, hl with | [_, _, _], _ => rfl
  have a7 : AtM K C_Parts "__init__" "Parts.__init__" s_Parts___init__ ["self", "held"] := AtM.of f7 fun _ _ _ _ _ _ us hl => match us, hl with | [_, _], _ => rfl
  have a8 : AtM K C_Closure "__init__" "Closure.__init__" s_Closure___init__ ["self", "number", "wanted", "scope"] := AtM.of f8 fun _ _ _ _ _ _ us hl => match us, hl with | [_, _, _, _], _ => rfl
  have a9 : AtM K C_Bound "__init__" "Bound.__init__" s_Bound___init__ ["self", "owner", "function"] := AtM.of f9 fun _ _ _ _ _ _ us hl => match us, hl with | [_, _, _], _ => rfl
  have a10 : AtM K C_Cursor "__init__" "Cursor.__init__" s_Cursor___init__ ["self", "rest"] := AtM.of f10 fun _ _ _ _ _ _ us hl => match us, hl with | [_, _], _ => rfl
  have a11 : AtM K C_Writer "__init__" "Writer.__init__" s_Writer___init__ ["self", "store", "most"] := AtM.of f11 fun _ _ _ _ _ _ us hl => match us, hl with | [_, _, _], _ => rfl
  have a12 : AtM K C_Table "__init__" "Table.__init__" s_Table___init__ ["self"] := AtM.of f12 fun _ _ _ _ _ _ us hl => match us, hl with | [_], _ => rfl
  have a13 : At K mg "key_of" "key_of" s_key_of ["value"] := At.of X G f13 fun _ _ _ _ _ _ us hl => match us, hl with | [_], _ => rfl
  have a14 : AtM K C_Table "put" "Table.put" s_Table_put ["self", "key", "value"] := AtM.of f14 fun _ _ _ _ _ _ us hl => match us, hl with | [_, _, _], _ => rfl
  have a15 : AtM K C_Table "pairs" "Table.pairs" s_Table_pairs ["self"] := AtM.of f15 fun _ _ _ _ _ _ us hl => match us, hl with | [_], _ => rfl
  have a16 : AtM K C_Store "__init__" "Store.__init__" s_Store___init__ ["self", "lines"] := AtM.of f16 fun _ _ _ _ _ _ us hl => match us, hl with | [_, _], _ => rfl
  have a17 : AtM K C_Store "make" "Store.make" s_Store_make ["self", "thing"] := AtM.of f17 fun _ _ _ _ _ _ us hl => match us, hl with | [_, _], _ => rfl
  have a18 : AtM K C_Store "at" "Store.at" s_Store_at ["self", "ref"] := AtM.of f18 fun _ _ _ _ _ _ us hl => match us, hl with | [_, _], _ => rfl
  have a19 : At K mg "thing_of" "thing_of" s_thing_of ["store", "value"] := At.of X G f19 fun _ _ _ _ _ _ us hl => match us, hl with | [_, _], _ => rfl
  have a20 : At K mg "_law_pick" "_law_pick" s_law_pick ["state", "row"] := At.of X G f20 fun _ _ _ _ _ _ us hl => match us, hl with | [_, _], _ => rfl
  have a21 : At K mg "quoted" "quoted" s_quoted ["text"] := At.of X G f21 fun _ _ _ _ _ _ us hl => match us, hl with | [_], _ => rfl
  have a22 : At K mg "plain" "plain" s_plain ["value"] := At.of X G f22 fun _ _ _ _ _ _ us hl => match us, hl with | [_], _ => rfl
  have a23 : At K mg "head_of" "head_of" s_head_of ["store", "thing"] := At.of X G f23 fun _ _ _ _ _ _ us hl => match us, hl with | [_, _], _ => rfl
  have a24 : AtM K C_Writer "put" "Writer.put" s_Writer_put ["self", "piece"] := AtM.of f24 fun _ _ _ _ _ _ us hl => match us, hl with | [_, _], _ => rfl
  have a25 : AtM K C_Writer "write_box" "Writer.write_box" s_Writer_write_box ["self", "number", "thing"] := AtM.of f25 fun _ _ _ _ _ _ us hl => match us, hl with | [_, _, _], _ => rfl
  have a26 : AtM K C_Writer "write_parts" "Writer.write_parts" s_Writer_write_parts ["self", "held"] := AtM.of f26 fun _ _ _ _ _ _ us hl => match us, hl with | [_, _], _ => rfl
  have a27 : AtM K C_Writer "write_pairs" "Writer.write_pairs" s_Writer_write_pairs ["self", "pairs"] := AtM.of f27 fun _ _ _ _ _ _ us hl => match us, hl with | [_, _], _ => rfl
  have a28 : AtM K C_Writer "write" "Writer.write" s_Writer_write ["self", "value"] := AtM.of f28 fun _ _ _ _ _ _ us hl => match us, hl with | [_, _], _ => rfl
  have a29 : At K mg "write_value" "write_value" s_write_value ["store", "value", "most"] := At.of X G f29 fun _ _ _ _ _ _ us hl => match us, hl with | [_, _, _], _ => rfl
  have a30 : At K mg "text_of" "text_of" s_text_of ["store", "value", "most"] := At.of X G f30 fun _ _ _ _ _ _ us hl => match us, hl with | [_, _, _], _ => rfl
  have a31 : At K mg "show" "show" s_show ["store", "value"] := At.of X G f31 fun _ _ _ _ _ _ us hl => match us, hl with | [_, _], _ => rfl
  have a32 : At K mg "_law_quoted" "_law_quoted" s_law_quoted ["text"] := At.of X G f32 fun _ _ _ _ _ _ us hl => match us, hl with | [_], _ => rfl
  have a33 : At K mg "_law_plain" "_law_plain" s_law_plain ["store", "value"] := At.of X G f33 fun _ _ _ _ _ _ us hl => match us, hl with | [_, _], _ => rfl
  have a34 : At K mg "_law_form" "_law_form" s_law_form ["store", "value", "around", "room"] := At.of X G f34 fun _ _ _ _ _ _ us hl => match us, hl with | [_, _, _, _], _ => rfl
  have a35 : At K mg "_law_value" "_law_value" s_law_value ["state", "many"] := At.of X G f35 fun _ _ _ _ _ _ us hl => match us, hl with | [_, _], _ => rfl
  have a36 : AtM K C_Ref "__eq__" "Ref.__eq__" s_Ref___eq__ ["self", "other"] := AtM.of f36 fun _ _ _ _ _ _ us hl => match us, hl with | [_, _], _ => rfl
  have a37 : AtM K C_Builtin "__eq__" "Builtin.__eq__" s_Builtin___eq__ ["self", "other"] := AtM.of f37 fun _ _ _ _ _ _ us hl => match us, hl with | [_, _], _ => rfl
  have a38 : At K mg "_law_fill" "_law_fill" s_law_fill ["store", "state", "many"] := At.of X G f38 fun _ _ _ _ _ _ us hl => match us, hl with | [_, _, _], _ => rfl
  obtain ⟨f, oc, od, an, sl, kV, dc, pm, cd, ct, a, l, cc, k⟩ := f39.ex
  have e := hfa.symm.trans (PySem.W.mg_of X G a)
  cases e
  have F1 := fun_mk (st := s_law) l cc k
  have al : At K mg "law" "law" s_law ["script"] := ⟨_, _, F1, F1.binds fun _ _ _ _ _ _ us hl => match us, hl with | [_], _ => rfl, PySem.W.mg_of X G a⟩
  refine ⟨PySem.W.fnOf "law" "law" (defArgs s_law) (defBody s_law) (defScope s_law) .none kV dc pm an cd ct, fun s v => .of_eq rfl, fun base _ _ => ?_⟩
  exact law_fn F1 T a0 a1 a2 a3 a4 a5 a6 a7 a8 a9 a10 a11 a12 a13 a14 a15 a16 a17 a18 a19 a20 a21 a22 a23 a24 a25 a26 a27 a28 a29 a30 a31 a32 a33 a34 a35 a36 a37 a38
end My
namespace My
open PySem PySem.Spec PyProof.Rows L2 Fx
set_option maxHeartbeats 0
theorem facts {P : Program} {w : World} {K : PySem.W.Frag} {h : Heap} {mg : Str → Option Value} {f : Addr} (KX : K.In h) (G : h.Ns mainGlobals mg) (hfa : mg ("law" : Str) = some (.ref f)) (c : Hd.Says fas fns dcs w K) :
    ∃ fd : FuncData, (∀ (s : Shared) (v : Value), BindsTo s fd ⟨[v], []⟩ [("script", v)]) ∧ ∀ base : Heap, K.In base → base.Ns mainGlobals mg → FnOk P w K mg base CX0 46 f fd ["script"] (spLaw K) :=
  all_mk KX G hfa
    (Hd.glo_ (c.fact 0 rfl))
    (Hd.glo_ (c.fact 1 rfl))
    (Hd.glo_ (c.fact 2 rfl))
    (Hd.glo_ (c.fact 3 rfl))
    (Hd.glo_ (c.fact 4 rfl))
    (Hd.glo_ (c.fact 5 rfl))
    (Hd.glo_ (c.fact 6 rfl))
    (Hd.glo_ (c.fact 7 rfl))
    (Hd.glo_ (c.fact 8 rfl))
    (Hd.glo_ (c.fact 9 rfl))
    (Hd.glo_ (c.fact 10 rfl))
    (Hd.cls_ (c.fact 11 rfl))
    (Hd.cls_ (c.fact 12 rfl))
    (Hd.cls_ (c.fact 13 rfl))
    (Hd.cls_ (c.fact 14 rfl))
    (Hd.cls_ (c.fact 15 rfl))
    (Hd.cls_ (c.fact 16 rfl))
    (Hd.cls_ (c.fact 17 rfl))
    (Hd.cls_ (c.fact 18 rfl))
    (Hd.cls_ (c.fact 19 rfl))
    (Hd.cls_ (c.fact 20 rfl))
    (Hd.cls_ (c.fact 21 rfl))
    (Hd.obj_ (c.fact 22 rfl))
    (Hd.noat_ (c.fact 23 rfl))
    (Hd.noat_ (c.fact 24 rfl))
    (Hd.noat_ (c.fact 25 rfl))
    (Hd.noat_ (c.fact 26 rfl))
    (Hd.noat_ (c.fact 27 rfl))
    (Hd.noat_ (c.fact 28 rfl))
    (Hd.noat_ (c.fact 29 rfl))
    (Hd.noat_ (c.fact 30 rfl))
    (Hd.noat_ (c.fact 31 rfl))
    (Hd.noat_ (c.fact 32 rfl))
    (Hd.noat_ (c.fact 33 rfl))
    (Hd.noat_ (c.fact 34 rfl))
    (Hd.noat_ (c.fact 35 rfl))
    (Hd.noat_ (c.fact 36 rfl))
    (Hd.noat_ (c.fact 37 rfl))
    (Hd.noat_ (c.fact 38 rfl))
    (Hd.noat_ (c.fact 39 rfl))
    (Hd.noat_ (c.fact 40 rfl))
    (Hd.noat_ (c.fact 41 rfl))
    (Hd.noat_ (c.fact 42 rfl))
    (Hd.noat_ (c.fact 43 rfl))
    (Hd.noat_ (c.fact 44 rfl))
    (Hd.noat_ (c.fact 45 rfl))
    (Hd.noat_ (c.fact 46 rfl))
    (Hd.kio_ (c.fact 47 rfl))
    (Hd.kio_ (c.fact 48 rfl))
    (Hd.kio_ (c.fact 49 rfl))
    (Hd.kio_ (c.fact 50 rfl))
    (Hd.kio_ (c.fact 51 rfl))
    (Hd.kio_ (c.fact 52 rfl))
    (Hd.kio_ (c.fact 53 rfl))
    (Hd.kio_ (c.fact 54 rfl))
    (Hd.kio_ (c.fact 55 rfl))
    (Hd.kio_ (c.fact 56 rfl))
    (Hd.kio_ (c.fact 57 rfl))
    (Hd.kio_ (c.fact 58 rfl))
    (Hd.kio_ (c.fact 59 rfl))
    (Hd.kio_ (c.fact 60 rfl))
    (Hd.kio_ (c.fact 61 rfl))
    (Hd.kio_ (c.fact 62 rfl))
    (Hd.kio_ (c.fact 63 rfl))
    (Hd.kio_ (c.fact 64 rfl))
    (Hd.kio_ (c.fact 65 rfl))
    (Hd.kio_ (c.fact 66 rfl))
    (Hd.kio_ (c.fact 67 rfl))
    (Hd.kio_ (c.fact 68 rfl))
    (Hd.kio_ (c.fact 69 rfl))
    (Hd.kio_ (c.fact 70 rfl))
    (Hd.kio_ (c.fact 71 rfl))
    (Hd.kio_ (c.fact 72 rfl))
    (Hd.kio_ (c.fact 73 rfl))
    (Hd.kio_ (c.fact 74 rfl))
    (Hd.kio_ (c.fact 75 rfl))
    (Hd.kio_ (c.fact 76 rfl))
    (Hd.kio_ (c.fact 77 rfl))
    (Hd.kio_ (c.fact 78 rfl))
    (Hd.kio_ (c.fact 79 rfl))
    (Hd.kio_ (c.fact 80 rfl))
    (Hd.kio_ (c.fact 81 rfl))
    (Hd.kio_ (c.fact 82 rfl))
    (Hd.kio_ (c.fact 83 rfl))
    (Hd.kio_ (c.fact 84 rfl))
    (Hd.kio_ (c.fact 85 rfl))
    (Hd.kio_ (c.fact 86 rfl))
    (Hd.kio_ (c.fact 87 rfl))
    (Hd.kio_ (c.fact 88 rfl))
    (Hd.kio_ (c.fact 89 rfl))
    (Hd.kio_ (c.fact 90 rfl))
    (Hd.kio_ (c.fact 91 rfl))
    (Hd.kio_ (c.fact 92 rfl))
    (Hd.kio_ (c.fact 93 rfl))
    (Hd.kio_ (c.fact 94 rfl))
    (Hd.kio_ (c.fact 95 rfl))
    (Hd.kio_ (c.fact 96 rfl))
    (Hd.kio_ (c.fact 97 rfl))
    (Hd.kio_ (c.fact 98 rfl))
    (Hd.kio_ (c.fact 99 rfl))
    (Hd.kio_ (c.fact 100 rfl))
    (Hd.kio_ (c.fact 101 rfl))
    (Hd.kio_ (c.fact 102 rfl))
    (Hd.kio_ (c.fact 103 rfl))
    (Hd.kio_ (c.fact 104 rfl))
    (Hd.kio_ (c.fact 105 rfl))
    (Hd.kio_ (c.fact 106 rfl))
    (Hd.kio_ (c.fact 107 rfl))
    (Hd.kio_ (c.fact 108 rfl))
    (Hd.kio_ (c.fact 109 rfl))
    (Hd.kio_ (c.fact 110 rfl))
    (Hd.kio_ (c.fact 111 rfl))
    (Hd.kio_ (c.fact 112 rfl))
    (Hd.kib_ (c.fact 113 rfl))
    (Hd.kib_ (c.fact 114 rfl))
    (Hd.kib_ (c.fact 115 rfl))
    (Hd.kib_ (c.fact 116 rfl))
    (Hd.kib_ (c.fact 117 rfl))
    (Hd.kib_ (c.fact 118 rfl))
    (Hd.kib_ (c.fact 119 rfl))
    (Hd.kib_ (c.fact 120 rfl))
    (Hd.kib_ (c.fact 121 rfl))
    (Hd.kib_ (c.fact 122 rfl))
    (Hd.kib_ (c.fact 123 rfl))
    (Hd.kib_ (c.fact 124 rfl))
    (Hd.kib_ (c.fact 125 rfl))
    (Hd.kib_ (c.fact 126 rfl))
    (Hd.kib_ (c.fact 127 rfl))
    (Hd.kib_ (c.fact 128 rfl))
    (Hd.kib_ (c.fact 129 rfl))
    (Hd.kib_ (c.fact 130 rfl))
    (Hd.kib_ (c.fact 131 rfl))
    (Hd.kib_ (c.fact 132 rfl))
    (Hd.kib_ (c.fact 133 rfl))
    (Hd.kib_ (c.fact 134 rfl))
    (Hd.kib_ (c.fact 135 rfl))
    (Hd.kib_ (c.fact 136 rfl))
    (Hd.kib_ (c.fact 137 rfl))
    (Hd.kib_ (c.fact 138 rfl))
    (Hd.kib_ (c.fact 139 rfl))
    (Hd.kib_ (c.fact 140 rfl))
    (Hd.kib_ (c.fact 141 rfl))
    (Hd.kib_ (c.fact 142 rfl))
    (Hd.kib_ (c.fact 143 rfl))
    (Hd.kib_ (c.fact 144 rfl))
    (Hd.kib_ (c.fact 145 rfl))
    (Hd.kib_ (c.fact 146 rfl))
    (Hd.kib_ (c.fact 147 rfl))
    (Hd.kib_ (c.fact 148 rfl))
    (Hd.kib_ (c.fact 149 rfl))
    (Hd.kib_ (c.fact 150 rfl))
    (Hd.kib_ (c.fact 151 rfl))
    (Hd.kib_ (c.fact 152 rfl))
    (Hd.kib_ (c.fact 153 rfl))
    (Hd.kib_ (c.fact 154 rfl))
    (Hd.kob_ (c.fact 155 rfl))
    (Hd.kob_ (c.fact 156 rfl))
    (Hd.kob_ (c.fact 157 rfl))
    (Hd.kob_ (c.fact 158 rfl))
    (Hd.kob_ (c.fact 159 rfl))
    (Hd.kob_ (c.fact 160 rfl))
    (Hd.kob_ (c.fact 161 rfl))
    (Hd.kob_ (c.fact 162 rfl))
    (Hd.kob_ (c.fact 163 rfl))
    (Hd.kob_ (c.fact 164 rfl))
    (Hd.kob_ (c.fact 165 rfl))
    (Hd.kob_ (c.fact 166 rfl))
    (Hd.kob_ (c.fact 167 rfl))
    (Hd.kob_ (c.fact 168 rfl))
    (Hd.kob_ (c.fact 169 rfl))
    (Hd.kob_ (c.fact 170 rfl))
    (Hd.kob_ (c.fact 171 rfl))
    (Hd.kob_ (c.fact 172 rfl))
    (Hd.kob_ (c.fact 173 rfl))
    (Hd.kob_ (c.fact 174 rfl))
    (Hd.kob_ (c.fact 175 rfl))
    (Hd.kob_ (c.fact 176 rfl))
    (Hd.kob_ (c.fact 177 rfl))
    (Hd.kob_ (c.fact 178 rfl))
    (Hd.kob_ (c.fact 179 rfl))
    (Hd.kob_ (c.fact 180 rfl))
    (Hd.kob_ (c.fact 181 rfl))
    (Hd.kob_ (c.fact 182 rfl))
    (Hd.kob_ (c.fact 183 rfl))
    (Hd.kob_ (c.fact 184 rfl))
    (Hd.kob_ (c.fact 185 rfl))
    (Hd.kob_ (c.fact 186 rfl))
    (Hd.kob_ (c.fact 187 rfl))
    (Hd.kob_ (c.fact 188 rfl))
    (Hd.kob_ (c.fact 189 rfl))
    (Hd.kob_ (c.fact 190 rfl))
    (Hd.kob_ (c.fact 191 rfl))
    (Hd.kob_ (c.fact 192 rfl))
    (Hd.kob_ (c.fact 193 rfl))
    (Hd.kob_ (c.fact 194 rfl))
    (Hd.kob_ (c.fact 195 rfl))
    (Hd.kob_ (c.fact 196 rfl))
    (Hd.kob_ (c.fact 197 rfl))
    (Hd.kob_ (c.fact 198 rfl))
    (Hd.kob_ (c.fact 199 rfl))
    (Hd.kob_ (c.fact 200 rfl))
    (Hd.kob_ (c.fact 201 rfl))
    (Hd.kob_ (c.fact 202 rfl))
    (Hd.kob_ (c.fact 203 rfl))
    (Hd.kob_ (c.fact 204 rfl))
    (Hd.kob_ (c.fact 205 rfl))
    (Hd.kob_ (c.fact 206 rfl))
    (Hd.kob_ (c.fact 207 rfl))
    (Hd.kob_ (c.fact 208 rfl))
    (Hd.kob_ (c.fact 209 rfl))
    (Hd.kob_ (c.fact 210 rfl))
    (Hd.kob_ (c.fact 211 rfl))
    (Hd.kob_ (c.fact 212 rfl))
    (Hd.kob_ (c.fact 213 rfl))
    (Hd.kob_ (c.fact 214 rfl))
    (Hd.kob_ (c.fact 215 rfl))
    (Hd.kob_ (c.fact 216 rfl))
    (Hd.kob_ (c.fact 217 rfl))
    (Hd.kob_ (c.fact 218 rfl))
    (Hd.kob_ (c.fact 219 rfl))
    (Hd.kob_ (c.fact 220 rfl))
    (Hd.ne_ (c.fact 221 rfl))
    (Hd.ne_ (c.fact 222 rfl))
    (Hd.ne_ (c.fact 223 rfl))
    (Hd.ne_ (c.fact 224 rfl))
    (Hd.ne_ (c.fact 225 rfl))
    (Hd.ne_ (c.fact 226 rfl))
    (Hd.ne_ (c.fact 227 rfl))
    (Hd.ne_ (c.fact 228 rfl))
    (Hd.ne_ (c.fact 229 rfl))
    (Hd.ne_ (c.fact 230 rfl))
    (Hd.ne_ (c.fact 231 rfl))
    (Hd.ne_ (c.fact 232 rfl))
    (Hd.ne_ (c.fact 233 rfl))
    (Hd.ne_ (c.fact 234 rfl))
    (Hd.ne_ (c.fact 235 rfl))
    (Hd.ne_ (c.fact 236 rfl))
    (Hd.ne_ (c.fact 237 rfl))
    (Hd.ne_ (c.fact 238 rfl))
    (Hd.ne_ (c.fact 239 rfl))
    (Hd.ne_ (c.fact 240 rfl))
    (Hd.ne_ (c.fact 241 rfl))
    (Hd.ne_ (c.fact 242 rfl))
    (Hd.ne_ (c.fact 243 rfl))
    (Hd.ne_ (c.fact 244 rfl))
    (Hd.ne_ (c.fact 245 rfl))
    (Hd.ne_ (c.fact 246 rfl))
    (Hd.ne_ (c.fact 247 rfl))
    (Hd.ne_ (c.fact 248 rfl))
    (Hd.ne_ (c.fact 249 rfl))
    (Hd.ne_ (c.fact 250 rfl))
    (Hd.ne_ (c.fact 251 rfl))
    (Hd.ne_ (c.fact 252 rfl))
    (Hd.ne_ (c.fact 253 rfl))
    (Hd.ne_ (c.fact 254 rfl))
    (Hd.ne_ (c.fact 255 rfl))
    (Hd.ne_ (c.fact 256 rfl))
    (Hd.ne_ (c.fact 257 rfl))
    (Hd.ne_ (c.fact 258 rfl))
    (Hd.ne_ (c.fact 259 rfl))
    (Hd.ne_ (c.fact 260 rfl))
    (Hd.ne_ (c.fact 261 rfl))
    (Hd.ne_ (c.fact 262 rfl))
    (Hd.ne_ (c.fact 263 rfl))
    (Hd.ne_ (c.fact 264 rfl))
    (Hd.ne_ (c.fact 265 rfl))
    (Hd.ne_ (c.fact 266 rfl))
    (Hd.ne_ (c.fact 267 rfl))
    (Hd.ne_ (c.fact 268 rfl))
    (Hd.ne_ (c.fact 269 rfl))
    (Hd.ne_ (c.fact 270 rfl))
    (Hd.ne_ (c.fact 271 rfl))
    (Hd.ne_ (c.fact 272 rfl))
    (Hd.ne_ (c.fact 273 rfl))
    (Hd.ne_ (c.fact 274 rfl))
    (Hd.ne_ (c.fact 275 rfl))
    (Hd.fn_ c 0 276 277 rfl rfl rfl)
    (Hd.fn_ c 1 278 279 rfl rfl rfl)
    (Hd.fn_ c 2 280 281 rfl rfl rfl)
    (Hd.meth_ c 3 282 rfl rfl)
    (Hd.meth_ c 4 283 rfl rfl)
    (Hd.meth_ c 5 284 rfl rfl)
    (Hd.meth_ c 6 285 rfl rfl)
    (Hd.meth_ c 7 286 rfl rfl)
    (Hd.meth_ c 8 287 rfl rfl)
    (Hd.meth_ c 9 288 rfl rfl)
    (Hd.meth_ c 10 289 rfl rfl)
    (Hd.meth_ c 11 290 rfl rfl)
    (Hd.meth_ c 12 291 rfl rfl)
    (Hd.fn_ c 13 292 293 rfl rfl rfl)
    (Hd.meth_ c 14 294 rfl rfl)
    (Hd.meth_ c 15 295 rfl rfl)
    (Hd.meth_ c 16 296 rfl rfl)
    (Hd.meth_ c 17 297 rfl rfl)
    (Hd.meth_ c 18 298 rfl rfl)
    (Hd.fn_ c 19 299 300 rfl rfl rfl)
    (Hd.fn_ c 20 301 302 rfl rfl rfl)
    (Hd.fn_ c 21 303 304 rfl rfl rfl)
    (Hd.fn_ c 22 305 306 rfl rfl rfl)
    (Hd.fn_ c 23 307 308 rfl rfl rfl)
    (Hd.meth_ c 24 309 rfl rfl)
    (Hd.meth_ c 25 310 rfl rfl)
    (Hd.meth_ c 26 311 rfl rfl)
    (Hd.meth_ c 27 312 rfl rfl)
    (Hd.meth_ c 28 313 rfl rfl)
    (Hd.fn_ c 29 314 315 rfl rfl rfl)
    (Hd.fn_ c 30 316 317 rfl rfl rfl)
    (Hd.fn_ c 31 318 319 rfl rfl rfl)
    (Hd.fn_ c 32 320 321 rfl rfl rfl)
    (Hd.fn_ c 33 322 323 rfl rfl rfl)
    (Hd.fn_ c 34 324 325 rfl rfl rfl)
    (Hd.fn_ c 35 326 327 rfl rfl rfl)
    (Hd.meth_ c 36 328 rfl rfl)
    (Hd.meth_ c 37 329 rfl rfl)
    (Hd.fn_ c 38 330 331 rfl rfl rfl)
    (Hd.fn_ c 39 332 333 rfl rfl rfl)
    (Hd.free_ (c.fact 334 rfl))
    (Hd.free_ (c.fact 335 rfl))
    (Hd.free_ (c.fact 336 rfl))
    (Hd.free_ (c.fact 337 rfl))
    (Hd.free_ (c.fact 338 rfl))
    (Hd.free_ (c.fact 339 rfl))
    (Hd.free_ (c.fact 340 rfl))
    (Hd.free_ (c.fact 341 rfl))
    (Hd.free_ (c.fact 342 rfl))
    (Hd.free_ (c.fact 343 rfl))
    (Hd.free_ (c.fact 344 rfl))
    (Hd.free_ (c.fact 345 rfl))
    (Hd.free_ (c.fact 346 rfl))
    (Hd.free_ (c.fact 347 rfl))
    (Hd.str_ (c.fact 348 rfl))
    (Hd.int_ (c.fact 349 rfl))
    (Hd.int_ (c.fact 350 rfl))
end My
open PySem PySem.W PySem.Calls PyProof.Rows
set_option maxRecDepth 100000 in
set_option maxHeartbeats 0 in
theorem PySem.Challenge.cw_livequill_k24_written_forms_holds : PySem.Challenge.rw_livequill_k24_written_forms.Holds := by
  w_on; o_law
  refine HandSHeadRun.head_any (r := OpenLaw.row PySem.Challenge.rw_livequill_k24_written_forms) (q := view (OpenLaw.row PySem.Challenge.rw_livequill_k24_written_forms).prog [38]) (H := My.hk) (ob := My.ob) (M := 300000) (loose := My.nms) (d := HandSHeadRun.topDef (OpenLaw.row PySem.Challenge.rw_livequill_k24_written_forms).prog 38) (kwd := []) My.ob_eq
    (by kernel_rfl) (fun s => by kernel_rfl) My.run (by kernel_rfl) (by kernel_rfl) (by kernel_rfl) (by rfl) (by first | assumption | decide +kernel) (by decide +kernel) ⟨rfl, rfl, rfl, rfl, rfl, by decide +kernel⟩ ?hw ?hc
  case hw => w_witness2
  case hc =>
    refine L2.walk_ofE (l := PySem.Challenge.rw_livequill_k24_written_forms) (n := 63) (k := 46) (x := "script") (CX := L2.CX0) rfl (by decide) (by kernel_rfl) ⟨rfl, by decide, by decide⟩ ?F (fun _ _ _ _ z => z)
    intro w mg fa h Y G hmg0
    obtain ⟨K, KX, c⟩ := Y
    have hmg : mg ("law" : PySem.Str) = some (.ref fa) := by
      have e : (HandSHeadRun.topDef (OpenLaw.row PySem.Challenge.rw_livequill_k24_written_forms).prog 38).name = ("law" : PySem.Str) := by kernel_rfl
      rw [← e]
      exact hmg0
    obtain ⟨fd, hb, hF⟩ := My.facts (P := (PySem.Challenge.rw_livequill_k24_written_forms).prog) (w := w) KX G hmg c
    exact ⟨K, fd, My.spLaw K, KX, hb, fun H a ns hl hO hS => ⟨a, ns, rfl, hS, hl, fun _ => rfl⟩, hF⟩
