import PyProof.Rows.All
import Wide.All
import OpenK.AllK
import Wide.FinOn
import HandS.ForMost
import HandS.StrMore
import HandS.Wide
import HandS.IsInst
import HandS.Flow
import HandS.Codes
import HandS.Deep
import HandS.EndBits
import HandS.Walk
import KE.DataEq
import HandS.OwnEq
import HandS.Comp
import HandS.Property
import KE.KIsAll
import KE.KExcIs
import HandS.Exc
import HandS.ExcOwn
import HandS.ExcInit
import HandS.ExcField
import HandS.ExcIs
import HandS.TryOnly
import HandS.TryMany
import HandS.CallSlots
import HandS.WordsExc
import HandS.Small
import HandS.FStr
import HandS.More
import KE.KeyNested
import KE.KDictKeyed
import HandS.TupLen
import HandS.Iter
import HandS.DictComp
import HandS.List
import KE.GoesZip
import KE.GoesMore
import HandS.Zip
import HandS.Style
import HandS.Replace
import HandS.ReplaceLit
import HandS.ReplaceDef
import HandS.ReplaceList
import HandS.Defaults
import KE.KStateDown
import HandS.Head0
import HandS.Head1
import HandS.Head2
import HandS.HeadEnd
import HandS.HeadHook1
import HandS.HeadHook2
import HandS.SortInts
import PySem.Challenge.RW_livequill_k71_what_is_reached
set_option Elab.async false
set_option linter.all false
set_option maxRecDepth 100000
/-! Fx: readings that compute: every operation is one function of its values, whatever their kinds. -/
namespace Fx
open PySem PySem.Spec PyProof.Rows L2

/-! ### weakening -/
section
variable {X : Cx}
theorem pe_wk {e : Expr} {t t' : TE} (h : PE X e t) (w : ∀ σ H Q, t' σ H Q → t σ H Q) : PE X e t' := ⟨fun pins s σ H Q I q => h.run pins s σ H Q I (w σ H Q q)⟩
theorem pt_wk {e : Expr} {t t' : TT} (h : PT X e t) (w : ∀ σ H Q, t' σ H Q → t σ H Q) : PT X e t' := ⟨fun pins s σ H Q I q => h.run pins s σ H Q I (w σ H Q q)⟩
theorem ps_wk {e : Stmt} {t t' : TS} (h : PS X e t) (w : ∀ D σ H, t' D σ H → t D σ H) : PS X e t' := ⟨fun pins s σ H D I q => h.run pins s σ H D I (w D σ H q)⟩
theorem op_wk {f : Value → Value → Sem Value} {r r' : R2} (h : OpR X f r) (w : ∀ x y H Q, r' x y H Q → r x y H Q) : OpR X f r' := fun pins s σ H x y v u Q I rx ry q => h pins s σ H x y v u Q I rx ry (w x y H Q q)
theorem call_wk {f : Value} {r r' : List V → Hp → VK → Prop} (h : CallR X f r) (w : ∀ xs H Q, r' xs H Q → r xs H Q) : CallR X f r' := fun pins s σ H xs us Q I rx q => h pins s σ H xs us Q I rx (w xs H Q q)

/-! ### names -/
def fVar (i : Nat) : TE := fun σ H Q => match σ[i]? with
  | some (some v) => Q v H
  | _ => False
theorem fe_var (i : Nat) {x : Str} {pos : Pos} (hN : X.N[i]? = some x := by rfl) (hv : Vis X.env.scope x := by first | exact Or.inl rfl | exact Or.inr (Or.inl rfl) | exact Or.inr (Or.inr rfl)) (hd : (x == ("__debug__" : Str)) = false := by decide)
    (hcd : (x == ("__classdict__" : Str)) = false := by decide) : PE X (.Name x pos) (fVar i) := pe_wk (pe_var hN hv hd hcd) fun σ H Q q => by
  unfold fVar at q
  split at q
  · exact ⟨_, by assumption, q⟩
  · exact q.elim

theorem same_new {H : Hp} {p : Addr} {o : HO} (h : H p = none) : Same H (upd H p o) := fun b x e => by
  rw [upd_ne (ne_of_none e h)]
  exact e
/-- a new tuple, a new list: behind it a heap that has it and keeps the rest -/
def fTup (t : TA) : TE := fun σ H Q => t σ H fun xs H1 => xs.length ≤ 100000 ∧ ∀ p H2, H1 p = none → Same H1 H2 → H2 p = some (.tup xs) → Q (.ref p) H2
def fLst (t : TA) : TE := fun σ H Q => t σ H fun xs H1 => xs.length ≤ 100000 ∧ ∀ p H2, H1 p = none → Same H1 H2 → H2 p = some (.lst xs) → Q (.ref p) H2
theorem line5 {n : Nat} (h : n ≤ 100000) : n ≤ sizeLine := Nat.le_trans h (by decide)
section
variable {es : List Expr} {t : TA} {pos : Pos}
theorem fe_tup {x1} (h : PA X es t) : PE X (.Tuple es x1 pos) (fTup t) := by
  refine ⟨fun pins s σ H Q I hq => ?_⟩
  refine wpAny_Tuple_spliced (thn (h.run pos pins s σ H _ I hq) fun us s1 ⟨xs, H1, I1, r, z, q⟩ => ⟨by rw [← r.length]; exact line5 z, ?_⟩)
  have hf : H1 s1.heap.objs.size = none := I1.hok.fresh (Nat.le_refl _)
  refine ⟨.ref s1.heap.objs.size, upd H1 s1.heap.objs.size (.tup xs), I1.laid (t' := s1.toks) (fun b u e => Heap.get?_push_of_some _ e) (Nat.le_refl _) ?_, rfl, q _ _ hf (same_new hf) upd_same⟩
  exact ⟨line5 z, us, r, ⟨_, Heap.get?_push_size _ rfl, rfl, _, rfl⟩⟩
theorem fe_lst (h : PA X es t) : PE X (.List es pos) (fLst t) := by
  refine ⟨fun pins s σ H Q I hq => ?_⟩
  refine wpAny_List_spliced (thn (h.run pos pins s σ H _ I hq) fun us s1 ⟨xs, H1, I1, r, z, q⟩ => ⟨by rw [← r.length]; exact line5 z, ?_⟩)
  have hf : H1 s1.heap.objs.size = none := I1.hok.fresh (Nat.le_refl _)
  refine ⟨.ref s1.heap.objs.size, upd H1 s1.heap.objs.size (.lst xs), I1.laid (t' := s1.toks) (fun b u e => Heap.get?_push_of_some _ e) (Nat.le_refl _) ?_, rfl, q _ _ hf (same_new hf) upd_same⟩
  exact ⟨line5 z, us, 0, r, Heap.get?_push_size _ rfl⟩
end
/-! ### a list or a tuple that is read -/
def Rl (K : PySem.W.Frag) (H : Hp) (a : Addr) (xs : List V) : Prop := SqL K H a xs ∨ SqT K H a xs
theorem rl_l {K : PySem.W.Frag} {H : Hp} {a : Addr} {xs : List V} (h : H a = some (.lst xs)) : Rl K H a xs := .inl (SqL.of h)
theorem rl_t {K : PySem.W.Frag} {H : Hp} {a : Addr} {xs : List V} (h : H a = some (.tup xs)) : Rl K H a xs := .inr (SqT.of h)

/-! ### operators by values -/
def fAdd (K : PySem.W.Frag) : R2 := fun x y H Q => match x, y with
  | .int i, .int j => Q (.int (i + j)) H
  | .str a, .str b => a.length + b.length ≤ sizeLine ∧ Q (.str (a ++ b)) H
  | .ref l, .ref b => match H l, H b with
    | some (.lst xs), some (.lst zs) => xs.length + zs.length ≤ sizeLine ∧ ∀ p H1, H p = none → Same H H1 → H1 p = some (.lst (xs ++ zs)) → Q (.ref p) H1
    | _, _ => False
  | _, _ => False
theorem op_fAdd : OpR X (binaryOp .Add) (fAdd X.K) := by
  intro pins s σ H x y v u Q I rx ry h
  cases x <;> cases y <;> first
    | exact False.elim h
    | exact op_add pins s σ H _ _ v u Q I rx ry ⟨_, _, rfl, rfl, h⟩
    | exact op_add_str pins s σ H _ _ v u Q I rx ry ⟨_, _, rfl, rfl, h⟩
    | (dsimp only [fAdd] at h
       split at h
       · exact op_cat pins s σ H _ _ v u Q I rx ry ⟨_, _, _, _, rfl, rfl, by assumption, by assumption, h.1, fun p np => h.2 p _ np (same_new np) upd_same⟩
       · exact h.elim)
def fSub : R2 := fun x y H Q => match x, y with
  | .int i, .int j => Q (.int (i - j)) H
  | _, _ => False
theorem op_fSub : OpR X (binaryOp .Sub) fSub := by
  intro pins s σ H x y v u Q I rx ry h
  cases x <;> cases y <;> first
    | exact False.elim h
    | exact op_sub pins s σ H _ _ v u Q I rx ry ⟨_, _, rfl, rfl, h⟩
def fMul : R2 := fun x y H Q => match x, y with
  | .int i, .int j => IntMulOk i j ∧ Q (.int (i * j)) H
  | .str a, .int j => MulOk a j ∧ Q (.str (Txt.mul a j)) H
  | .ref l, .int k => rRep (.ref l) (.int k) H Q
  | _, _ => False
theorem op_fMul : OpR X (binaryOp .Mult) fMul := by
  intro pins s σ H x y v u Q I rx ry h
  match x, y, rx, ry, h with
  | .int i, .int j, ⟨t, e⟩, ⟨t', e'⟩, ⟨hm, q⟩ =>
    subst e e'
    exact mul_int ⟨.int _, H, I.tok _, ⟨_, rfl⟩, q⟩ hm
  | .str a, .int j, ⟨t, e⟩, ⟨t', e'⟩, ⟨hm, q⟩ =>
    subst e e'
    exact SB.mul hm fun t' k => ⟨.str _, H, I.tok _, ⟨_, rfl⟩, q⟩
  | .ref l, .int k, rx, ry, h => exact op_rep pins s σ H _ _ v u Q I rx ry h
def fDiv : R2 := fun x y H Q => match x, y with
  | .int i, .int j => CDivW i j ∧ Q (.int (i / j)) H
  | _, _ => False
theorem op_fDiv : OpR X (binaryOp .FloorDiv) fDiv := by
  intro pins s σ H x y v u Q I rx ry h
  cases x <;> cases y <;> first
    | exact False.elim h
    | exact op_fdivW pins s σ H _ _ v u Q I rx ry ⟨_, _, rfl, rfl, h⟩
def fMod : R2 := fun x y H Q => match x, y with
  | .int i, .int j => 0 < j ∧ Q (.int (i % j)) H
  | _, _ => False
theorem op_fMod : OpR X (binaryOp .Mod) fMod := by
  intro pins s σ H x y v u Q I rx ry h
  cases x <;> cases y <;> first
    | exact False.elim h
    | exact op_mod pins s σ H _ _ v u Q I rx ry ⟨_, _, rfl, rfl, h⟩
def fNeg : V → Hp → VK → Prop := fun x H Q => match x with
  | .int i => Q (.int (-i)) H
  | _ => False
theorem un_fNeg : UnR X (unaryOp .USub) fNeg := by
  intro pins s σ H x v Q I rx h
  cases x <;> first
    | exact False.elim h
    | exact un_neg pins s σ H _ v Q I rx ⟨_, rfl, h⟩
/-- data that == may look at -/
def okd (d : PyData) : Bool := d.plain && decide (d.depth ≤ 64)
/-- == of scalars as such, of lists and tuples as data -/
def fEq (K : PySem.W.Frag) (neg : Bool) : R2 := fun x y H Q =>
  if scal x y = true then Q (.bl (if neg = true then !decide (x = y) else decide (x = y))) H
  else ∃ d e, Dp K H x d ∧ Dp K H y e ∧ okd d = true ∧ okd e = true ∧ Q (.bl (if neg = true then !PyData.eqv d e else PyData.eqv d e)) H
theorem op_fEq (hu : X.A.units + 64 < cLine) : OpR X (compareOp .Eq) (fEq X.K false) := by
  intro pins s σ H x y v u Q I rx ry h
  unfold fEq at h
  split at h
  · exact op_eq pins s σ H x y v u Q I rx ry ⟨by assumption, h⟩
  · obtain ⟨d, e, hd, he, sd, se, q⟩ := h
    obtain ⟨as, r1⟩ := Dp.reads I d x v hd rx
    obtain ⟨bs, r2⟩ := Dp.reads I e y u he ry
    have sd := Bool.and_eq_true_iff.mp sd
    have se := Bool.and_eq_true_iff.mp se
    have d1 := of_decide_eq_true sd.2
    exact SeqAt.eq_plain r1 r2 sd.1 se.1 (by omega) ⟨.bl _, H, I, rfl, q⟩
theorem op_fNe (hu : X.A.units + 64 < cLine) : OpR X (compareOp .NotEq) (fEq X.K true) := by
  intro pins s σ H x y v u Q I rx ry h
  unfold fEq at h
  split at h
  · exact op_ne pins s σ H x y v u Q I rx ry ⟨by assumption, h⟩
  · obtain ⟨d, e, hd, he, sd, se, q⟩ := h
    obtain ⟨as, r1⟩ := Dp.reads I d x v hd rx
    obtain ⟨bs, r2⟩ := Dp.reads I e y u he ry
    have sd := Bool.and_eq_true_iff.mp sd
    have se := Bool.and_eq_true_iff.mp se
    have d1 := of_decide_eq_true sd.2
    exact SeqAt.ne_plain r1 r2 sd.1 se.1 (by omega) ⟨.bl _, H, I, rfl, q⟩
def fLt : R2 := fun x y H Q => match x, y with
  | .int i, .int j => Q (.bl (decide (i < j))) H
  | .str i, .str j => Q (.bl (decide (i.cps.toList < j.cps.toList))) H
  | _, _ => False
theorem op_fLt : OpR X (compareOp .Lt) fLt := by
  intro pins s σ H x y v u Q I rx ry h
  cases x <;> cases y <;> first
    | exact False.elim h
    | exact op_lt pins s σ H _ _ v u Q I rx ry ⟨_, _, rfl, rfl, h⟩
    | exact op_lt_str pins s σ H _ _ v u Q I rx ry ⟨_, _, rfl, rfl, h⟩
def fLe : R2 := fun x y H Q => match x, y with
  | .int i, .int j => Q (.bl (decide (i ≤ j))) H
  | .str i, .str j => Q (.bl (!decide (j.cps.toList < i.cps.toList))) H
  | _, _ => False
theorem op_fLe : OpR X (compareOp .LtE) fLe := by
  intro pins s σ H x y v u Q I rx ry h
  cases x <;> cases y <;> first
    | exact False.elim h
    | exact op_le pins s σ H _ _ v u Q I rx ry ⟨_, _, rfl, rfl, h⟩
    | exact op_le_str pins s σ H _ _ v u Q I rx ry ⟨_, _, rfl, rfl, h⟩
def fGt : R2 := fun x y H Q => match x, y with
  | .int i, .int j => Q (.bl (decide (j < i))) H
  | .str i, .str j => Q (.bl (decide (j.cps.toList < i.cps.toList))) H
  | _, _ => False
theorem op_fGt : OpR X (compareOp .Gt) fGt := by
  intro pins s σ H x y v u Q I rx ry h
  cases x <;> cases y <;> first
    | exact False.elim h
    | exact op_gt pins s σ H _ _ v u Q I rx ry ⟨_, _, rfl, rfl, h⟩
    | exact op_gt_str pins s σ H _ _ v u Q I rx ry ⟨_, _, rfl, rfl, h⟩
def fGe : R2 := fun x y H Q => match x, y with
  | .int i, .int j => Q (.bl (decide (j ≤ i))) H
  | .str i, .str j => Q (.bl (!decide (i.cps.toList < j.cps.toList))) H
  | _, _ => False
theorem op_fGe : OpR X (compareOp .GtE) fGe := by
  intro pins s σ H x y v u Q I rx ry h
  cases x <;> cases y <;> first
    | exact False.elim h
    | exact op_ge pins s σ H _ _ v u Q I rx ry ⟨_, _, rfl, rfl, h⟩
    | exact op_ge_str pins s σ H _ _ v u Q I rx ry ⟨_, _, rfl, rfl, h⟩
/-- x in y: one sign in a text; a text in a text; a flat value in a list or tuple of flat values -/
def fIn (K : PySem.W.Frag) (neg : Bool) : R2 := fun x y H Q => match x, y with
  | .str a, .str b => match a.cps.toList with
    | [c] => Q (.bl (if neg = true then !decide (c ∈ b.cps.toList) else decide (c ∈ b.cps.toList))) H
    | _ => Q (.bl (if neg = true then !(!(Builtin.Str.occurrences b a 0 b.length 1).isEmpty) else !(Builtin.Str.occurrences b a 0 b.length 1).isEmpty)) H
  | x, .ref p => ∃ xs, Rl K H p xs ∧ flatV x = true ∧ xs.all flatV = true ∧ Q (.bl (if neg = true then !inV x xs else inV x xs)) H
  | _, _ => False
theorem str_one {a : Str} {c : Nat} (h : a.cps.toList = [c]) : a = ⟨#[c]⟩ := by
  obtain ⟨⟨l⟩⟩ := a
  have h' : l = [c] := h
  subst h'
  rfl
theorem op_fIn : OpR X (compareOp .In) (fIn X.K false) := by
  intro pins s σ H x y v u Q I rx ry h
  cases y with
  | str b =>
    cases x with
    | str a =>
      dsimp only [fIn] at h
      split at h
      · rename_i c e
        cases str_one e
        exact op_in_sign pins s σ H _ _ v u Q I rx ry ⟨_, _, rfl, rfl, h⟩
      · exact op_in_str pins s σ H _ _ v u Q I rx ry ⟨_, _, rfl, rfl, h⟩
    | _ => exact False.elim h
  | ref p =>
    have h' : ∃ xs, Rl X.K H p xs ∧ flatV x = true ∧ xs.all flatV = true ∧ Q (.bl (if false = true then !inV x xs else inV x xs)) H := by
      cases x <;> exact h
    obtain ⟨xs, h1, h2, h3, h4⟩ := h'
    exact op_in_seq pins s σ H _ _ v u Q I rx ry ⟨p, xs, rfl, h1, h2, h3, h4⟩
  | _ => cases x <;> exact False.elim h
theorem op_fNotIn : OpR X (compareOp .NotIn) (fIn X.K true) := by
  intro pins s σ H x y v u Q I rx ry h
  cases y with
  | str b =>
    cases x with
    | str a =>
      dsimp only [fIn] at h
      split at h
      · rename_i c e
        cases str_one e
        exact op_notIn_sign pins s σ H _ _ v u Q I rx ry ⟨_, _, rfl, rfl, h⟩
      · exact op_notin_str pins s σ H _ _ v u Q I rx ry ⟨_, _, rfl, rfl, h⟩
    | _ => exact False.elim h
  | ref p =>
    have h' : ∃ xs, Rl X.K H p xs ∧ flatV x = true ∧ xs.all flatV = true ∧ Q (.bl (if true = true then !inV x xs else inV x xs)) H := by
      cases x <;> exact h
    obtain ⟨xs, h1, h2, h3, h4⟩ := h'
    exact op_notIn_seq pins s σ H _ _ v u Q I rx ry ⟨p, xs, rfl, h1, h2, h3, h4⟩
  | _ => cases x <;> exact False.elim h
/-- is, with None on the right -/
def fIsN : R2 := fun x y H Q => y = .non ∧ Q (.bl (decide (x = .non))) H
def fNotN : R2 := fun x y H Q => y = .non ∧ Q (.bl (!decide (x = .non))) H
theorem op_fIsN : OpR X (compareOp .Is) fIsN := op_isN
theorem op_fNotN : OpR X (compareOp .IsNot) fNotN := op_notN
/-- x[i] -/
def fIx (K : PySem.W.Frag) : R2 := fun x y H Q => match x, y with
  | .str z, .int i => z.length ≤ sizeLine ∧ ∃ c, atI z.cps.toList i = some c ∧ Q (.str ⟨#[c]⟩) H
  | .ref p, .int i => ∃ xs, Rl K H p xs ∧ ∃ v, atI xs i = some v ∧ Q v H
  | _, _ => False
theorem ix_fx : IxR X (fIx X.K) := by
  intro e1 e2 pins s σ H x y v u Q I rx ry h hs
  cases x <;> cases y <;> first
    | exact False.elim h
    | (obtain ⟨h1, c, h2, h3⟩ := h
       exact ix_str e1 e2 pins s σ H _ _ v u Q I rx ry ⟨_, _, c, rfl, rfl, h1, h2, h3⟩ hs)
    | (obtain ⟨xs, h1, w, h2, h3⟩ := h
       rcases h1 with h1 | h1
       · exact ix_list e1 e2 pins s σ H _ _ v u Q I rx ry ⟨_, xs, _, w, rfl, rfl, h1, h2, h3⟩ hs
       · exact ix_tup e1 e2 pins s σ H _ _ v u Q I rx ry ⟨_, xs, _, w, rfl, rfl, h1, h2, h3⟩ hs)
/-- x[lo:hi] of a text, of a list -/
def fSl (K : PySem.W.Frag) : V → Option Int → Option Int → Hp → VK → Prop := fun x lo hi H Q => match x with
  | .str z => z.length ≤ sizeLine ∧ Q (.str (cutS z lo hi)) H
  | .ref a => ∃ xs, SqL K H a xs ∧ ∀ p H1, H p = none → Same H H1 → H1 p = some (.lst (cutV xs lo hi)) → Q (.ref p) H1
  | _ => False
theorem sl_fx : SlR X (fSl X.K) := by
  intro pins s σ H x v vl vu lo hi sl Q I rx hs pl pu h
  cases x <;> first
    | exact False.elim h
    | exact sl_str pins s σ H _ v vl vu lo hi sl Q I rx hs pl pu ⟨_, rfl, h⟩
    | (obtain ⟨xs, h1, h2⟩ := h
       exact sl_list pins s σ H _ v vl vu lo hi sl Q I rx hs pl pu ⟨_, xs, rfl, h1, fun p np => h2 p _ np (same_new np) upd_same⟩)
/-- o[i] = v of a list -/
def fSet : TSet := fun o i v H Q => match o, i with
  | .ref p, .int k => match H p with
    | some (.lst xs) => ∃ j, ixN xs.length k = some j ∧ Q (upd H p (.lst (xs.set j v)))
    | _ => False
  | _, _ => False
theorem set_fx : PSet X fSet := by
  intro pins s σ H o i v ov iv u Q I ro ri rv h
  cases o <;> cases i <;> first
    | exact False.elim h
    | (dsimp only [fSet] at h
       split at h
       · obtain ⟨j, h2, h3⟩ := h
         exact set_list pins s σ H _ _ v ov iv u Q I ro ri rv ⟨_, _, _, j, rfl, rfl, by assumption, h2, h3⟩
       · exact h.elim)
/-- name += e -/
def fIAdd : TIp := fun x y H Q => match x, y with
  | .int i, .int j => Q (.int (i + j)) H
  | .str a, .str b => a.length + b.length ≤ sizeLine ∧ Q (.str (a ++ b)) H
  | _, _ => False
theorem ip_fAdd : PIp X .Add fIAdd := by
  intro pins s σ H x y v u Q I rx ry h
  cases x <;> cases y <;> first
    | exact False.elim h
    | exact ip_add pins s σ H _ _ v u Q I rx ry ⟨_, _, rfl, rfl, h⟩
    | exact iop_add_str pins s σ H _ _ v u Q I rx ry ⟨_, _, rfl, rfl, h⟩
def fISub : TIp := fun x y H Q => match x, y with
  | .int i, .int j => Q (.int (i - j)) H
  | _, _ => False
theorem ip_fSub : PIp X .Sub fISub := by
  intro pins s σ H x y v u Q I rx ry h
  cases x <;> cases y <;> first
    | exact False.elim h
    | exact ip_sub pins s σ H _ _ v u Q I rx ry ⟨_, _, rfl, rfl, h⟩
/-! ### built-in calls -/
def fLen (K : PySem.W.Frag) : List V → Hp → VK → Prop := fun xs H Q => match xs with
  | [.str z] => z.length ≤ sizeLine ∧ Q (.int z.length) H
  | [.ref p] => ∃ ys, Rl K H p ys ∧ Q (.int ys.length) H
  | _ => False
theorem call_fLen : CallR X (.builtin "len") (fLen X.K) := by
  intro pins s σ H xs us Q I r h
  match xs, r, h with
  | [.str z], r, h => exact call_len_str pins s σ H _ us Q I r ⟨z, rfl, h⟩
  | [.ref p], r, h =>
    obtain ⟨ys, h1, h2⟩ := h
    exact call_len_seq pins s σ H _ us Q I r ⟨p, ys, rfl, h1, h2⟩
/-- len of a dict -/
def fLenD : List V → Hp → VK → Prop := fun xs H Q => match xs with
  | [.ref p] => ∃ kvs, H p = some (.dK kvs) ∧ Q (.int kvs.length) H
  | _ => False
theorem call_fLenD : CallR X (.builtin "len") fLenD := by
  intro pins s σ H xs us Q I r h
  match xs, r, h with
  | [.ref p], r, h =>
    obtain ⟨kvs, h1, h2⟩ := h
    exact call_lenD pins s σ H _ us Q I r ⟨p, kvs, rfl, h1, h2⟩
def fInt : List V → Hp → VK → Prop := fun xs H Q => match xs with
  | [.int i] => Q (.int i) H
  | [.bl k] => Q (.int (if k then 1 else 0)) H
  | [.str a] => ∃ n, PySem.intText? a = some n ∧ a.length ≤ 640 ∧ Q (.int n) H
  | _ => False
theorem call_fInt : CallR X (.type "int") fInt := by
  intro pins s σ H xs us Q I r h
  match xs, r, h with
  | [.int i], r, h => exact call_int1 pins s σ H _ us Q I r (.inl ⟨i, rfl, h⟩)
  | [.bl k], r, h => exact call_int1 pins s σ H _ us Q I r (.inr ⟨k, rfl, h⟩)
  | [.str a], r, h =>
    obtain ⟨n, h1, h2, h3⟩ := h
    exact call_int_str pins s σ H _ us Q I r ⟨a, n, rfl, h1, h2, h3⟩
def fStr : List V → Hp → VK → Prop := fun xs H Q => match xs with
  | [.int i] => i.natAbs.log2 < 1920 ∧ Q (.str (toString i)) H
  | _ => False
theorem call_fStr : CallR X (.type "str") fStr := by
  intro pins s σ H xs us Q I r h
  match xs, r, h with
  | [.int i], r, h => exact call_str_int pins s σ H _ us Q I r ⟨i, rfl, h⟩
def fAbs : List V → Hp → VK → Prop := fun xs H Q => match xs with
  | [.int i] => Q (.int (if i < 0 then -i else i)) H
  | _ => False
theorem call_fAbs : CallR X (.builtin "abs") fAbs := by
  intro pins s σ H xs us Q I r h
  match xs, r, h with
  | [.int i], r, h => exact call_abs pins s σ H _ us Q I r ⟨i, rfl, h⟩
def fMax : List V → Hp → VK → Prop := fun xs H Q => match xs with
  | [.int i, .int j] => Q (.int (if j > i then j else i)) H
  | _ => False
theorem call_fMax (hc : X.calm = true) : CallR X (.builtin "max") fMax := by
  intro pins s σ H xs us Q I r h
  match xs, r, h with
  | [.int i, .int j], r, h => exact call_max2 hc pins s σ H _ us Q I r ⟨i, j, rfl, h⟩
def fMin : List V → Hp → VK → Prop := fun xs H Q => match xs with
  | [.int i, .int j] => Q (.int (if j < i then j else i)) H
  | _ => False
theorem call_fMin (hc : X.calm = true) : CallR X (.builtin "min") fMin := by
  intro pins s σ H xs us Q I r h
  match xs, r, h with
  | [.int i, .int j], r, h => exact call_min2 hc pins s σ H _ us Q I r ⟨i, j, rfl, h⟩
def fOrd : List V → Hp → VK → Prop := fun xs H Q => match xs with
  | [.str x] => ∃ c, x.cps.toList = [c] ∧ Q (.int (c : Nat)) H
  | _ => False
theorem call_fOrd : CallR X (.builtin "ord") fOrd := by
  intro pins s σ H xs us Q I r h
  match xs, r, h with
  | [.str x], r, h =>
    obtain ⟨c, h1, h2⟩ := h
    cases str_one h1
    exact call_ord pins s σ H _ us Q I r ⟨_, rfl, rfl, h2⟩
def fChr : List V → Hp → VK → Prop := fun xs H Q => match xs with
  | [.int i] => (0 ≤ i ∧ i ≤ 1114111) ∧ Q (.str ⟨#[i.toNat]⟩) H
  | _ => False
theorem call_fChr : CallR X (.builtin "chr") fChr := by
  intro pins s σ H xs us Q I r h
  match xs, r, h with
  | [.int i], r, h => exact call_chr pins s σ H _ us Q I r ⟨i, rfl, h.1.1, h.1.2, h.2⟩
/-- list(x): a new list -/
def fListOf (K : PySem.W.Frag) : List V → Hp → VK → Prop := fun xs H Q => match xs with
  | [.ref p] => ∃ ys, Rl K H p ys ∧ ∀ l H1, H l = none → Same H H1 → H1 l = some (.lst ys) → Q (.ref l) H1
  | _ => False
theorem call_fListOf : CallR X (.type "list") (fListOf X.K) := by
  intro pins s σ H xs us Q I r h
  match xs, r, h with
  | [.ref p], r, h =>
    obtain ⟨ys, h1, h2⟩ := h
    exact call_list_of pins s σ H _ us Q I r ⟨p, ys, rfl, h1, fun l nl => h2 l _ nl (same_new nl) upd_same⟩
/-! ### isinstance of a built-in class -/
/-- a value's built-in class (by the abstract heap), where it is plain -/
def tyOf (H : Hp) : V → Option String
  | .non => some "NoneType"
  | .bl _ => some "bool"
  | .int _ => some "int"
  | .str _ => some "str"
  | .ref a => match H a with
    | some (.lst _) => some "list"
    | some (.tup _) => some "tuple"
    | some (.dK _) => some "dict"
    | some (.dT _) => some "dict"
    | _ => none
  | _ => none
theorem tyX_of {K : PySem.W.Frag} {H : Hp} {x : V} {t : String} (h : tyOf H x = some t) : TyX K H x (.type t) := by
  cases x with
  | non => cases h; exact .base .non
  | bl b => cases h; exact .base (.bl b)
  | int b => cases h; exact .base (.int b)
  | str b => cases h; exact .base (.str b)
  | ref a =>
    dsimp only [tyOf] at h
    split at h <;> first
      | (cases h; exact .base (.lst (by assumption)))
      | (cases h; exact .base (.tup (by assumption)))
      | (cases h; exact .base (.dK (by assumption)))
      | (cases h; exact .base (.dT (by assumption)))
      | cases h
  | _ => cases h
/-- one of some built-in classes -/
def kitBs (t : String) : List V → Option Bool
  | [] => some false
  | .ty n :: cs => match kitB t n, kitBs t cs with
    | some b, some r => some (b || r)
    | _, _ => none
  | _ => none
theorem kitBs_any {K : PySem.W.Frag} {t : String} : ∀ {cs : List V} {r : Bool}, kitBs t cs = some r → ∃ us, Paired ClsV cs us ∧ PySem.W.kitAny K (.type t) us = some r
  | [], r, h => by cases h; exact ⟨[], .nil, kitAny_nil⟩
  | c :: cs, r, h => by
    cases c <;> first
      | cases h
      | (rename_i n
         unfold kitBs at h
         split at h
         · rename_i b r' e e2
           cases h
           obtain ⟨us, p, q⟩ := kitBs_any e2
           refine ⟨_, .cons (.ty n) p, kitAny_cons (kit_ty e) (fun hb => ?_) fun hb => ?_⟩
           · rw [hb]; exact q
           · rw [hb]; rfl
         · cases h)
theorem kitBv : kitB "NoneType" "bool" = some false ∧ kitB "NoneType" "int" = some false ∧ kitB "NoneType" "str" = some false ∧ kitB "NoneType" "list" = some false ∧ kitB "NoneType" "tuple" = some false ∧ kitB "NoneType" "dict" = some false ∧ kitB "bool" "bool" = some true ∧ kitB "bool" "int" = some true ∧ kitB "bool" "str" = some false ∧ kitB "bool" "list" = some false ∧ kitB "bool" "tuple" = some false ∧ kitB "bool" "dict" = some false ∧ kitB "int" "bool" = some false ∧ kitB "int" "int" = some true ∧ kitB "int" "str" = some false ∧ kitB "int" "list" = some false ∧ kitB "int" "tuple" = some false ∧ kitB "int" "dict" = some false ∧ kitB "str" "bool" = some false ∧ kitB "str" "int" = some false ∧ kitB "str" "str" = some true ∧ kitB "str" "list" = some false ∧ kitB "str" "tuple" = some false ∧ kitB "str" "dict" = some false ∧ kitB "list" "bool" = some false ∧ kitB "list" "int" = some false ∧ kitB "list" "str" = some false ∧ kitB "list" "list" = some true ∧ kitB "list" "tuple" = some false ∧ kitB "list" "dict" = some false ∧ kitB "tuple" "bool" = some false ∧ kitB "tuple" "int" = some false ∧ kitB "tuple" "str" = some false ∧ kitB "tuple" "list" = some false ∧ kitB "tuple" "tuple" = some true ∧ kitB "tuple" "dict" = some false ∧ kitB "dict" "bool" = some false ∧ kitB "dict" "int" = some false ∧ kitB "dict" "str" = some false ∧ kitB "dict" "list" = some false ∧ kitB "dict" "tuple" = some false ∧ kitB "dict" "dict" = some true := by decide +kernel
/-- isinstance(x, T), T a built-in class, or a new tuple of such -/
def fIsi : List V → Hp → VK → Prop := fun xs H Q => match xs with
  | [x, .ty n] => ∃ t, tyOf H x = some t ∧ ∃ b, kitB t n = some b ∧ Q (.bl b) H
  | [x, .ref p] => match H p with
    | some (.tup cs) => ∃ t, tyOf H x = some t ∧ ∃ b, kitBs t cs = some b ∧ Q (.bl b) H
    | _ => False
  | _ => False
theorem call_fIsi : CallR X (.builtin "isinstance") fIsi := by
  intro pins s σ H xs us Q I r h
  match xs, r, h with
  | [x, .ty n], r, h =>
    obtain ⟨t, h1, b, h2, h3⟩ := h
    exact call_isi pins s σ H _ us Q I r ⟨x, .ty n, _, _, b, rfl, .ty n, tyX_of h1, kit_ty h2, h3⟩
  | [x, .ref p], r, h =>
    dsimp only [fIsi] at h
    split at h
    · obtain ⟨t, h1, b, h2, h3⟩ := h
      obtain ⟨ws, h4, h5⟩ := kitBs_any h2
      exact call_isiT pins s σ H _ us Q I r ⟨x, p, _, _, ws, b, rfl, by assumption, h4, tyX_of h1, h5, h3⟩
    · exact h.elim
/-! ### methods of built-in types -/
def isLst : V → Hp → Prop := fun x H => match x with
  | .ref p => match H p with
    | some (.lst _) => True
    | _ => False
  | _ => False
theorem isLst_ty {K : PySem.W.Frag} {x : V} {H : Hp} (h : isLst x H) : tyV K "list" x H := by
  unfold isLst at h
  split at h
  · split at h
    · exact .inl ⟨rfl, _, SqL.of (by assumption)⟩
    · exact h.elim
  · exact h.elim
def isDct : V → Hp → Prop := fun x H => match x with
  | .ref p => match H p with
    | some (.dK _) => True
    | _ => False
  | _ => False
theorem isDct_ty {K : PySem.W.Frag} {x : V} {H : Hp} (h : isDct x H) : tyV K "dict" x H := by
  unfold isDct at h
  split at h
  · split at h
    · exact .inr (.inr (.inl ⟨rfl, .inl ⟨_, by assumption⟩⟩))
    · exact h.elim
  · exact h.elim
def isStr : V → Hp → Prop := fun x _ => match x with
  | .str _ => True
  | _ => False
theorem isStr_ty {K : PySem.W.Frag} {x : V} {H : Hp} (h : isStr x H) : tyV K "str" x H := by
  cases x <;> first | exact rfl | exact False.elim h
section
variable {o e : Expr} {es : List Expr} {to te : TE} {t : TA} {apos cpos : Pos} {T id : String} {name : Str} {r : V → List V → Hp → VK → Prop} {ty : V → Hp → Prop}
def fBM0 (ty : V → Hp → Prop) (r : V → List V → Hp → VK → Prop) (to : TE) : TE := fun σ H Q => to σ H fun x H1 => ty x H1 ∧ r x [] H1 Q
def fBM (ty : V → Hp → Prop) (r : V → List V → Hp → VK → Prop) (to : TE) (t : TA) : TE := fun σ H Q => to σ H fun x H1 => ty x H1 ∧ t σ H1 fun xs H2 => r x xs H2 Q
theorem fe_bm0 (pa : PlainAttrs T) (slot : Slot T name id) (hty : typeOf (.builtin id) = pure (.type "method_descriptor")) (hT : ∀ {K : PySem.W.Frag} {x : V} {H : Hp}, ty x H → tyV K T x H) (hm : MtR X id r) (ho : PE X o to)
    (hbase : attributeBase o name X.env (eval o X.env) = eval o X.env := by rfl) (hline : (apos.endLine == cpos.line) = true := by rfl) : PE X (.Call (.Attribute o name apos) [] [] cpos) (fBM0 ty r to) := by
  refine ⟨fun pins s σ H Q I h => ?_⟩
  refine wpAny_Call_method0_late hbase hline (thn (ho.run pins s σ H _ I h) fun v s1 ⟨x, H1, I1, r1, tyx, q1⟩ => ?_)
  obtain ⟨h1, h2⟩ := tyV_is I1 r1 (hT tyx)
  exact ⟨T, id, pa, slot, hty, h1, h2, Calls.callWith_builtin rfl (PySem.evalArgs_none (hm pins s1 σ H1 x [] v [] Q I1 r1 .nil q1))⟩
theorem fe_bm (pa : PlainAttrs T) (slot : Slot T name id) (hty : typeOf (.builtin id) = pure (.type "method_descriptor")) (hT : ∀ {K : PySem.W.Frag} {x : V} {H : Hp}, ty x H → tyV K T x H) (hm : MtR X id r) (ho : PE X o to) (ha : PA X (e :: es) t)
    (hbase : attributeBase o name X.env (eval o X.env) = eval o X.env := by rfl)
    (hfew : ((backTo cpos (starEach (e :: es) X.env)).all (fun x => !x.1) && (backToKw cpos (keywordEach [] X.env)).all (fun x => x.1.isSome)
      && decide ((e :: es).length + ([] : List Keyword).length + (if ([] : List Keyword).isEmpty then 0 else 1) < 30)) = true := by rfl)
    (hline : (apos.endLine == cpos.line) = true := by rfl) (hs : starEach (e :: es) X.env = (false, eval e X.env) :: starEach es X.env := by rfl) (hplain : (backTo cpos (starEach es X.env)).any (·.1) = false := by rfl) :
    PE X (.Call (.Attribute o name apos) (e :: es) [] cpos) (fBM ty r to t) := by
  refine ⟨fun pins s σ H Q I h => ?_⟩
  refine wpAny_Call_method_late hbase hfew hline rfl (thn (ho.run pins s σ H _ I h) fun v s1 ⟨x, H1, I1, r1, tyx, q1⟩ => ?_)
  obtain ⟨h1, h2⟩ := tyV_is I1 r1 (hT tyx)
  refine ⟨T, id, pa, slot, hty, h1, h2, ?_⟩
  have hA := ha.run cpos pins s1 σ H1 _ I1 q1
  rw [hs] at hA ⊢
  refine Calls.callWith_builtin (by show (false || (backTo cpos (starEach es X.env)).any (·.1)) = false; rw [hplain] <;> rfl) (Calls.evalArgs_plain ?_)
  exact thn hA fun us s2 ⟨vs, H2, I2, r2, q2⟩ => hm pins s2 σ H2 x vs v us Q I2 r1 r2 q2
end
def fAppend : V → List V → Hp → VK → Prop := fun x vs H Q => match x, vs with
  | .ref l, [y] => match H l with
    | some (.lst xs) => xs.length < sizeLine ∧ Q .non (upd H l (.lst (xs ++ [y])))
    | _ => False
  | _, _ => False
theorem mt_fAppend : MtR X "list.append" fAppend := by
  intro pins s σ H x xs v us Q I rx rs h
  unfold fAppend at h
  split at h
  · split at h
    · exact mt_append pins s σ H _ _ v us Q I rx rs ⟨_, _, _, rfl, rfl, by assumption, h⟩
    · exact h.elim
  · exact h.elim
/-- a text's method with one text, by its function -/
def fS1 (g : Str → Str → V) : V → List V → Hp → VK → Prop := fun x vs H Q => match x, vs with
  | .str a, [.str b] => Q (g a b) H
  | _, _ => False
theorem mt_fS1 {id : String} {g : Str → Str → V} (h : MtR X id (fun x xs H Q => ∃ a b, x = .str a ∧ xs = [.str b] ∧ Q (g a b) H)) : MtR X id (fS1 g) := by
  intro pins s σ H x xs v us Q I rx rs q
  unfold fS1 at q
  split at q
  · exact h pins s σ H _ _ v us Q I rx rs ⟨_, _, rfl, rfl, q⟩
  · exact q.elim
theorem mt_fCount : MtR X "str.count" (fS1 fun a b => .int (Txt.count a b)) := mt_fS1 mt_count
theorem mt_fFind : MtR X "str.find" (fS1 fun a b => .int (Txt.find a b)) := mt_fS1 mt_find
theorem mt_fRfind : MtR X "str.rfind" (fS1 fun a b => .int (Txt.rfind a b)) := mt_fS1 mt_rfind
theorem mt_fStarts : MtR X "str.startswith" (fS1 fun a b => .bl (Txt.startswith a b)) := mt_fS1 mt_startswith
theorem mt_fEnds : MtR X "str.endswith" (fS1 fun a b => .bl (Txt.endswith a b)) := mt_fS1 mt_endswith

/-! ### statements, loops -/
theorem seq_ {t1 t2 : TS} {D : Ends} {σ : L2.St} {H : Hp} (h : ∀ N : L2.St → Hp → Prop, (∀ σ H, t2 D σ H → N σ H) → t1 { D with nx := N } σ H) : tSeq t1 t2 D σ H := h _ fun _ _ x => x
/-- what follows is a word of its own -/
theorem cut_ {t : TS} {D : Ends} {σ : L2.St} {H : Hp} (h : ∀ N : L2.St → Hp → Prop, (∀ σ H, D.nx σ H → N σ H) → t { D with nx := N } σ H) : t D σ H := h _ fun _ _ x => x
theorem ifs_ {c : TT} {t u : TS} {D : Ends} {σ : L2.St} {H : Hp} (h : c σ H fun b H1 => if b = true then t D σ H1 else u D σ H1) : tIfS c t u D σ H := h
/-- a loop that is at hand -/
def Loop (J : It) (g : TG) (tb : TS) (D : Ends) (σ : L2.St) (H : Hp) : Prop := ∃ W : Nat → Nat → L2.St → Hp → Prop, (∃ m, W 0 m σ H) ∧ ∀ i m σ H, W i m σ H →
  (J.stop i H ∧ D.nx σ H) ∨ (J.go i H ∧ ∃ N : L2.St → Hp → Prop, (∀ σ' H', N σ' H' → ∃ m', m' < m ∧ W (i + 1) m' σ' H') ∧ ∀ x H', J.yld i H x H' → g x σ H' fun σ2 H2 => tb { D with nx := N, ct := N, bk := D.nx } σ2 H2)
theorem for_eq (wi : TI) (g : TG) (tb : TS) (D : Ends) (σ : L2.St) (H : Hp) : tFor wi g tb D σ H = wi σ H fun J H1 => Loop J g tb D σ H1 := rfl
theorem for_ {wi : TI} {g : TG} {tb : TS} {D : Ends} {σ : L2.St} {H : Hp} (h : wi σ H fun J H1 => Loop J g tb D σ H1) : tFor wi g tb D σ H := h
theorem loop_range {lo : Int} {n : Nat} {g : TG} {tb : TS} {D : Ends} {σ : L2.St} {H : Hp} (Pv : Nat → L2.St → Hp → Prop) (h0 : Pv 0 σ H)
    (hs : ∀ i σ H, i < n → Pv i σ H → g (.int (lo + i)) σ H fun σ2 H2 => tb { D with nx := Pv (i + 1), ct := Pv (i + 1), bk := D.nx } σ2 H2) (hd : ∀ σ H, Pv n σ H → D.nx σ H) : Loop (Itr lo n) g tb D σ H := for_range Pv h0 hs hd
theorem loop_list {K : PySem.W.Frag} {a : Addr} {g : TG} {tb : TS} {D : Ends} {σ : L2.St} {H : Hp} (xs : List V) (Pv : Nat → L2.St → Hp → Prop) (h0 : Pv 0 σ H) (hl : ∀ i σ H, i ≤ xs.length → Pv i σ H → SqL K H a xs)
    (hs : ∀ i x σ H, xs[i]? = some x → Pv i σ H → g x σ H fun σ2 H2 => tb { D with nx := Pv (i + 1), ct := Pv (i + 1), bk := D.nx } σ2 H2) (hd : ∀ σ H, Pv xs.length σ H → D.nx σ H) : Loop (Itl K a) g tb D σ H := for_list Pv h0 hl hs hd
theorem loop_tup {K : PySem.W.Frag} {a : Addr} {g : TG} {tb : TS} {D : Ends} {σ : L2.St} {H : Hp} (xs : List V) (Pv : Nat → L2.St → Hp → Prop) (h0 : Pv 0 σ H) (hl : ∀ i σ H, i ≤ xs.length → Pv i σ H → SqT K H a xs)
    (hs : ∀ i x σ H, xs[i]? = some x → Pv i σ H → g x σ H fun σ2 H2 => tb { D with nx := Pv (i + 1), ct := Pv (i + 1), bk := D.nx } σ2 H2) (hd : ∀ σ H, Pv xs.length σ H → D.nx σ H) : Loop (Itt K a) g tb D σ H := for_tup Pv h0 hl hs hd
theorem loop_str {z : Str} {g : TG} {tb : TS} {D : Ends} {σ : L2.St} {H : Hp} (Pv : Nat → L2.St → Hp → Prop) (h0 : Pv 0 σ H)
    (hs : ∀ i c σ H, z.cps.toList[i]? = some c → Pv i σ H → g (.str ⟨#[c]⟩) σ H fun σ2 H2 => tb { D with nx := Pv (i + 1), ct := Pv (i + 1), bk := D.nx } σ2 H2) (hd : ∀ σ H, Pv z.length σ H → D.nx σ H) : Loop (Its z) g tb D σ H :=
  for_it walk_str Pv h0 (fun _ _ _ _ _ => trivial) (fun i x σ H H' hi p y => by
    obtain ⟨rfl, c, hc, rfl⟩ := y
    exact hs i c σ _ (by rw [Array.getElem?_toList]; exact hc) p) hd
end
end Fx

/-! ### defs by name -/
namespace Fx
open PySem PySem.Spec PyProof.Rows L2
/-- the def that stands at the module's name x keeps the promise sp -/
structure Has (P : Program) (w : World) (K : PySem.W.Frag) (mg : Str → Option Value) (base : Heap) (CX : CXT) (x : Str) (k : Nat) (ps : List Str) (sp : Sp) : Prop where
  ex : ∃ (f : Addr) (fd : FuncData), FnOk P w K mg base CX k f fd ps sp ∧ Binds K fd ps [] ∧ mg x = some (.ref f) ∧ PySem.W.keepIn K (.ref f) = true
/-- what the top has written of a def -/
structure FnFact (K : PySem.W.Frag) (x qual : Str) (st : Stmt) : Prop where
  ex : ∃ (f : Addr) (oc : Value) (od an : Option Addr) (sl : Array (Option Value)) (kV dc pm cd ct : Value),
    PySem.W.nsIn K mainGlobals x = some (some (.ref f)) ∧ K.lookup f = some ⟨oc, od, .func (PySem.W.fnOf x qual (defArgs st) (defBody st) (defScope st) .none kV dc pm an cd ct), sl⟩ ∧
    PySem.W.codeIn K cd qual = true ∧ PySem.W.keepIn K (.ref f) = true
theorem FnFact.of {K : PySem.W.Frag} {x qual : Str} {st : Stmt} {f : Addr} {oc : Value} {od an : Option Addr} {sl : Array (Option Value)} {kV dc pm cd ct : Value}
    (a : PySem.W.nsIn K mainGlobals x = some (some (.ref f))) (l : K.lookup f = some ⟨oc, od, .func (PySem.W.fnOf x qual (defArgs st) (defBody st) (defScope st) .none kV dc pm an cd ct), sl⟩)
    (c : PySem.W.codeIn K cd qual = true) (k : PySem.W.keepIn K (.ref f) = true) : FnFact K x qual st := ⟨f, oc, od, an, sl, kV, dc, pm, cd, ct, a, l, c, k⟩
/-- a def as it stands -/
structure At (K : PySem.W.Frag) (mg : Str → Option Value) (x qual : Str) (st : Stmt) (ps : List Str) : Prop where
  ex : ∃ (f : Addr) (fd : FuncData), Fun K x qual st f fd ∧ Binds K fd ps [] ∧ mg x = some (.ref f)
theorem At.of {K : PySem.W.Frag} {mg : Str → Option Value} {x qual : Str} {st : Stmt} {ps : List Str} {h : Heap} (X : K.In h) (G : h.Ns mainGlobals mg) (F : FnFact K x qual st)
    (hb : ∀ (kV doc pm : Value) (an : Option Addr) (cdv ct : Value) (us : List Value), us.length = ps.length → bindArgs (PySem.W.fnOf x qual (defArgs st) (defBody st) (defScope st) .none kV doc pm an cdv ct) ⟨us, []⟩ = pure (ps.zip us)) : At K mg x qual st ps := by
  obtain ⟨f, oc, od, an, sl, kV, dc, pm, cd, ct, a, l, c, k⟩ := F.ex
  have F1 := fun_mk (st := st) l c k
  exact ⟨_, _, F1, F1.binds hb, PySem.W.mg_of X G a⟩
section
variable {P : Program} {w : World} {K : PySem.W.Frag} {mg : Str → Option Value} {base : Heap}
theorem has_of {x qual : Str} {st : Stmt} {N ps : List Str} {k : Nat} {sp : Sp} (A : At K mg x qual st ps) (S : FnScope N ps (defScope st)) (len : ∀ vs H Q E, sp vs H Q E → vs.length = ps.length)
    (hbody : ∀ (cdv : Value) (f : Addr) (A : Around) (outer : List Env) (s : Shared) (H : Hp) (vs : List V) (Q : VK) (E : XK), Room k (A.deeper (envOfC qual (defScope st) s.heap.objs.size f cdv)) → sp vs H Q E →
      ∃ t, PSs (cxOf CX0 P w K mg base N qual (defScope st) f cdv A outer s H E).nox (defBody st) t ∧ t { nx := fun _ H' => Q .non H', rt := Q } (start N vs) H) : Has P w K mg base CX0 x (k + 1) ps sp := by
  obtain ⟨f, fd, F, B, G⟩ := A.ex
  exact ⟨f, fd, F.ok S len fun cdv A outer s H vs Q E hr h => hbody cdv f A outer s H vs Q E hr h, B, G, F.kp⟩
def spNone : Sp := fun _ _ _ _ => False
/-- a def of which nothing is promised -/
theorem At.never {x qual : Str} {st : Stmt} {ps : List Str} (A : At K mg x qual st ps) : Has P w K mg base CX0 x 0 ps spNone := by
  obtain ⟨f, fd, F, B, G⟩ := A.ex
  exact ⟨f, fd, ⟨fun _ _ _ _ h => h.elim, fun _ _ _ _ _ _ _ _ _ _ _ _ _ h => h.elim⟩, B, G, F.kp⟩
theorem Has.mono {CX : CXT} {x : Str} {j k : Nat} {ps : List Str} {sp : Sp} (h : Has P w K mg base CX x j ps sp) (hk : j ≤ k) : Has P w K mg base CX x k ps sp := by
  obtain ⟨f, fd, F, B, G, kp⟩ := h.ex
  exact ⟨f, fd, F.mono hk, B, G, kp⟩
end
section
variable {X : Cx} {CX : CXT} {k : Nat} {x : Str} {p pos : Pos} {e : Expr} {es : List Expr} {t : TA} {ps : List Str} {sp : Sp} {E : XK}
theorem fe_call (h : Has X.prog X.w X.K X.mg X.base CX x k ps sp) (hr : Room k X.A) (hg : Gl X x) (hx : Passes CX X E) (ha : PA X (e :: es) t) (hd : (x == ("__debug__" : Str)) = false := by decide)
    (hs : starEach (e :: es) X.env = (false, eval e X.env) :: starEach es X.env := by rfl) (hplain : (backTo pos (starEach es X.env)).any (·.1) = false := by rfl) : PE X (.Call (.Name x p) (e :: es) [] pos) (tCall sp [] E t) := by
  obtain ⟨f, fd, F, B, G, kp⟩ := h.ex
  exact pe_call F hr hg G kp B .nil hx ha hd hs hplain
theorem fe_call0 (h : Has X.prog X.w X.K X.mg X.base CX x k ps sp) (hr : Room k X.A) (hg : Gl X x) (hx : Passes CX X E) (hd : (x == ("__debug__" : Str)) = false := by decide) : PE X (.Call (.Name x p) [] [] pos) (tCall sp [] E tNil) := by
  obtain ⟨f, fd, F, B, G, kp⟩ := h.ex
  exact pe_call0 F hr hg G kp B .nil hx hd
end
end Fx

namespace Fx
open PySem PySem.Spec PyProof.Rows L2
section
variable {X : Cx}
/-- a built-in class as a value -/
theorem fe_ty {x : Str} {n : String} {pos : Pos} (hg : Gl X x) (hm : X.mg x = none) (hv : bootBuiltins x = some (.type n)) (hn : x ≠ "__name__" := by decide) (hd : (x == ("__debug__" : Str)) = false := by decide) : PE X (.Name x pos) (tC (.ty n)) := pe_bltn hg hm hv rfl hn hd
end
/-! ### texts as lists -/
def S (l : List Nat) : Str := ⟨l.toArray⟩
def L (z : Str) : List Nat := z.cps.toList
theorem S_L (z : Str) : S (L z) = z := by
  obtain ⟨⟨l⟩⟩ := z
  rfl
theorem L_S (l : List Nat) : L (S l) = l := rfl
theorem S_len (l : List Nat) : (S l).length = l.length := by simp [S, Str.length]
theorem L_len (z : Str) : (L z).length = z.length := by simp [L, Str.length]
theorem S_app (a b : List Nat) : S a ++ S b = S (a ++ b) := by
  show (⟨a.toArray ++ b.toArray⟩ : Str) = ⟨(a ++ b).toArray⟩
  simp
theorem S_cps (l : List Nat) : (S l).cps.toList = l := by simp [S]
theorem S_one (c : Nat) : (⟨#[c]⟩ : Str) = S [c] := rfl
theorem S_inj {a b : List Nat} (h : S a = S b) : a = b := by
  have := congrArg L h
  exact this
theorem cut_take (l : List Nat) {o : Int} (h0 : 0 ≤ o) (h1 : o ≤ l.length) : cutS (S l) none (some o) = S (l.take o.toNat) := by
  unfold cutS
  obtain ⟨k, rfl⟩ := Int.eq_ofNat_of_zero_le h0
  have e : HT.sIx (S l).length (S l).length (some (k : Int)) = min k (S l).length := HT.sIx_nat _ _ _
  rw [HT.sIx_none, e, S_len, S_cps]
  have : min k l.length = k := by omega
  rw [this]
  simp [S]
theorem cut_drop (l : List Nat) {o : Int} (h0 : 0 ≤ o) (h1 : o ≤ l.length) : cutS (S l) (some o) none = S (l.drop o.toNat) := by
  unfold cutS
  obtain ⟨k, rfl⟩ := Int.eq_ofNat_of_zero_le h0
  have e : HT.sIx (S l).length 0 (some (k : Int)) = min k (S l).length := HT.sIx_nat _ _ _
  rw [HT.sIx_none, e, S_len, S_cps]
  have : min k l.length = k := by omega
  rw [this]
  have : (l.drop k).take (l.length - k) = l.drop k := List.take_of_length_le (by rw [List.length_drop]; omega)
  simp [S, this]
theorem cut_mid (l : List Nat) {a b : Int} (h0 : 0 ≤ a) (h1 : a ≤ b) (h2 : b ≤ l.length) : cutS (S l) (some a) (some b) = S ((l.drop a.toNat).take (b.toNat - a.toNat)) := by
  unfold cutS
  obtain ⟨k, rfl⟩ := Int.eq_ofNat_of_zero_le h0
  obtain ⟨m, rfl⟩ := Int.eq_ofNat_of_zero_le (Int.le_trans h0 h1)
  have e1 : HT.sIx (S l).length 0 (some (k : Int)) = min k (S l).length := HT.sIx_nat _ _ _
  have e2 : HT.sIx (S l).length (S l).length (some (m : Int)) = min m (S l).length := HT.sIx_nat _ _ _
  rw [e1, e2, S_len, S_cps]
  have q1 : min k l.length = k := by omega
  have q2 : min m l.length = m := by omega
  rw [q1, q2]
  rfl
theorem len_line {n : Nat} (h : n ≤ 100000) : n ≤ sizeLine := Nat.le_trans h (by decide)
theorem len_line' {n : Nat} (h : n < 100000) : n < sizeLine := Nat.lt_of_lt_of_le h (by decide)
theorem small_div {i j : Int} (h : 0 < j) (h2 : j < 1073741824) : CDivW i j := wide_div (b := 30) h (by omega) (by decide) (by decide)
theorem mul_left {i j : Int} (h : -(2 ^ 64) < i) (h2 : i < 2 ^ 64) : IntMulOk i j := CMul.ok (.inl ⟨h, h2⟩)
theorem mul_right {i j : Int} (h : -(2 ^ 64) < j) (h2 : j < 2 ^ 64) : IntMulOk i j := CMul.ok (.inr ⟨h, h2⟩)
theorem same_mut {H H' : Hp} {p : Addr} {o : HO} (s : Same H H') (h : H p = none) : Same H (upd H' p o) := fun b x e => by
  rw [upd_ne (ne_of_none e h)]
  exact s b x e
theorem ex2 {α β : Type} {a : α} {b : β} {P : α → β → Prop} : (∃ i j, (a = i ∧ b = j) ∧ P i j) ↔ P a b := ⟨fun ⟨_, _, ⟨e1, e2⟩, h⟩ => e1 ▸ e2 ▸ h, fun h => ⟨a, b, ⟨rfl, rfl⟩, h⟩⟩
theorem at_ints {ns : List Int} {i : Int} (h0 : 0 ≤ i) (h1 : i < ns.length) : ∃ z, atI (ns.map V.int) i = some (.int z) := by
  obtain ⟨k, rfl⟩ := Int.eq_ofNat_of_zero_le h0
  have hk : k < ns.length := by omega
  exact ⟨ns[k], atI_nat (by rw [List.getElem?_map, List.getElem?_eq_getElem hk]; rfl)⟩
theorem at_strs {ns : List Str} {i : Int} (h0 : 0 ≤ i) (h1 : i < ns.length) : ∃ z, z ∈ ns ∧ atI (ns.map V.str) i = some (.str z) := by
  obtain ⟨k, rfl⟩ := Int.eq_ofNat_of_zero_le h0
  have hk : k < ns.length := by omega
  exact ⟨ns[k], List.getElem_mem hk, atI_nat (by rw [List.getElem?_map, List.getElem?_eq_getElem hk]; rfl)⟩
theorem getD_eq {α : Type} {ns : List α} {i : Nat} (d : α) (h : i < ns.length) : ns.getD i d = ns[i] := by
  simp [List.getD, List.getElem?_eq_getElem h]
theorem at_getD {ns : List Str} {i : Int} (d : Str) (h0 : 0 ≤ i) (h1 : i < ns.length) : atI (ns.map V.str) i = some (.str (ns.getD i.toNat d)) := by
  obtain ⟨k, rfl⟩ := Int.eq_ofNat_of_zero_le h0
  have hk : k < ns.length := by omega
  refine atI_nat ?_
  rw [List.getElem?_map, List.getElem?_eq_getElem hk, Int.toNat_natCast, getD_eq _ hk]
  rfl
theorem at_getN {ns : List Nat} {i : Int} (d : Nat) (h0 : 0 ≤ i) (h1 : i < ns.length) : atI ns i = some (ns.getD i.toNat d) := by
  obtain ⟨k, rfl⟩ := Int.eq_ofNat_of_zero_le h0
  have hk : k < ns.length := by omega
  refine atI_nat ?_
  rw [List.getElem?_eq_getElem hk, Int.toNat_natCast, getD_eq _ hk]
theorem getD_mem {α : Type} {ns : List α} {i : Nat} (d : α) (h : i < ns.length) : ns.getD i d ∈ ns := by
  rw [getD_eq _ h]
  exact List.getElem_mem h
theorem at_ints_mem {ns : List Int} {i : Int} (h0 : 0 ≤ i) (h1 : i < ns.length) : ∃ z, z ∈ ns ∧ atI (ns.map V.int) i = some (.int z) := by
  obtain ⟨k, rfl⟩ := Int.eq_ofNat_of_zero_le h0
  have hk : k < ns.length := by omega
  exact ⟨ns[k], List.getElem_mem hk, atI_nat (by rw [List.getElem?_map, List.getElem?_eq_getElem hk]; rfl)⟩
theorem emod_lo (r : Int) {m : Int} (h : 0 < m) : 0 ≤ r % m := Int.emod_nonneg _ (by omega)
theorem emod_hi (r : Int) {m : Int} (h : 0 < m) : r % m < m := Int.emod_lt_of_pos _ h
theorem at_vs {xs : List V} {i : Int} (h0 : 0 ≤ i) (h1 : i < xs.length) : ∃ z, z ∈ xs ∧ atI xs i = some z := by
  obtain ⟨k, rfl⟩ := Int.eq_ofNat_of_zero_le h0
  have hk : k < xs.length := by omega
  exact ⟨xs[k], List.getElem_mem hk, atI_nat (List.getElem?_eq_getElem hk)⟩
end Fx

/-! ### constants of the module, more of texts -/
namespace Fx
open PySem PySem.Spec PyProof.Rows L2
theorem one_list (c : Nat) : (⟨#[c]⟩ : Str).cps.toList = [c] := rfl
theorem absV_rel {u : Value} {x : V} (h : absV u = some x) : RelV x u := by
  cases u <;> first
    | (cases h; rfl)
    | (cases h; exact ⟨_, rfl⟩)
    | cases h
def absVs : List Value → Option (List V)
  | [] => some []
  | u :: us => match absV u, absVs us with
    | some x, some xs => some (x :: xs)
    | _, _ => none
theorem absVs_rel : ∀ {us : List Value} {xs : List V}, absVs us = some xs → Vals xs us
  | [], xs, h => by cases h; exact .nil
  | u :: us, xs, h => by
    unfold absVs at h
    split at h
    · rename_i x ys h1 h2
      cases h
      exact .cons (absV_rel h1) (absVs_rel h2)
    · cases h
/-- a tuple of the module -/
structure TupFact (K : PySem.W.Frag) (x : Str) (xs : List V) : Prop where
  ex : ∃ (a : Addr) (od : Option Addr) (its : Array Value) (n : Nat) (sl : Array (Option Value)), PySem.W.nsIn K mainGlobals x = some (some (.ref a)) ∧ K.lookup a = some ⟨.type "tuple", od, .seq its n, sl⟩ ∧ absVs its.toList = some xs ∧ its.size ≤ 1000
theorem TupFact.of {K : PySem.W.Frag} {x : Str} {xs : List V} {a : Addr} {od : Option Addr} {its : Array Value} {n : Nat} {sl : Array (Option Value)} (h1 : PySem.W.nsIn K mainGlobals x = some (some (.ref a))) (h2 : K.lookup a = some ⟨.type "tuple", od, .seq its n, sl⟩)
    (h3 : absVs its.toList = some xs) (h4 : its.size ≤ 1000) : TupFact K x xs := ⟨a, od, its, n, sl, h1, h2, h3, h4⟩
theorem gstr_of {K : PySem.W.Frag} {x z : Str} {t : Tok} (h : PySem.W.nsIn K mainGlobals x = some (some (.str z t))) : ∃ t, PySem.W.nsIn K mainGlobals x = some (some (.str z t)) := ⟨t, h⟩
theorem gint_of {K : PySem.W.Frag} {x : Str} {z : Int} {t : Tok} (h : PySem.W.nsIn K mainGlobals x = some (some (.int z t))) : ∃ t, PySem.W.nsIn K mainGlobals x = some (some (.int z t)) := ⟨t, h⟩
def GTup (K : PySem.W.Frag) (mg : Str → Option Value) (x : Str) (xs : List V) : Prop := ∃ a, mg x = some (.ref a) ∧ ∀ H, SqT K H a xs
theorem TupFact.get {K : PySem.W.Frag} {mg : Str → Option Value} {x : Str} {xs : List V} {h : Heap} (X : K.In h) (G : h.Ns mainGlobals mg) (F : TupFact K x xs) : GTup K mg x xs := by
  obtain ⟨a, od, its, n, sl, h1, h2, h3, h4⟩ := F.ex
  exact ⟨a, PySem.W.mg_of X G h1, fun H => .inr ⟨_, its, n, h2, rfl, rfl, Nat.le_trans h4 (by decide), absVs_rel h3⟩⟩
def fGt_ (K : PySem.W.Frag) (xs : List V) : TE := fun _ H Q => ∀ a, (∀ H', SqT K H' a xs) → Q (.ref a) H
section
variable {X : Cx} {x : Str} {pos : Pos}
theorem fe_gstr {z : Str} (hg : Gl X x) (h : ∃ t, X.mg x = some (.str z t)) (hd : (x == ("__debug__" : Str)) = false := by decide) : PE X (.Name x pos) (tC (.str z)) := by
  obtain ⟨t, h⟩ := h
  exact pe_glob hg h ⟨t, rfl⟩ hd
theorem fe_gint {z : Int} (hg : Gl X x) (h : ∃ t, X.mg x = some (.int z t)) (hd : (x == ("__debug__" : Str)) = false := by decide) : PE X (.Name x pos) (tC (.int z)) := by
  obtain ⟨t, h⟩ := h
  exact pe_glob hg h ⟨t, rfl⟩ hd
theorem fe_gtup {xs : List V} (hg : Gl X x) (h : GTup X.K X.mg x xs) (hd : (x == ("__debug__" : Str)) = false := by decide) : PE X (.Name x pos) (fGt_ X.K xs) := by
  obtain ⟨a, h, hs⟩ := h
  exact pe_wk (pe_glob hg h (v := .ref a) rfl hd) fun σ H Q q => q a hs
/-- ''.join(list or tuple of texts) -/
def fJoin (K : PySem.W.Frag) : V → List V → Hp → VK → Prop := fun x vs H Q => match x, vs with
  | .str a, [.ref p] => ∃ ys : List Str, Rl K H p (ys.map V.str) ∧ (ys.map (·.length)).sum + ys.length * a.length ≤ 16777216 ∧ Q (.str (Txt.join a ys)) H
  | _, _ => False
theorem mt_fJoin : MtR X "str.join" (fJoin X.K) := by
  intro pins s σ H x xs v us Q I rx rs q
  unfold fJoin at q
  split at q
  · obtain ⟨ys, h1, h2, h3⟩ := q
    exact mt_join pins s σ H _ _ v us Q I rx rs ⟨_, _, ys, rfl, rfl, h1, h2, h3⟩
  · exact q.elim
def fLstripC : V → List V → Hp → VK → Prop := fun x vs H Q => match x, vs with
  | .str a, [.str b] => a.length ≤ sizeLine ∧ Q (.str (Txt.lstripChars a b)) H
  | _, _ => False
theorem mt_fLstripC : MtR X "str.lstrip" fLstripC := by
  intro pins s σ H x xs v us Q I rx rs q
  unfold fLstripC at q
  split at q
  · exact mt_lstripChars pins s σ H _ _ v us Q I rx rs ⟨_, _, rfl, rfl, q⟩
  · exact q.elim
end
theorem join_ones : ∀ cs : List Nat, Txt.join (S []) (cs.map fun c => S [c]) = S cs := by
  intro cs
  show (⟨_⟩ : Str) = ⟨_⟩
  congr 1
  cases cs with
  | nil => rfl
  | cons c r =>
    have go : ∀ (r : List Nat) (acc : List Nat), ((r.map fun c => S [c]).foldl (fun (acc : Array Nat) (p : Str) => acc ++ (S []).cps ++ p.cps) acc.toArray) = (acc ++ r).toArray := by
      intro r
      induction r with
      | nil => intro acc; simp
      | cons d r ih =>
        intro acc
        rw [List.map_cons, List.foldl_cons]
        have e : acc.toArray ++ (S []).cps ++ (S [d]).cps = (acc ++ [d]).toArray := by simp [S]
        rw [e, ih, List.append_assoc]
        rfl
    have := go r [c]
    simpa [S] using this
theorem drop_tw (p : Nat → Bool) : ∀ l : List Nat, l.drop (l.takeWhile p).length = l.dropWhile p
  | [] => rfl
  | c :: r => by
    rw [List.takeWhile_cons, List.dropWhile_cons]
    by_cases h : p c = true
    · rw [if_pos h, if_pos h, List.length_cons, List.drop_succ_cons, drop_tw p r]
    · rw [if_neg h, if_neg h, List.length_nil, List.drop_zero]
theorem lstrip_zero (l : List Nat) (b : Nat) : Txt.lstripChars (S l) (S [b]) = S (l.dropWhile (· == b)) := by
  have hp : ((S [b]).cps.contains : Nat → Bool) = (· == b) := by
    funext c
    simp only [S, List.contains_toArray, List.contains_cons, List.contains_nil, Bool.or_false]
  unfold Txt.lstripChars
  rw [hp]
  have ht : (stripLo (· == b) true (S l)) = (l.takeWhile (· == b)).length := rfl
  unfold Txt.stripBy
  split
  · rename_i h
    unfold stripSame at h
    have h0 : stripLo (· == b) true (S l) = 0 := by
      have := (Bool.and_eq_true_iff.mp h).1
      exact eq_of_beq this
    rw [ht] at h0
    rw [← drop_tw, h0, List.drop_zero]
  · unfold stripped
    rw [ht]
    have e : stripHi (· == b) false (S l) (l.takeWhile (· == b)).length = (S l).length := rfl
    rw [e, ← drop_tw]
    have := StrLaws.strSub_toList (S l) (l.takeWhile (· == b)).length (S l).length
    rw [← S_L (Builtin.Str.strSub _ _ _)]
    congr 1
    show (Builtin.Str.strSub _ _ _).cps.toList = _
    rw [this, S_cps, S_len]
    exact List.take_of_length_le (by rw [List.length_drop]; exact Nat.le_refl _)
end Fx

set_option Elab.async false
set_option linter.all false
set_option maxRecDepth 100000
/-! Ox: objects of the program's own classes, over Fx. -/
namespace Fx
open PySem PySem.Spec PyProof.Rows L2
/-! ### weakening within -/
section
variable {X : Cx}
/-- whatever follows may be weaker -/
def clos (t : TE) : TE := fun σ H Q => ∃ Q0 : VK, t σ H Q0 ∧ ∀ v H1, Q0 v H1 → Q v H1
def closA (t : TA) : TA := fun σ H Q => ∃ Q0, t σ H Q0 ∧ ∀ v H1, Q0 v H1 → Q v H1
theorem pe_clos {e : Expr} {t : TE} (h : PE X e t) : PE X e (clos t) := ⟨fun pins s σ H Q I ⟨Q0, h0, w⟩ => wpAny_mono (h.run pins s σ H Q0 I h0) (fun u s' ⟨v, H', I', r, q⟩ => ⟨v, H', I', r, w v H' q⟩) fun _ _ x => x⟩
theorem pa_clos {es : List Expr} {t : TA} (h : PA X es t) : PA X es (closA t) := ⟨fun pos pins s σ H Q I ⟨Q0, h0, w⟩ => wpAny_mono (h.run pos pins s σ H Q0 I h0) (fun u s' ⟨v, H', I', r, q⟩ => ⟨v, H', I', r, w v H' q⟩) fun _ _ x => x⟩
end
/-! ### heaps but for some places -/
def Keep (ps : List Addr) (H H' : Hp) : Prop := ∀ a o, a ∉ ps → H a = some o → H' a = some o
theorem Keep.refl {ps : List Addr} {H : Hp} : Keep ps H H := fun _ _ _ h => h
theorem Keep.trans {ps : List Addr} {H H1 H2 : Hp} (h : Keep ps H H1) (k : Keep ps H1 H2) : Keep ps H H2 := fun a o n e => k a o n (h a o n e)
theorem Keep.of {ps : List Addr} {H H' : Hp} (s : Same H H') : Keep ps H H' := fun a o _ e => s a o e
theorem Keep.mono {ps qs : List Addr} {H H' : Hp} (h : Keep ps H H') (m : ∀ a ∈ ps, a ∈ qs) : Keep qs H H' := fun a o n e => h a o (fun z => n (m a z)) e
theorem Keep.same {H H' : Hp} (h : Keep [] H H') : Same H H' := fun a o e => h a o (by simp) e
theorem Keep.upd {ps : List Addr} {H H' : Hp} {p : Addr} {o : HO} (h : Keep ps H H') (m : p ∈ ps) : Keep ps H (L2.upd H' p o) := fun a x n e => by
  rw [upd_ne (fun q => n (by rw [q]; exact m))]
  exact h a x n e
theorem Keep.updN {ps : List Addr} {H H' : Hp} {p : Addr} {o : HO} (h : Keep ps H H') (m : H p = none) : Keep ps H (L2.upd H' p o) := fun a x n e => by
  rw [upd_ne (ne_of_none e m)]
  exact h a x n e
/-- what the caller does not know -/
theorem Keep.drop {p : Addr} {ps : List Addr} {H H' : Hp} (h : Keep (p :: ps) H H') (m : H p = none) : Keep ps H H' := fun a x n e => h a x (by
  intro q
  rcases List.mem_cons.mp q with rfl | q
  · rw [m] at e; cases e
  · exact n q) e
/-- the new object's heap, when only it has been changed since -/
theorem mk_same {H H0 : Hp} {y : Addr} {o : HO} (s : Same H H0) (n : H y = none) : Same H (L2.upd H0 y o) := same_mut s n
theorem mk_same2 {H H0 : Hp} {y : Addr} {o o' : HO} (s : Same H H0) (n : H y = none) : Same H (L2.upd (L2.upd H0 y o) y o') := same_mut (same_mut s n) n
theorem upd2 {H : Hp} {y : Addr} {o o' : HO} : L2.upd (L2.upd H y o) y o' = L2.upd H y o' := by
  funext a
  by_cases h : a = y
  · subst h; rw [upd_same, upd_same]
  · rw [upd_ne h, upd_ne h, upd_ne h]
theorem SqL.keep {K : PySem.W.Frag} {ps : List Addr} {H H' : Hp} {a : Addr} {xs : List V} (k : Keep ps H H') (n : a ∉ ps) (h : SqL K H a xs) : SqL K H' a xs :=
  h.elim (fun h => .inl (h.elim (fun h => .inl (k _ _ n h)) fun ⟨o, h⟩ => .inr ⟨o, k _ _ n h⟩)) fun h => .inr h
/-! ### fields -/
def fFld (cs : List Addr) (f : Str) (ta : TE) : TE := fun σ H Q => ta σ H fun x H1 => match x with
  | .ref a => match H1 a with
    | some (.ins C _ fs) => C ∈ cs ∧ match fs.lookup f with
      | some v => Q v H1
      | none => False
    | _ => False
  | _ => False
def fSetF (cs : List Addr) (f : Str) (ta tv : TE) : TS := fun D σ H => tv σ H fun y H1 => ta σ H1 fun x H2 => match x with
  | .ref a => match H2 a with
    | some (.ins C dx fs) => C ∈ cs ∧ fs.length < 1000 ∧ D.nx σ (upd H2 a (.ins C dx (putF f y fs)))
    | _ => False
  | _ => False
/-- the classes that know an attribute only by their instances -/
def Plain (K : PySem.W.Frag) (cs : List Addr) (f : Str) : Prop := ∀ C ∈ cs, Cls K C ∧ NoAttr K C f
section
variable {X : Cx} {o e value : Expr} {f : Str} {pos pos' : Pos} {ta tv : TE} {cs : List Addr}
theorem fe_fld (he : PE X e ta) (hc : Plain X.K cs f) (hb : attributeBase e f X.env (eval e X.env) = eval e X.env) : PE X (.Attribute e f pos) (fFld cs f ta) := by
  refine pe_wk (pe_fld (pe_clos he) hb) fun σ H Q q => ⟨_, q, fun x H1 q => ?_⟩
  split at q
  · split at q
    · obtain ⟨m, q⟩ := q
      split at q
      · exact ⟨_, _, _, _, _, rfl, by assumption, (hc _ m).1, (hc _ m).2, by assumption, q⟩
      · exact q.elim
    · exact q.elim
  · exact q.elim
theorem fs_fld (ha : PE X o ta) (hv : PE X value tv) (hc : Plain X.K cs f) (hs : swapsWith value (some (.Attribute o f pos')) pos.line X.env = pure false) : PS X (.Assign [.Attribute o f pos'] value pos) (fSetF cs f ta tv) := by
  refine ps_wk (ps_fld (pe_clos ha) (pe_clos hv) hs) fun D σ H q => ⟨_, q, fun y H1 q => ⟨_, q, fun x H2 q => ?_⟩⟩
  split at q
  · split at q
    · exact ⟨_, _, _, _, rfl, by assumption, (hc _ q.1).1, (hc _ q.1).2, q.2.1, q.2.2⟩
    · exact q.elim
  · exact q.elim
end
/-- {} -/
def fDnew : TE := fun _ H Q => ∀ p H2, H p = none → Same H H2 → H2 p = some (.dK []) → Q (.ref p) H2
theorem fe_dnew {X : Cx} {pos : Pos} : PE X (.Dict [] [] pos) fDnew := pe_wk pe_dnewK fun σ H Q q => fun p np => q p _ np (same_new np) upd_same
theorem rl_keep {K : PySem.W.Frag} {H H' : Hp} {a : Addr} {xs : List V} (s : Same H H') (h : Rl K H a xs) : Rl K H' a xs := h.elim (fun h => .inl (s.seq h)) fun h => .inr (SqT.ext h s)
/-! ### methods, making -/
/-- a method as it stands in its class -/
structure AtM (K : PySem.W.Frag) (C : Addr) (x qual : Str) (st : Stmt) (ps : List Str) : Prop where
  ex : ∃ (f : Addr) (fd : FuncData), Fun K x qual st f fd ∧ Binds K fd ps [] ∧ Meth K C x f
structure MFact (K : PySem.W.Frag) (C : Addr) (x qual : Str) (st : Stmt) : Prop where
  ex : ∃ (f : Addr) (oc : Value) (od an : Option Addr) (sl : Array (Option Value)) (kV dc pm cd ct : Value),
    PySem.W.findIn K (.ref C) x = some (some (.ref f)) ∧ K.lookup f = some ⟨oc, od, .func (PySem.W.fnOf x qual (defArgs st) (defBody st) (defScope st) .none kV dc pm an cd ct), sl⟩ ∧
    PySem.W.codeIn K cd qual = true ∧ PySem.W.keepIn K (.ref f) = true ∧ PySem.W.isFn K (.ref f) = true
theorem MFact.of {K : PySem.W.Frag} {C : Addr} {x qual : Str} {st : Stmt} {f : Addr} {oc : Value} {od an : Option Addr} {sl : Array (Option Value)} {kV dc pm cd ct : Value}
    (a : PySem.W.findIn K (.ref C) x = some (some (.ref f))) (l : K.lookup f = some ⟨oc, od, .func (PySem.W.fnOf x qual (defArgs st) (defBody st) (defScope st) .none kV dc pm an cd ct), sl⟩)
    (c : PySem.W.codeIn K cd qual = true) (k : PySem.W.keepIn K (.ref f) = true) (i : PySem.W.isFn K (.ref f) = true) : MFact K C x qual st := ⟨f, oc, od, an, sl, kV, dc, pm, cd, ct, a, l, c, k, i⟩
theorem AtM.of {K : PySem.W.Frag} {C : Addr} {x qual : Str} {st : Stmt} {ps : List Str} (F : MFact K C x qual st)
    (hb : ∀ (kV doc pm : Value) (an : Option Addr) (cdv ct : Value) (us : List Value), us.length = ps.length → bindArgs (PySem.W.fnOf x qual (defArgs st) (defBody st) (defScope st) .none kV doc pm an cdv ct) ⟨us, []⟩ = pure (ps.zip us)) : AtM K C x qual st ps := by
  obtain ⟨f, oc, od, an, sl, kV, dc, pm, cd, ct, a, l, c, k, i⟩ := F.ex
  have F1 := fun_mk (st := st) l c k
  exact ⟨_, _, F1, F1.binds hb, ⟨a, i, k⟩⟩
/-- a method that keeps a promise (of the object and the arguments) -/
structure HasM (P : Program) (w : World) (K : PySem.W.Frag) (mg : Str → Option Value) (base : Heap) (CX : CXT) (C : Addr) (x : Str) (k : Nat) (ps : List Str) (sp : Sp) : Prop where
  ex : ∃ (f : Addr) (fd : FuncData), FnOk P w K mg base CX k f fd ps sp ∧ Binds K fd ps [] ∧ Meth K C x f
/-- a class whose making keeps a promise (of the arguments) -/
structure HasC (P : Program) (w : World) (K : PySem.W.Frag) (mg : Str → Option Value) (base : Heap) (CX : CXT) (C : Addr) (x : Str) (k : Nat) (ps : List Str) (sp : Sp) : Prop where
  ex : ∃ (f : Addr) (fd : FuncData) (sp' : Sp), FnOk P w K mg base CX k f fd ps sp' ∧ Binds K fd ps [] ∧ Mk K C f ∧ mg x = some (.ref C) ∧
    ∀ vs H Q E, sp vs H Q E → ∀ y dx H0, H y = none → Same H H0 → H0 y = some (.ins C dx []) → sp' (.ref y :: vs) H0 (fun v H2 => v = .non ∧ Q (.ref y) H2) E
section
variable {P : Program} {w : World} {K : PySem.W.Frag} {mg : Str → Option Value} {base : Heap}
theorem hasM_of {C : Addr} {x qual : Str} {st : Stmt} {N ps : List Str} {k : Nat} {sp : Sp} (A : AtM K C x qual st ps) (S : FnScope N ps (defScope st)) (len : ∀ vs H Q E, sp vs H Q E → vs.length = ps.length)
    (hbody : ∀ (cdv : Value) (f : Addr) (A : Around) (outer : List Env) (s : Shared) (H : Hp) (vs : List V) (Q : VK) (E : XK), Room k (A.deeper (envOfC qual (defScope st) s.heap.objs.size f cdv)) → sp vs H Q E →
      ∃ t, PSs (cxOf CX0 P w K mg base N qual (defScope st) f cdv A outer s H E).nox (defBody st) t ∧ t { nx := fun _ H' => Q .non H', rt := Q } (start N vs) H) : HasM P w K mg base CX0 C x (k + 1) ps sp := by
  obtain ⟨f, fd, F, B, G⟩ := A.ex
  exact ⟨f, fd, F.ok S len fun cdv A outer s H vs Q E hr h => hbody cdv f A outer s H vs Q E hr h, B, G⟩
/-- what a class is for making -/
structure MkAt (K : PySem.W.Frag) (mg : Str → Option Value) (x : Str) (C : Addr) : Prop where
  makes : PySem.W.makesIn K C = true
  kp : PySem.W.keepIn K (.ref C) = true
  at_ : mg x = some (.ref C)
theorem hasC_of {C : Addr} {x qual : Str} {st : Stmt} {N ps : List Str} {k : Nat} {sp : Sp} (M : MkAt K mg x C) (A : AtM K C "__init__" qual st ps) (S : FnScope N ps (defScope st)) (len : ∀ vs H Q E, sp vs H Q E → vs.length + 1 = ps.length)
    (hbody : ∀ (cdv : Value) (f : Addr) (A : Around) (outer : List Env) (s : Shared) (H : Hp) (vs : List V) (Q : VK) (E : XK) (y dx : Addr) (H0 : Hp), Room k (A.deeper (envOfC qual (defScope st) s.heap.objs.size f cdv)) → sp vs H Q E → H y = none → Same H H0 → H0 y = some (.ins C dx []) →
      ∃ t, PSs (cxOf CX0 P w K mg base N qual (defScope st) f cdv A outer s H0 E).nox (defBody st) t ∧ t { nx := fun _ H' => Q (.ref y) H', rt := fun v H' => v = .non ∧ Q (.ref y) H' } (start N (.ref y :: vs)) H0) : HasC P w K mg base CX0 C x (k + 1) ps sp := by
  obtain ⟨f, fd, F, B, G⟩ := A.ex
  refine ⟨f, fd, fun ws H0 Q' E => ∃ y vs H Q dx, ws = .ref y :: vs ∧ sp vs H Q E ∧ H y = none ∧ Same H H0 ∧ H0 y = some (.ins C dx []) ∧ Q' = fun v H2 => v = .non ∧ Q (.ref y) H2, ?_, B, ⟨M.makes, G.at_, G.fn, M.kp⟩, M.at_, ?_⟩
  · refine F.ok S (fun ws H0 Q' E h => ?_) fun cdv A outer s H0 ws Q' E hr h => ?_
    · obtain ⟨y, vs, H, Q, dx, rfl, h, _⟩ := h
      exact len vs H Q E h
    · obtain ⟨y, vs, H, Q, dx, rfl, h, hy, hs, h0, rfl⟩ := h
      obtain ⟨t, h1, h2⟩ := hbody cdv f A outer s H vs Q E y dx H0 hr h hy hs h0
      refine ⟨t, h1, ?_⟩
      have e : (fun (_ : L2.St) (H' : Hp) => (fun v H2 => v = V.non ∧ Q (.ref y) H2) V.non H') = fun _ H' => Q (.ref y) H' := by
        funext _ H'
        exact propext ⟨fun h => h.2, fun h => ⟨rfl, h⟩⟩
      rw [e]
      exact h2
  · intro vs H Q E h y dx H0 hy hs h0
    exact ⟨y, vs, H, Q, dx, rfl, h, hy, hs, h0, rfl⟩
end
section
variable {X : Cx} {CX : CXT} {k : Nat} {C : Addr} {x m : Str} {p pos apos : Pos} {o e : Expr} {es : List Expr} {t : TA} {ta : TE} {ps : List Str} {sp : Sp} {E : XK}
theorem fe_make (h : HasC X.prog X.w X.K X.mg X.base CX C x k ps sp) (hr : Room (k + 1) X.A) (hg : Gl X x) (hx : Passes CX X E) (ha : PA X (e :: es) t) (hd : (x == ("__debug__" : Str)) = false := by decide)
    (hs : starEach (e :: es) X.env = (false, eval e X.env) :: starEach es X.env := by rfl) (hplain : (backTo pos (starEach es X.env)).any (·.1) = false := by rfl) : PE X (.Call (.Name x p) (e :: es) [] pos) (tCall sp [] E t) := by
  obtain ⟨f, fd, sp', F, B, M, G, h⟩ := h.ex
  refine pe_wk (pe_make M F hr hg G B .nil hx (pa_clos ha) hd hs hplain) fun σ H Q q => ⟨_, q, fun vs H1 q y dx n1 n2 n3 => ?_⟩
  rw [List.append_nil] at q ⊢
  refine h vs H1 Q E q y dx _ n1 (fun b z ez => ?_) upd_same
  rw [upd_ne (ne_of_none ez n1), upd_ne (ne_of_none ez n2)]
  exact ez
theorem fe_make0 (h : HasC X.prog X.w X.K X.mg X.base CX C x k ps sp) (hr : Room (k + 1) X.A) (hg : Gl X x) (hx : Passes CX X E) (hd : (x == ("__debug__" : Str)) = false := by decide) : PE X (.Call (.Name x p) [] [] pos) (tCall sp [] E tNil) := by
  obtain ⟨f, fd, sp', F, B, M, G, h⟩ := h.ex
  refine pe_wk (pe_make0 M F hr hg G B .nil hx hd) fun σ H Q q => ?_
  show tNil σ H _
  intro y dx n1 n2 n3
  refine h [] H Q E q y dx _ n1 (fun b z ez => ?_) upd_same
  rw [upd_ne (ne_of_none ez n1), upd_ne (ne_of_none ez n2)]
  exact ez
/-- an instance of the class, without an attribute of the name -/
def isOb (C : Addr) (m : Str) : V → Hp → Prop := fun x H => match x with
  | .ref a => match H a with
    | some (.ins D _ fs) => D = C ∧ fs.lookup m = none
    | _ => False
  | _ => False
def fMeth (C : Addr) (m : Str) (sp : Sp) (E : XK) (ta : TE) (t : TA) : TE := fun σ H Q => ta σ H fun x H1 => isOb C m x H1 ∧ t σ H1 fun vs H2 => sp (x :: vs) H2 Q E
theorem fMeth_to {σ : L2.St} {H : Hp} {Q : VK} (q : fMeth C m sp E ta t σ H Q) : tMeth C m sp [] E (clos ta) t σ H Q := by
  refine ⟨_, q, fun x H1 ⟨q1, q2⟩ => ?_⟩
  unfold isOb at q1
  split at q1
  · split at q1
    · obtain ⟨rfl, q1⟩ := q1
      refine ⟨_, _, _, rfl, by assumption, q1, ?_⟩
      simp only [List.append_nil]
      exact q2
    · exact q1.elim
  · exact q1.elim
theorem fe_meth {pl : Sem Bool} (h : HasM X.prog X.w X.K X.mg X.base CX C m k ps sp) (c : Cls X.K C) (hr : Room k X.A) (hx : Passes CX X E) (he : PE X o ta) (ha : PA X (e :: es) t)
    (hst : starEach (e :: es) X.env = (false, eval e X.env) :: starEach es X.env := by rfl) (hpl : (backTo pos (starEach es X.env)).any (·.1) = false := by rfl)
    (ht : eval (.Call (.Attribute o m apos) (e :: es) [] pos) X.env = (do
      let ov ← eval o X.env
      standAt apos.atName
      let (f, first) ← holding [ov] (getMethod ov m pl)
      callWith pos f first (backTo pos (starEach (e :: es) X.env)) (backToKw pos (keywordEach [] X.env))) := by rfl) :
    PE X (.Call (.Attribute o m apos) (e :: es) [] pos) (fMeth C m sp E ta t) := by
  obtain ⟨f, fd, F, B, M⟩ := h.ex
  exact pe_wk (pe_meth (pe_clos he) c M F hr B .nil hx ha hst hpl ht) fun σ H Q q => fMeth_to q
theorem fe_meth0 {pl : Sem Bool} (h : HasM X.prog X.w X.K X.mg X.base CX C m k ps sp) (c : Cls X.K C) (hr : Room k X.A) (hx : Passes CX X E) (he : PE X o ta)
    (ht : eval (.Call (.Attribute o m apos) [] [] pos) X.env = (do
      let ov ← eval o X.env
      standAt apos.atName
      let (f, first) ← holding [ov] (getMethod ov m pl)
      callWith pos f first (backTo pos (starEach [] X.env)) (backToKw pos (keywordEach [] X.env))) := by rfl) :
    PE X (.Call (.Attribute o m apos) [] [] pos) (fMeth C m sp E ta tNil) := by
  obtain ⟨f, fd, F, B, M⟩ := h.ex
  exact pe_wk (pe_meth0 (pe_clos he) c M F hr B .nil hx ht) fun σ H Q q => fMeth_to q
end
/-! ### isinstance of own classes -/
/-- what isinstance asks of a class of the program -/
structure OCls (K : PySem.W.Frag) (C : Addr) : Prop where
  cl : Cls K C
  ci : PySem.W.findIn K (.ref C) "__class__" = some (some (.builtin "object.__class__"))
  gd : PySem.W.specialIn K (.builtin "object.__class__") "__get__" = some (some (.builtin "getset_descriptor.__get__"))
  tk : PySem.W.takesIn K (.builtin "object.__class__") = some true
  mr : PySem.W.mroIn K C (.type "object") = some true
/-- the answers of isinstance for instances of cs and plain values, at the classes ds -/
structure Kit (K : PySem.W.Frag) (cs ds : List Addr) : Prop where
  ow : ∀ C ∈ cs, OCls K C
  oo : ∀ C ∈ cs, ∀ D ∈ ds, PySem.W.kitOne K (.ref C) (.ref D) = some (decide (C = D))
  bo : ∀ n ∈ ["NoneType", "bool", "int", "str", "list", "tuple", "dict"], ∀ D ∈ ds, PySem.W.kitOne K (.type n) (.ref D) = some false
  ob : ∀ C ∈ cs, ∀ n ∈ ["bool", "int", "str", "list", "tuple", "dict"], PySem.W.kitOne K (.ref C) (.type n) = some false
/-- a value's class -/
def tyV2 (H : Hp) : V → Option Value
  | .ref a => match H a with
    | some (.ins C _ _) => some (.ref C)
    | some (.lst _) => some (.type "list")
    | some (.tup _) => some (.type "tuple")
    | some (.dK _) => some (.type "dict")
    | some (.dT _) => some (.type "dict")
    | _ => none
  | .non => some (.type "NoneType")
  | .bl _ => some (.type "bool")
  | .int _ => some (.type "int")
  | .str _ => some (.type "str")
  | _ => none
def okT (cs : List Addr) : Value → Prop
  | .ref C => C ∈ cs
  | _ => True
def kit2 (D : Addr) : Value → Bool
  | .ref C => decide (C = D)
  | _ => false
theorem ty2_kit {K : PySem.W.Frag} {cs ds : List Addr} (k : Kit K cs ds) {H : Hp} {x : V} {t : Value} (h : tyV2 H x = some t) (ok : okT cs t) : TyX K H x t ∧ ∀ D ∈ ds, PySem.W.kitOne K t (.ref D) = some (kit2 D t) := by
  unfold tyV2 at h
  split at h <;> first
    | (cases h; exact ⟨.base .non, fun D hD => k.bo "NoneType" (by decide) D hD⟩)
    | (cases h; exact ⟨.base (.bl _), fun D hD => k.bo "bool" (by decide) D hD⟩)
    | (cases h; exact ⟨.base (.int _), fun D hD => k.bo "int" (by decide) D hD⟩)
    | (cases h; exact ⟨.base (.str _), fun D hD => k.bo "str" (by decide) D hD⟩)
    | (split at h <;> first
        | (cases h; exact ⟨.base (.lst (by assumption)), fun D hD => k.bo "list" (by decide) D hD⟩)
        | (cases h; exact ⟨.base (.tup (by assumption)), fun D hD => k.bo "tuple" (by decide) D hD⟩)
        | (cases h; exact ⟨.base (.dK (by assumption)), fun D hD => k.bo "dict" (by decide) D hD⟩)
        | (cases h; exact ⟨.base (.dT (by assumption)), fun D hD => k.bo "dict" (by decide) D hD⟩)
        | (cases h
           have O := k.ow _ ok
           exact ⟨.base (.ins (by assumption) O.cl O.ci O.gd O.tk O.mr), fun D hD => k.oo _ ok D hD⟩)
        | cases h)
    | cases h
/-- isinstance(x, C), C an own class -/
def fIsiO (cs ds : List Addr) : List V → Hp → VK → Prop := fun xs H Q => match xs with
  | [x, .ref D] => ∃ t, tyV2 H x = some t ∧ okT cs t ∧ D ∈ ds ∧ Q (.bl (kit2 D t)) H
  | _ => False
theorem call_fIsiO {X : Cx} {cs ds : List Addr} (k : Kit X.K cs ds) : CallR X (.builtin "isinstance") (fIsiO cs ds) := by
  intro pins s σ H xs us Q I r h
  match xs, r, h with
  | [x, .ref D], r, h =>
    obtain ⟨t, h1, h2, h3, h4⟩ := h
    obtain ⟨g1, g2⟩ := ty2_kit k h1 h2
    exact call_isi pins s σ H _ us Q I r ⟨x, .ref D, _, _, _, rfl, .own D, g1, g2 D h3, h4⟩
/-- isinstance(x, (C, D, ..)), own classes, the tuple just made -/
def kits2 (t : Value) : List V → Bool
  | .ref D :: r => kit2 D t || kits2 t r
  | _ => false
def allIn (ds : List Addr) : List V → Prop
  | [] => True
  | .ref D :: r => D ∈ ds ∧ allIn ds r
  | _ :: _ => False
theorem kits2_any {K : PySem.W.Frag} {ds : List Addr} {t : Value} (k : ∀ D ∈ ds, PySem.W.kitOne K t (.ref D) = some (kit2 D t)) : ∀ {vs : List V}, allIn ds vs → ∃ us, Paired ClsV vs us ∧ PySem.W.kitAny K t us = some (kits2 t vs)
  | [], _ => ⟨[], .nil, kitAny_nil⟩
  | v :: r, ha => by
    cases v <;> first
      | exact ha.elim
      | (rename_i D
         obtain ⟨us, p, q⟩ := kits2_any k ha.2
         refine ⟨_, .cons (.own D) p, kitAny_cons (k D ha.1) (fun hb => ?_) (fun hb => ?_)⟩
         · rw [q, kits2, hb]; rfl
         · rw [kits2, hb]; rfl)
def fIsiP (cs ds : List Addr) : List V → Hp → VK → Prop := fun xs H Q => match xs with
  | [x, .ref p] => match H p with
    | some (.tup vs) => ∃ t, tyV2 H x = some t ∧ okT cs t ∧ allIn ds vs ∧ Q (.bl (kits2 t vs)) H
    | _ => False
  | _ => False
theorem call_fIsiP {X : Cx} {cs ds : List Addr} (k : Kit X.K cs ds) : CallR X (.builtin "isinstance") (fIsiP cs ds) := by
  intro pins s σ H xs us Q I r h
  match xs, r, h with
  | [x, .ref p], r, h =>
    dsimp only [fIsiP] at h
    split at h
    · obtain ⟨t, h1, h2, h3, h4⟩ := h
      obtain ⟨g1, g2⟩ := ty2_kit k h1 h2
      obtain ⟨ws, g3, g4⟩ := kits2_any g2 h3
      exact call_isiT pins s σ H _ us Q I r ⟨x, p, _, _, ws, _, rfl, by assumption, g3, g1, g4, h4⟩
    · exact h.elim
/-- isinstance(x, T), T a built-in class, x an instance too -/
def fIsiA (cs : List Addr) : List V → Hp → VK → Prop := fun xs H Q => match xs with
  | [x, .ty n] => ∃ t, tyV2 H x = some t ∧ match t with
    | .ref C => C ∈ cs ∧ n ∈ ["bool", "int", "str", "list", "tuple", "dict"] ∧ Q (.bl false) H
    | .type s => ∃ b, kitB s n = some b ∧ Q (.bl b) H
    | _ => False
  | _ => False
theorem call_fIsiA {X : Cx} {cs ds : List Addr} (k : Kit X.K cs ds) : CallR X (.builtin "isinstance") (fIsiA cs) := by
  intro pins s σ H xs us Q I r h
  match xs, r, h with
  | [x, .ty n], r, h =>
    obtain ⟨t, h1, h2⟩ := h
    match t, h1, h2 with
    | .ref C, h1, h2 =>
      obtain ⟨g1, _⟩ := ty2_kit k h1 (show okT cs (.ref C) from h2.1)
      exact call_isi pins s σ H _ us Q I r ⟨x, .ty n, _, _, _, rfl, .ty n, g1, k.ob C h2.1 n h2.2.1, h2.2.2⟩
    | .type s', h1, h2 =>
      obtain ⟨b, h3, h4⟩ := h2
      obtain ⟨g1, _⟩ := ty2_kit k h1 (show okT cs (.type s') from trivial)
      exact call_isi pins s σ H _ us Q I r ⟨x, .ty n, _, _, _, rfl, .ty n, g1, kit_ty h3, h4⟩
/-- x is True, x is False; x is not .. -/
def fIsB (neg : Bool) : R2 := fun x y H Q => match y with
  | .bl b => (match x with | .non => Q (.bl neg) H | .bl c => Q (.bl (if neg = true then !decide (c = b) else decide (c = b))) H | .int _ => Q (.bl neg) H | .str _ => Q (.bl neg) H | .ref _ => Q (.bl neg) H | _ => False)
  | _ => False
theorem same_bool {M : Model} {A : Around} {E : Value → Shared → Prop} {s : Shared} {x : V} {u : Value} {b : Bool} {R : Bool → Shared → Prop} (r : RelV x u)
    (h : match x with | .non => R false s | .bl c => R (decide (c = b)) s | .int _ => R false s | .str _ => R false s | .ref _ => R false s | _ => False) : wpAny M A (isSame u (.bool b)) R E s := by
  cases x <;> first
    | exact h.elim
    | (cases r
       refine wpAny_isSame_plain rfl ?_
       exact h)
    | (obtain ⟨t, rfl⟩ := r
       refine wpAny_isSame_plain rfl ?_
       exact h)
    | (cases r
       rename_i c
       refine wpAny_isSame_plain rfl ?_
       have e : (Value.bool c == Value.bool b) = decide (c = b) := by cases c <;> cases b <;> rfl
       rw [e]
       exact h)
theorem op_fIsB {X : Cx} : OpR X (compareOp .Is) (fIsB false) := by
  intro pins s σ H x y v u Q I rx ry h
  cases y <;> first
    | exact False.elim h
    | (cases ry
       show wpAny _ _ ((isSame v (Value.bool _)) >>= fun z => pure (Value.bool z)) _ _ s
       refine wpAny_bind (same_bool rx ?_)
       cases x <;> first
         | exact False.elim h
         | exact wpAny_pure (fin_bl I h rfl))
theorem op_fNotB {X : Cx} : OpR X (compareOp .IsNot) (fIsB true) := by
  intro pins s σ H x y v u Q I rx ry h
  cases y <;> first
    | exact False.elim h
    | (cases ry
       show wpAny _ _ ((isSame v (Value.bool _)) >>= fun z => pure (Value.bool (!z))) _ _ s
       refine wpAny_bind (same_bool rx ?_)
       cases x <;> first
         | exact False.elim h
         | exact wpAny_pure (fin_bl I h rfl))
/-- one of two ways -/
def fOr (r1 r2 : R2) : R2 := fun x y H Q => r1 x y H Q ∨ r2 x y H Q
theorem op_fOr {X : Cx} {f : Value → Value → Sem Value} {r1 r2 : R2} (h1 : OpR X f r1) (h2 : OpR X f r2) : OpR X f (fOr r1 r2) := fun pins s σ H x y v u Q I rx ry q => q.elim (h1 pins s σ H x y v u Q I rx ry) (h2 pins s σ H x y v u Q I rx ry)
theorem all_nil {α : Type} {P : α → Prop} : ∀ x ∈ ([] : List α), P x := fun _ h => by cases h
theorem all_cons {α : Type} {P : α → Prop} {a : α} {l : List α} (h : P a) (t : ∀ x ∈ l, P x) : ∀ x ∈ a :: l, P x := fun x m => by
  rcases List.mem_cons.mp m with rfl | m
  · exact h
  · exact t x m
/-! ### == by an own __eq__ -/
def fEqO (C : Addr) (sp : Sp) (E : XK) : R2 := fun x y H Q => match x, y with
  | .ref a, .ref b => (match H a with | some (.ins D _ _) => D = C | _ => False) ∧ (match H b with | some (.ins D _ _) => D = C | _ => False) ∧ sp [x, y] H (fun v H' => match v with | .bl _ => Q v H' | _ => False) E
  | _, _ => False
theorem op_fEqO {X : Cx} {CX : CXT} {C : Addr} {n : Nat} {ps : List Str} {sp : Sp} {E : XK} (h : HasM X.prog X.w X.K X.mg X.base CX C "__eq__" n ps sp) (hr : Room n X.A) (hx : Passes CX X E) : OpR X (compareOp .Eq) (fEqO C sp E) := by
  intro pins s σ H x y v u Q I rx ry q
  obtain ⟨f, fd, F, B, M⟩ := h.ex
  cases x <;> cases y <;> first
    | exact False.elim q
    | skip
  rename_i a b
  dsimp only [fEqO] at q
  obtain ⟨qa, qb, q⟩ := q
  split at qa
  · rename_i D1 dx1 fs1 ea
    split at qb
    · rename_i D2 dx2 fs2 eb
      subst qa
      subst qb
      cases rx
      cases ry
      obtain ⟨mA, J, _⟩ := ins_get I.hok ea
      obtain ⟨mB, J', _⟩ := ins_get I.hok eb
      obtain ⟨od, J, _⟩ := J.look
      obtain ⟨od', J', _⟩ := J'.look
      obtain ⟨m, hF⟩ := I.fr
      show wpAny (model X.prog X.w) X.A (richCompare .Eq (.ref a) (.ref b)) (EP X pins σ Q) X.xe s
      refine PySem.W.cmp_K (op := .Eq) (tb := .ref D2) hr.units0 hF I.ok.mod.kin J J'.type (by simp [PySem.W.notFirst]) M.at_ M.fn ?_
      refine wpAny_mono (run_fn (vs := [.ref a, .ref b]) F hr B .nil hx I (.cons rfl (.cons rfl .nil)) q) (fun w s' z => ?_) fun _ _ x => x
      obtain ⟨y, H', I', r, z⟩ := z
      cases y <;> first
        | exact z.elim
        | (cases r; exact ⟨.bl _, H', I', rfl, z⟩)
    · exact qb.elim
  · exact qa.elim
/-! ### what the top has written of a class -/
structure ClsFact (K : PySem.W.Frag) (C : Addr) : Prop where
  pg : PySem.W.plainGet K C Str.empty = true
  hd : PySem.W.hasDictIn K C = true
  po : PySem.W.plainOver K C = true
  sa : PySem.W.findIn K (.ref C) "__setattr__" = some (some (.builtin "object.__setattr__"))
  ci : PySem.W.findIn K (.ref C) "__class__" = some (some (.builtin "object.__class__"))
  mr : PySem.W.mroIn K C (.type "object") = some true
  mks : PySem.W.makesIn K C = true
  kp : PySem.W.keepIn K (.ref C) = true
theorem ClsFact.cls {K : PySem.W.Frag} {C : Addr} (x : ClsFact K C) : Cls K C := ⟨x.pg, x.hd, x.po, x.sa⟩
/-- what every class has of object -/
structure ObjFact (K : PySem.W.Frag) : Prop where
  gd : PySem.W.specialIn K (.builtin "object.__class__") "__get__" = some (some (.builtin "getset_descriptor.__get__"))
  tk : PySem.W.takesIn K (.builtin "object.__class__") = some true
theorem ClsFact.ocls {K : PySem.W.Frag} {C : Addr} (x : ClsFact K C) (o : ObjFact K) : OCls K C := ⟨x.cls, x.ci, o.gd, o.tk, x.mr⟩
/-! ### comprehensions -/
def Lc (J : It) (g : TG) (tt : TT) (te : TE) (vs : List Nat) (σ : L2.St) (H1 : Hp) (D : Addr) (Q : VK) : Prop := ∃ W : Nat → Nat → Hp → Prop, (∃ m, W 0 m (upd H1 D (.lst []))) ∧ ∀ i m H, W i m H →
  (J.stop i H ∧ Q (.ref D) H) ∨ (J.go i H ∧ ∃ Nx : Hp → Prop, (∀ H', Nx H' → ∃ m', m' < m ∧ W (i + 1) m' H') ∧ ∀ x H', J.yld i H x H' → g x (wipe σ vs) H' fun σ2 H2 => wipe σ2 vs = wipe σ vs ∧ tt σ2 H2 fun b H3 =>
    if b = true then te σ2 H3 fun y H4 => ∃ acc, H4 D = some (.lst acc) ∧ acc.length < sizeLine ∧ Nx (upd H4 D (.lst (acc ++ [y]))) else Nx H3)
theorem lc_ {wi : TI} {g : TG} {tt : TT} {te : TE} {vs : List Nat} {σ : L2.St} {H : Hp} {Q : VK} (h : wi σ H fun J H1 => ∀ D, H1 D = none → Lc J g tt te vs σ H1 D Q) : tLc wi g tt te vs σ H Q := h
theorem lcx_range {lo : Int} {n : Nat} {g : TG} {tt : TT} {te : TE} {vs : List Nat} {σ : L2.St} {H1 : Hp} {D : Addr} {Q : VK} (Pv : Nat → Hp → Prop) (h0 : Pv 0 (upd H1 D (.lst [])))
    (hs : ∀ i H, i < n → Pv i H → g (.int (lo + i)) (wipe σ vs) H fun σ2 H2 => wipe σ2 vs = wipe σ vs ∧ tt σ2 H2 fun b H3 =>
      if b = true then te σ2 H3 fun y H4 => ∃ acc, H4 D = some (.lst acc) ∧ acc.length < sizeLine ∧ Pv (i + 1) (upd H4 D (.lst (acc ++ [y]))) else Pv (i + 1) H3) (hd : ∀ H, Pv n H → Q (.ref D) H) : Lc (Itr lo n) g tt te vs σ H1 D Q :=
  lc_it walk_range Pv h0 (fun _ _ _ _ => trivial) (fun i x H H' hi p y => by
    obtain ⟨rfl, rfl⟩ := y
    exact hs i _ hi p) hd
theorem lcx_list {K : PySem.W.Frag} {a : Addr} {xs : List V} {g : TG} {tt : TT} {te : TE} {vs : List Nat} {σ : L2.St} {H1 : Hp} {D : Addr} {Q : VK} (Pv : Nat → Hp → Prop) (h0 : Pv 0 (upd H1 D (.lst []))) (hl : ∀ i H, i ≤ xs.length → Pv i H → SqL K H a xs)
    (hs : ∀ i x H, xs[i]? = some x → Pv i H → g x (wipe σ vs) H fun σ2 H2 => wipe σ2 vs = wipe σ vs ∧ tt σ2 H2 fun b H3 =>
      if b = true then te σ2 H3 fun y H4 => ∃ acc, H4 D = some (.lst acc) ∧ acc.length < sizeLine ∧ Pv (i + 1) (upd H4 D (.lst (acc ++ [y]))) else Pv (i + 1) H3) (hd : ∀ H, Pv xs.length H → Q (.ref D) H) : Lc (Itl K a) g tt te vs σ H1 D Q :=
  lc_it walk_list Pv h0 hl (fun i x H H' hi p y => by
    obtain ⟨rfl, e⟩ := y
    exact hs i x _ e p) hd
end Fx

set_option Elab.async false
set_option linter.all false
set_option maxRecDepth 100000
/-! Ex: exceptions of the program's own classes, over Ox. -/
namespace Fx
open PySem PySem.Spec PyProof.Rows L2
/-! ### defs that may raise -/
/-- what leaves a def, as its promise says -/
abbrev wOf (E : XK) : WX := fun cls d _ H => E cls d H
section
variable {P : Program} {w : World} {K : PySem.W.Frag} {mg : Str → Option Value} {base : Heap}
theorem tk_of {N : List Str} {qual : Str} {sc : Scope} {f : Addr} {cd : Value} {A : Around} {outer : List Env} {s : Shared} {H : Hp} {E : XK} : Takes (cxOf (L2.CX P w) P w K mg base N qual sc f cd A outer s H E) (wOf E) := takes_of rfl rfl rfl rfl
theorem hasX_of {x qual : Str} {st : Stmt} {N ps : List Str} {k : Nat} {sp : Sp} (A : At K mg x qual st ps) (S : FnScope N ps (defScope st)) (len : ∀ vs H Q E, sp vs H Q E → vs.length = ps.length)
    (hbody : ∀ (cdv : Value) (f : Addr) (A : Around) (outer : List Env) (s : Shared) (H : Hp) (vs : List V) (Q : VK) (E : XK), Room k (A.deeper (envOfC qual (defScope st) s.heap.objs.size f cdv)) → sp vs H Q E →
      ∃ t, PSs (cxOf (L2.CX P w) P w K mg base N qual (defScope st) f cdv A outer s H E) (defBody st) t ∧ t { nx := fun _ H' => Q .non H', rt := Q } (start N vs) H) : Has P w K mg base (L2.CX P w) x (k + 1) ps sp := by
  obtain ⟨f, fd, F, B, G⟩ := A.ex
  exact ⟨f, fd, F.okX S len fun cdv A outer s H vs Q E hr h => hbody cdv f A outer s H vs Q E hr h, B, G, F.kp⟩
theorem hasMX_of {C : Addr} {x qual : Str} {st : Stmt} {N ps : List Str} {k : Nat} {sp : Sp} (A : AtM K C x qual st ps) (S : FnScope N ps (defScope st)) (len : ∀ vs H Q E, sp vs H Q E → vs.length = ps.length)
    (hbody : ∀ (cdv : Value) (f : Addr) (A : Around) (outer : List Env) (s : Shared) (H : Hp) (vs : List V) (Q : VK) (E : XK), Room k (A.deeper (envOfC qual (defScope st) s.heap.objs.size f cdv)) → sp vs H Q E →
      ∃ t, PSs (cxOf (L2.CX P w) P w K mg base N qual (defScope st) f cdv A outer s H E) (defBody st) t ∧ t { nx := fun _ H' => Q .non H', rt := Q } (start N vs) H) : HasM P w K mg base (L2.CX P w) C x (k + 1) ps sp := by
  obtain ⟨f, fd, F, B, G⟩ := A.ex
  exact ⟨f, fd, F.okX S len fun cdv A outer s H vs Q E hr h => hbody cdv f A outer s H vs Q E hr h, B, G⟩
end
section
variable {X : Cx} {CX : CXT} {k : Nat} {C : Addr} {x m : Str} {p pos apos : Pos} {o e : Expr} {es : List Expr} {t : TA} {ta : TE} {ps : List Str} {sp : Sp} {W : WX}
theorem fe_callX (h : Has X.prog X.w X.K X.mg X.base (L2.CX X.prog X.w) x k ps sp) (hr : Room k X.A) (hg : Gl X x) (tk : Takes X W) (ha : PA X (e :: es) t) (hd : (x == ("__debug__" : Str)) = false := by decide)
    (hs : starEach (e :: es) X.env = (false, eval e X.env) :: starEach es X.env := by rfl) (hplain : (backTo pos (starEach es X.env)).any (·.1) = false := by rfl) : PE X (.Call (.Name x p) (e :: es) [] pos) (tCallS sp (WE W) t) := by
  obtain ⟨f, fd, F, B, G, kp⟩ := h.ex
  exact pe_callS F hr hg G kp B (fun σ => passAt tk σ) ha hd hs hplain
theorem fe_callX0 (h : Has X.prog X.w X.K X.mg X.base (L2.CX X.prog X.w) x k ps sp) (hr : Room k X.A) (hg : Gl X x) (tk : Takes X W) (hd : (x == ("__debug__" : Str)) = false := by decide) : PE X (.Call (.Name x p) [] [] pos) (tCallS sp (WE W) tNil) := by
  obtain ⟨f, fd, F, B, G, kp⟩ := h.ex
  refine ⟨fun pins s σ H Q I h => ?_⟩
  refine wpAny_Call_Name_kw (ld_glob I hg G ?_ hd)
  exact PySem.W.callWith_K0 I.kIn kp (run_fnS (us := []) F hr B (passAt tk σ) I .nil h)
theorem isOb_some {a : Addr} {H : Hp} (h : isOb C m (.ref a) H) : ∃ dx fs, H a = some (.ins C dx fs) ∧ fs.lookup m = none := by
  unfold isOb at h
  dsimp only at h
  split at h
  · obtain ⟨rfl, l⟩ := h
    exact ⟨_, _, by assumption, l⟩
  · exact h.elim
def fMethS (C : Addr) (m : Str) (sp : Sp) (E : L2.St → XK) (ta : TE) (t : TA) : TE := fun σ H Q => ta σ H fun x H1 => isOb C m x H1 ∧ t σ H1 fun vs H2 => sp (x :: vs) H2 Q (E σ)
theorem fe_methX {pl : Sem Bool} (h : HasM X.prog X.w X.K X.mg X.base (L2.CX X.prog X.w) C m k ps sp) (c : Cls X.K C) (hr : Room k X.A) (tk : Takes X W) (he : PE X o ta) (ha : PA X (e :: es) t)
    (hst : starEach (e :: es) X.env = (false, eval e X.env) :: starEach es X.env := by rfl) (hpl : (backTo pos (starEach es X.env)).any (·.1) = false := by rfl)
    (ht : eval (.Call (.Attribute o m apos) (e :: es) [] pos) X.env = (do
      let ov ← eval o X.env
      standAt apos.atName
      let (f, first) ← holding [ov] (getMethod ov m pl)
      callWith pos f first (backTo pos (starEach (e :: es) X.env)) (backToKw pos (keywordEach [] X.env))) := by rfl) :
    PE X (.Call (.Attribute o m apos) (e :: es) [] pos) (fMethS C m sp (WE W) ta t) := by
  obtain ⟨f, fd, F, B, M⟩ := h.ex
  refine ⟨fun pins s σ H Q I h => ?_⟩
  refine PySem.W.methodCall_KW (pl := pl) (thn (he.run pins s σ H _ I h) fun u s1 ⟨x, H1, I1, rx, q1, q2⟩ => ?_) ht
  match x, q1, rx, q2 with
  | .ref a, q1, rx, q2 =>
    obtain ⟨dx, fs, ea, l⟩ := isOb_some q1
    · obtain rfl : u = Value.ref a := rx
      refine getmeth_ok I1 ea c M l ?_
      refine PySem.W.callWith_K (first := [.ref a]) (h₀ := X.base) I.ok.mod.kin M.kp (thn (ha.run pos pins s1 σ H1 _ I1 q2) fun us s2 ⟨vs, H2, I2, r, q3⟩ => ⟨I2.kIn, ?_⟩) hst hpl
      exact run_fnS (us := .ref a :: us) (vs := .ref a :: vs) F hr B (passAt tk σ) I2 (.cons rfl r) q3
theorem fe_methX0 {pl : Sem Bool} (h : HasM X.prog X.w X.K X.mg X.base (L2.CX X.prog X.w) C m k ps sp) (c : Cls X.K C) (hr : Room k X.A) (tk : Takes X W) (he : PE X o ta)
    (ht : eval (.Call (.Attribute o m apos) [] [] pos) X.env = (do
      let ov ← eval o X.env
      standAt apos.atName
      let (f, first) ← holding [ov] (getMethod ov m pl)
      callWith pos f first (backTo pos (starEach [] X.env)) (backToKw pos (keywordEach [] X.env))) := by rfl) :
    PE X (.Call (.Attribute o m apos) [] [] pos) (fMethS C m sp (WE W) ta tNil) := by
  obtain ⟨f, fd, F, B, M⟩ := h.ex
  refine ⟨fun pins s σ H Q I h => ?_⟩
  refine PySem.W.methodCall_KW (pl := pl) (thn (he.run pins s σ H _ I h) fun u s1 ⟨x, H1, I1, rx, q1, q2⟩ => ?_) ht
  match x, q1, rx, q2 with
  | .ref a, q1, rx, q2 =>
    obtain ⟨dx, fs, ea, l⟩ := isOb_some q1
    · obtain rfl : u = Value.ref a := rx
      refine getmeth_ok I1 ea c M l ?_
      exact PySem.W.callWith_K0 (first := [.ref a]) I1.kIn M.kp (run_fnS (us := [.ref a]) (vs := [.ref a]) F hr B (passAt tk σ) I1 (.cons rfl .nil) q2)
end
/-! ### exception classes -/
structure ExcFact (K : PySem.W.Frag) (C : Addr) : Prop where
  cls : ∃ nm q N bs bm sn sub ab col dd k0 k1 k2 k3 k5, K.lookup C = some (excClassObj nm q C N bs bm true sn sub ab col dd k0 k1 k2 k3 k5 "ValueError.__new__") ∧ PySem.HandSPX.refsVE bm = true
  sa : PySem.W.findIn K (.ref C) "__setattr__" = some (some (.builtin "object.__setattr__"))
  ga : PySem.W.findIn K (.ref C) "__getattribute__" = some (some (.builtin "BaseException.__getattribute__"))
  gg : PySem.W.findIn K (.ref C) "__getattr__" = some none
  exC : PySem.W.subIn K (.ref C) (.type "BaseException") = some true
  tyC : PySem.W.typeIn K (.ref C) = some (.type "type")
  kC : PySem.W.keepIn K (.ref C) = true
  hdC : PySem.W.hasDictIn K C = true
  ci : PySem.W.findIn K (.ref C) "__class__" = some (some (.builtin "object.__class__"))
  mr : PySem.W.mroIn K C (.type "object") = some true
theorem ExcFact.of {K : PySem.W.Frag} {C : Addr} {nm q N bs bm sn sub ab col dd k0 k1 k2 k3 k5} (l : K.lookup C = some (excClassObj nm q C N bs bm true sn sub ab col dd k0 k1 k2 k3 k5 "ValueError.__new__")) (r : PySem.HandSPX.refsVE bm = true)
    (sa : PySem.W.findIn K (.ref C) "__setattr__" = some (some (.builtin "object.__setattr__"))) (ga : PySem.W.findIn K (.ref C) "__getattribute__" = some (some (.builtin "BaseException.__getattribute__"))) (gg : PySem.W.findIn K (.ref C) "__getattr__" = some none)
    (exC : PySem.W.subIn K (.ref C) (.type "BaseException") = some true) (tyC : PySem.W.typeIn K (.ref C) = some (.type "type")) (kC : PySem.W.keepIn K (.ref C) = true) (hdC : PySem.W.hasDictIn K C = true)
    (ci : PySem.W.findIn K (.ref C) "__class__" = some (some (.builtin "object.__class__"))) (mr : PySem.W.mroIn K C (.type "object") = some true) : ExcFact K C :=
  ⟨⟨nm, q, N, bs, bm, sn, sub, ab, col, dd, k0, k1, k2, k3, k5, l, r⟩, sa, ga, gg, exC, tyC, kC, hdC, ci, mr⟩
theorem ExcFact.oex {K : PySem.W.Frag} {C : Addr} (F : ExcFact K C) : OexC K C := ⟨F.cls, F.sa, F.exC, F.tyC, F.kC⟩
theorem ExcFact.xf {K : PySem.W.Frag} {C : Addr} (F : ExcFact K C) : XfC K C := ⟨F.ga, F.gg, F.exC, F.hdC⟩
/-- __init__ of an exception class as it stands -/
structure AtE (K : PySem.W.Frag) (C : Addr) (qual : Str) (st : Stmt) (ps : List Str) : Prop where
  ex : ∃ (f : Addr) (fd : FuncData), Fun K "__init__" qual st f fd ∧ Binds K fd ps [] ∧ PySem.W.findIn K (.ref C) "__init__" = some (some (.ref f)) ∧ PySem.W.typeIn K (.ref f) = some (.type "function")
structure EFact (K : PySem.W.Frag) (C : Addr) (qual : Str) (st : Stmt) : Prop where
  ex : ∃ (f : Addr) (oc : Value) (od an : Option Addr) (sl : Array (Option Value)) (kV dc pm cd ct : Value),
    PySem.W.findIn K (.ref C) "__init__" = some (some (.ref f)) ∧ K.lookup f = some ⟨oc, od, .func (PySem.W.fnOf "__init__" qual (defArgs st) (defBody st) (defScope st) .none kV dc pm an cd ct), sl⟩ ∧
    PySem.W.codeIn K cd qual = true ∧ PySem.W.keepIn K (.ref f) = true ∧ PySem.W.typeIn K (.ref f) = some (.type "function")
theorem EFact.of {K : PySem.W.Frag} {C : Addr} {qual : Str} {st : Stmt} {f : Addr} {oc : Value} {od an : Option Addr} {sl : Array (Option Value)} {kV dc pm cd ct : Value}
    (a : PySem.W.findIn K (.ref C) "__init__" = some (some (.ref f))) (l : K.lookup f = some ⟨oc, od, .func (PySem.W.fnOf "__init__" qual (defArgs st) (defBody st) (defScope st) .none kV dc pm an cd ct), sl⟩)
    (c : PySem.W.codeIn K cd qual = true) (k : PySem.W.keepIn K (.ref f) = true) (i : PySem.W.typeIn K (.ref f) = some (.type "function")) : EFact K C qual st := ⟨f, oc, od, an, sl, kV, dc, pm, cd, ct, a, l, c, k, i⟩
theorem AtE.of {K : PySem.W.Frag} {C : Addr} {qual : Str} {st : Stmt} {ps : List Str} (F : EFact K C qual st)
    (hb : ∀ (kV doc pm : Value) (an : Option Addr) (cdv ct : Value) (us : List Value), us.length = ps.length → bindArgs (PySem.W.fnOf "__init__" qual (defArgs st) (defBody st) (defScope st) .none kV doc pm an cdv ct) ⟨us, []⟩ = pure (ps.zip us)) : AtE K C qual st ps := by
  obtain ⟨f, oc, od, an, sl, kV, dc, pm, cd, ct, a, l, c, k, i⟩ := F.ex
  have F1 := fun_mk (st := st) l c k
  exact ⟨_, _, F1, F1.binds hb, a, i⟩
/-- what __init__ keeps: two fields -/
def spInitE (C : Addr) (n : Nat) (flds : List V → List (Str × V)) : Sp := fun ws H0 Q _ => ∃ a vs H1, ws = .ref a :: vs ∧ vs.length = n ∧ H1 a = none ∧ H0 = upd H1 a (exo a C none) ∧
  ∀ d H2, H1 d = none → d ≠ a → (∀ b o, H1 b = some o → H2 b = some o) → H2 a = some (exo a C (some d)) → H2 d = some (exd d (flds vs)) → Q .non H2
/-- an exception class whose __init__ keeps its fields -/
structure HasE (P : Program) (w : World) (K : PySem.W.Frag) (mg : Str → Option Value) (base : Heap) (C : Addr) (x : Str) (n : Nat) (flds : List V → List (Str × V)) : Prop where
  ex : ∃ (f : Addr) (fd : FuncData) (ps : List Str), FnOk P w K mg base CX0 1 f fd ps (spInitE C n flds) ∧ Binds K fd ps [] ∧ PySem.W.findIn K (.ref C) "__init__" = some (some (.ref f)) ∧ PySem.W.typeIn K (.ref f) = some (.type "function") ∧ mg x = some (.ref C) ∧ OexC K C
def two (f1 f2 : Str) : List V → List (Str × V)
  | [a, b] => [(f2, b), (f1, a)]
  | _ => []
theorem hasE2 {P : Program} {w : World} {K : PySem.W.Frag} {mg : Str → Option Value} {base : Heap} {C : Addr} {x qual f1 f2 : Str} {st : Stmt} {q1 q2 q3 q4 r1 r2 r3 r4 : Pos} (A : AtE K C qual st ["self", f1, f2]) (S : FnScope ["self", f1, f2] ["self", f1, f2] (defScope st))
    (hb : defBody st = [.Assign [.Attribute (.Name "self" q1) f1 q2] (.Name f1 q3) q4, .Assign [.Attribute (.Name "self" r1) f2 r2] (.Name f2 r3) r4])
    (F : ExcFact K C) (n1 : PySem.W.findIn K (.ref C) f1 = some none) (n2 : PySem.W.findIn K (.ref C) f2 = some none) (g : mg x = some (.ref C)) (d1 : (f1 == ("__debug__" : Str)) = false) (d2 : (f2 == ("__debug__" : Str)) = false)
    (c1 : (f1 == ("__classdict__" : Str)) = false) (c2 : (f2 == ("__classdict__" : Str)) = false) : HasE P w K mg base C x 2 (two f1 f2) := by
  obtain ⟨f, fd, Fn, B, I, Ty⟩ := A.ex
  refine ⟨f, fd, _, ?_, B, I, Ty, g, F.oex⟩
  refine Fn.ok S (fun ws H Q E h => ?_) (fun cdv A outer s H ws Q E hr h => ?_)
  · obtain ⟨a, vs, H1, rfl, hl, _⟩ := h
    show vs.length + 1 = 3
    rw [hl]
  · obtain ⟨a, vs, H1, rfl, hl, na, rfl, k⟩ := h
    match vs, hl, k with
    | [v1, v2], hl, k =>
      have v0 : Vis (defScope st) "self" := (S.par "self" (List.Mem.head _)).elim (fun z => .inl z) (fun z => .inr (.inl z))
      have vis1 : Vis (defScope st) f1 := (S.par f1 (List.Mem.tail _ (List.Mem.head _))).elim (fun z => .inl z) (fun z => .inr (.inl z))
      have vis2 : Vis (defScope st) f2 := (S.par f2 (List.Mem.tail _ (List.Mem.tail _ (List.Mem.head _)))).elim (fun z => .inl z) (fun z => .inr (.inl z))
      rw [hb]
      refine ⟨_, pss_cons (ps_ost (fe_var 0 rfl v0) (fe_var 1 rfl vis1 d1 c1)) (pss_one (ps_ost (fe_var 0 rfl v0) (fe_var 2 rfl vis2 d2 c2))), ?_⟩
      refine ⟨a, C, rfl, F.oex, n1, .inl ⟨upd_same, fun dx ndx nea => ?_⟩⟩
      have hdx : H1 dx = none := by rw [upd_ne nea] at ndx; exact ndx
      refine ⟨a, C, rfl, F.oex, n2, .inr ⟨dx, [(f1, v1)], upd_same, (upd_ne nea).trans upd_same, (show 1 ≤ 900 by decide), ?_⟩⟩
      refine k dx _ hdx nea (fun b o e => ?_) ?_ upd_same
      · rw [upd_ne (ne_of_none e hdx), upd_ne (ne_of_none e na), upd_ne (ne_of_none e hdx), upd_ne (ne_of_none e na)]
        exact e
      · rw [upd_ne (Ne.symm nea)]
        exact upd_same
/-- C(e, ..) -/
def fMkE (C : Addr) (n : Nat) (flds : List V → List (Str × V)) (ta : TA) : L2.St → Hp → XK → Prop := fun σ H Q => ta σ H fun vs H1 => vs.length = n ∧ ∀ d H2, H1 d = none → Same H1 H2 → H2 d = some (.xd (flds vs)) → Q (.ref C) (some d) H2
section
variable {X : Cx} {C : Addr} {x : Str} {n : Nat} {flds : List V → List (Str × V)} {p pos : Pos} {e : Expr} {es : List Expr} {ta : TA}
def closAX (t : TA) : TA := closA t
theorem fmk_e (h : HasE X.prog X.w X.K X.mg X.base C x n flds) (hn : n ≤ 1000) (hr : Room 2 X.A) (hg : Gl X x) (ha : PA X (e :: es) ta) (hdb : (x == ("__debug__" : Str)) = false := by decide)
    (he : starEach (e :: es) X.env = (false, eval e X.env) :: starEach es X.env := by rfl) (hpl : (backTo pos (starEach es X.env)).any (·.1) = false := by rfl) : PMk X (.Call (.Name x p) (e :: es) [] pos) (fMkE C n flds ta) := by
  obtain ⟨f, fd, ps, F, B, I, Ty, g, O⟩ := h.ex
  intro pins s σ H Q Iv q
  refine pmk_oex O I Ty F hr B .nil (fun _ _ _ _ _ _ _ h => h.elim) hg g (pa_clos ha) hdb he hpl pins s σ H Q Iv ⟨_, q, fun vs H1 q => ?_⟩
  obtain ⟨hl, q⟩ := q
  refine ⟨by omega, fun a na => ⟨a, vs, H1, by rw [List.append_nil], hl, na, rfl, fun d H2 nd ne keep ea ed => ⟨rfl, d, flds vs, ea, ed, nd, q d _ nd (fun b o eb => ?_) upd_same⟩⟩⟩
  rw [upd_ne (ne_of_none eb nd), del_ne (ne_of_none eb na)]
  exact keep b o eb
/-- raise C(e, ..) -/
def fRaise (C : Addr) (n : Nat) (flds : List V → List (Str × V)) (W : WX) (ta : TA) : TS := fun _ σ H => ta σ H fun vs H1 => vs.length = n ∧ ∀ d H2, H1 d = none → Same H1 H2 → H2 d = some (.xd (flds vs)) → W (.ref C) (some d) σ H2
theorem fs_raise {W : WX} {pos2 : Pos} (hc : X.calm = true) (tk : Takes X W) (h : HasE X.prog X.w X.K X.mg X.base C x n flds) (hn : n ≤ 1000) (hr : Room 2 X.A) (hg : Gl X x) (ha : PA X (e :: es) ta) (hdb : (x == ("__debug__" : Str)) = false := by decide)
    (he : starEach (e :: es) X.env = (false, eval e X.env) :: starEach es X.env := by rfl) (hpl : (backTo pos (starEach es X.env)).any (·.1) = false := by rfl) : PS X (.Raise (some (.Call (.Name x p) (e :: es) [] pos)) none pos2) (fRaise C n flds W ta) :=
  ps_raise hc tk (fmk_e h hn hr hg ha hdb he hpl)
end
/-- the way out of a def: an exception of class C with two fields -/
def Out (C : Addr) (H : Hp) (fs : List (Str × V)) (E : XK) : Prop := ∀ d H2, H d = none → Same H H2 → H2 d = some (.xd fs) → E (.ref C) (some d) H2
theorem Out.same {C : Addr} {H H1 : Hp} {fs : List (Str × V)} {E : XK} (h : Out C H fs E) (s : Same H H1) : Out C H1 fs E := fun d H2 nd s2 e => h d H2 (by
  cases q : H d with
  | none => rfl
  | some o => rw [s _ _ q] at nd; cases nd) (s.trans s2) e
/-! ### the suite -/
/-- e.f, e the caught one -/
def fXf (a : Addr) (cls : Value) (d : Option Addr) (cs : List Addr) (f : Str) (te : TE) : TE := fun σ H Q => te σ H fun x H1 => x = .ref a ∧ match cls, d with
  | .ref C, some dd => C ∈ cs ∧ match H1 dd with
    | some (.xd fs) => match fs.lookup f with
      | some v => Q v H1
      | none => False
    | _ => False
  | _, _ => False
def XPlain (K : PySem.W.Frag) (cs : List Addr) (f : Str) : Prop := ∀ C ∈ cs, XfC K C ∧ PySem.W.findIn K (.ref C) f = some none
theorem fe_xf {X : Cx} {a : Addr} {cs : List Addr} {oe : Obj} {cls : Value} {d : Option Addr} {pn : List (Addr × Obj)} {e : Expr} {te : TE} {pos : Pos} {n : Str} (T : XPlain X.K cs n)
    (hz : Zc cls d oe) (hf : ∃ vs, oe.data = .fields vs) (he : PE (X.suite a ((a, oe) :: pn)) e te) (hb : attributeBase e n X.env (eval e X.env) = eval e X.env) :
    PE (X.suite a ((a, oe) :: pn)) (.Attribute e n pos) (fXf a cls d cs n te) := by
  refine ⟨fun pins s σ H Q I h => ?_⟩
  refine attr_of hb (thn (he.run pins s σ H _ I h) fun u s1 hh => ?_)
  obtain ⟨x, H1, I1, rx, ex, q⟩ := hh
  subst ex
  obtain rfl : u = Value.ref a := rx
  split at q
  · rename_i C dd
    obtain ⟨m, q⟩ := q
    split at q
    · rename_i fs ea
      split at q
      · rename_i v l
        obtain ⟨ha, _⟩ := I1.pin (a, oe) (List.mem_append_left _ List.mem_cons_self)
        obtain ⟨vs, hd⟩ := hf
        have hx : ObjOk X.prog X.w H1 s1.heap dd (.xd fs) := I1.hok dd _ ea
        obtain ⟨mA, hns, hr⟩ := hx
        obtain ⟨od, ho, hl⟩ := lookIn_ns hns
        obtain ⟨u, hu, ru⟩ := RelO.some_of (v := v) (o := mA n) (by rw [← l]; exact hr n)
        have J : PySem.W.InstAt s1.heap a oe C (some od) := ⟨ha, hz.1, by unfold PySem.W.notCls; rw [hd] <;> rfl, by rw [hz.2]; exact ho⟩
        exact HandSPX.exc_get I1.kIn J (T C m).1.ga (T C m).1.gg (T C m).1.exC (PySem.W.findObj_own (T C m).1.hdC (T C m).2 rfl (by rw [hl, hu])) (handed_of ru) ⟨v, H1, I1.tok _, ru, q⟩
      · exact q.elim
    · exact q.elim
  · exact q.elim
/-- isinstance(e, C), e the caught one -/
structure XKit (K : PySem.W.Frag) (cs ds : List Addr) : Prop where
  f : ∀ C ∈ cs, ExcFact K C
  ob : ObjFact K
  k : ∀ C ∈ cs, ∀ D ∈ ds, ∃ b, PySem.W.kitOne K (.ref C) (.ref D) = some b
def fIsE (K : PySem.W.Frag) (a : Addr) (cls : Value) (d : Option Addr) (cs : List Addr) : List V → Hp → VK → Prop := fun xs H Q => match xs with
  | [x, .ref D] => x = .ref a ∧ (match cls with | .ref C => C ∈ cs | _ => False) ∧ (match d with | none => True | some dd => match H dd with | some (.xd _) => True | _ => False) ∧ ∃ b, PySem.W.kitOne K cls (.ref D) = some b ∧ Q (.bl b) H
  | _ => False
theorem call_fIsE {X : Cx} {a : Addr} {cls : Value} {d : Option Addr} {cs : List Addr} {oe : Obj} {pn : List (Addr × Obj)} (F : ∀ C ∈ cs, ExcFact X.K C) (ob : ObjFact X.K) (hz : Zc cls d oe) (hf : ∃ vs, oe.data = .fields vs) :
    CallR (X.suite a ((a, oe) :: pn)) (.builtin "isinstance") (fIsE X.K a cls d cs) := by
  intro pins s σ H xs us Q I r h
  match xs, r, h with
  | [x, .ref D], r, h =>
    obtain ⟨rfl, hc, hd, b, e, q⟩ := h
    match cls, hc, hz, e with
    | .ref C, hc, hz, e =>
      cases r with
      | cons rx rr =>
        cases rr with
        | cons rt rr =>
          cases rr
          cases rx
          cases rt
          obtain ⟨hget, _⟩ := I.pin (a, oe) (List.mem_append.mpr (.inl List.mem_cons_self))
          obtain ⟨vs, hv⟩ := hf
          have FC := F C hc
          have hcl : (PySem.W.clsIn X.K C).isSome = true := by
            obtain ⟨cd, hcd, _⟩ := PySem.W.any_some FC.hdC
            rw [hcd]; rfl
          have hJ : ∃ od, PySem.W.InstAt s.heap a oe C od := by
            cases d with
            | none =>
              refine ⟨none, hget, hz.1, ?_, ?_⟩
              · unfold PySem.W.notCls; rw [hv] <;> rfl
              · rw [hz.2]; trivial
            | some dd =>
              dsimp only at hd
              split at hd
              · rename_i fs ea
                have hx : ObjOk X.prog X.w H s.heap dd (.xd fs) := I.hok dd _ ea
                obtain ⟨mA, hns, hr⟩ := hx
                obtain ⟨od, ho, hl⟩ := lookIn_ns hns
                exact ⟨some od, hget, hz.1, by unfold PySem.W.notCls; rw [hv] <;> rfl, by rw [hz.2]; exact ho⟩
              · exact hd.elim
          obtain ⟨od, J⟩ := hJ
          exact PySem.W.kia_one (PySem.W.kitx_exc hcl FC.ga FC.gg FC.exC FC.ci ob.gd ob.tk FC.mr) I.kIn J e (fun z => nomatch z) fun tk => ⟨.bl b, H, I.kept (t' := tk) fun _ _ z => z, rfl, q⟩
/-! ### parts that are never reached -/
section
variable {X : Cx}
def fDead : TE := fun _ _ _ => False
def sDead : TS := fun _ _ _ => False
theorem pe_dead {e : Expr} : PE X e fDead := ⟨fun _ _ _ _ _ _ h => h.elim⟩
theorem ps_dead {st : Stmt} : PS X st sDead := ⟨fun _ _ _ _ _ _ h => h.elim⟩
/-! ### truth by value -/
def fTru (K : PySem.W.Frag) (ta : TE) : TT := fun σ H Q => ta σ H fun x H1 => match x with
  | .non => Q false H1
  | .bl b => Q b H1
  | .int i => Q (!decide (i = 0)) H1
  | .str z => z.length ≤ sizeLine ∧ Q (!decide (z.length = 0)) H1
  | .ref p => ∃ xs, Rl K H1 p xs ∧ Q (!xs.isEmpty) H1
  | _ => False
theorem pt_fTru {a : Expr} {ta : TE} (ha : PE X a ta) (he : ∀ whole, isTrue a X.env whole = (do let v ← whole; standAt a.pos; holding [v] (truthy v))) : PT X a (fTru X.K ta) := by
  refine pt_wk (pt_truth (pe_clos ha) he) fun σ H Q q => ⟨_, q, fun x H1 q => ?_⟩
  split at q
  · exact ⟨_, rfl, q⟩
  · exact ⟨_, rfl, q⟩
  · refine ⟨_, rfl, ?_⟩
    rename_i i
    have e : (i != 0) = !decide (i = 0) := by by_cases h : i = 0 <;> simp [h]
    rw [e]; exact q
  · refine ⟨_, ⟨q.1, rfl⟩, ?_⟩
    rename_i z
    have e : ((z.length : Int) != 0) = !decide (z.length = 0) := by by_cases h : z.length = 0 <;> simp [h]
    rw [e]; exact q.2
  · obtain ⟨xs, r, q⟩ := q
    rcases r with r | r
    · exact ⟨_, .inl ⟨xs, r, rfl⟩, q⟩
    · exact ⟨_, .inr (.inl ⟨xs, r, rfl⟩), q⟩
  · exact q.elim
/-! ### f-strings -/
def fFmt (te : TE) : TE := fun σ H Q => te σ H fun x H1 => match x with
  | .str y => y.length ≤ sizeLine ∧ Q (.str y) H1
  | .int i => i.natAbs.log2 < 1920 ∧ Q (.str (toString i)) H1
  | _ => False
theorem fe_fmt {e : Expr} {te : TE} {pos : Pos} (he : PE X e te) : PE X (.FormattedValue e (-1) none pos) (fFmt te) := pe_wk (pe_fmt (pe_clos he)) fun σ H Q q => ⟨_, q, fun x H1 q => by
  split at q
  · exact .inl ⟨_, rfl, q⟩
  · exact .inr ⟨_, rfl, q⟩
  · exact q.elim⟩
inductive PF (X : Cx) : List Expr → List TE → Prop where
  | nil : PF X [] []
  | cons {e : Expr} {t : TE} {es : List Expr} {ts : List TE} (h : PE X e t) (r : PF X es ts) : PF X (e :: es) (t :: ts)
theorem PF_nil : PF X [] [] := .nil
theorem pf_cons {e : Expr} {t : TE} {es : List Expr} {ts : List TE} (h : PE X e t) (r : PF X es ts) : PF X (e :: es) (t :: ts) := .cons h r
def fJs : List TE → Str → L2.St → Hp → (Str → Hp → Prop) → Prop
  | [], acc, _, H, Q => Q acc H
  | t :: ts, acc, σ, H, Q => t σ H fun x H1 => match x with
    | .str y => (acc ++ y).length ≤ sizeLine ∧ fJs ts (acc ++ y) σ H1 Q
    | _ => False
theorem pf_pj {es : List Expr} {ts : List TE} (h : PF X es ts) : PJ X es (ts.map clos) := by
  induction h with
  | nil => exact .nil
  | cons h r ih => exact .cons (pe_clos h) ih
theorem fJs_to : ∀ {ts : List TE} {acc : Str} {σ : L2.St} {H : Hp} {Q : Str → Hp → Prop}, fJs ts acc σ H Q → tJs (ts.map clos) acc σ H Q
  | [], _, _, _, _, h => h
  | t :: ts, acc, σ, H, Q, h => ⟨_, h, fun x H1 q => by
    split at q
    · exact ⟨_, rfl, q.1, fJs_to q.2⟩
    · exact q.elim⟩
def fJoined (ts : List TE) : TE := fun σ H Q => fJs ts Str.empty σ H fun out H1 => Q (.str out) H1
theorem fe_joined {v1 v2 : Expr} {rest : List Expr} {ts : List TE} {pos : Pos} (h : PF X (v1 :: v2 :: rest) ts) : PE X (.JoinedStr (v1 :: v2 :: rest) pos) (fJoined ts) := by
  have h2 := pf_pj h
  exact pe_wk (pe_joined h2) fun σ H Q q => fJs_to q
/-- // by any divisor but 0 -/
def fDivZ : R2 := fun x y H Q => match x, y with
  | .int i, .int j => (j ≠ 0 ∧ j.natAbs.log2 < 9000) ∧ Q (.int (Int.fdiv i j)) H
  | _, _ => False
theorem op_fDivZ : OpR X (binaryOp .FloorDiv) fDivZ := by
  intro pins s σ H x y v u Q I rx ry h
  match x, y, rx, ry, h with
  | .int i, .int j, ⟨t, e⟩, ⟨t', e'⟩, ⟨hc, q⟩ =>
    subst e e'
    exact floordiv_int hc.1 ⟨.int _, H, I.tok _, ⟨_, rfl⟩, q⟩ (.inl (PyProof.noPylong_of_log2 hc.2))
end
theorem WE_wOf {E : XK} {σ : L2.St} : WE (wOf E) σ = E := rfl
/-! ### dicts of the module, text keys -/
def EntOk (K : PySem.W.Frag) (d : Addr) : Str × Option V → Prop
  | (z, none) => PySem.W.nsIn K d z = some none
  | (z, some v) => ∃ u, PySem.W.nsIn K d z = some (some u) ∧ RelV v u
theorem ent_none {K : PySem.W.Frag} {d : Addr} {z : Str} (h : PySem.W.nsIn K d z = some none) : EntOk K d (z, none) := h
theorem ent_str {K : PySem.W.Frag} {d : Addr} {z x : Str} {t : Tok} (h : PySem.W.nsIn K d z = some (some (.str x t))) : EntOk K d (z, some (.str x)) := ⟨_, h, _, rfl⟩
theorem ent_int {K : PySem.W.Frag} {d : Addr} {z : Str} {x : Int} {t : Tok} (h : PySem.W.nsIn K d z = some (some (.int x t))) : EntOk K d (z, some (.int x)) := ⟨_, h, _, rfl⟩
structure DAt (K : PySem.W.Frag) (w : World) (d : Addr) (ks : List (Str × Option V)) : Prop where
  ex : ∃ es n, KDict K w d es n
  en : ∀ p ∈ ks, EntOk K d p
def GDict (K : PySem.W.Frag) (w : World) (mg : Str → Option Value) (x : Str) (ks : List (Str × Option V)) : Prop := ∃ d, mg x = some (.ref d) ∧ DAt K w d ks
structure GDictF (K : PySem.W.Frag) (w : World) (x : Str) (ks : List (Str × Option V)) : Prop where
  ex : ∃ d, PySem.W.nsIn K mainGlobals x = some (some (.ref d)) ∧ DAt K w d ks
theorem GDictF.of {K : PySem.W.Frag} {w : World} {x : Str} {ks : List (Str × Option V)} {d : Addr} {es : Array DictEntry} {n : Nat} (h1 : PySem.W.nsIn K mainGlobals x = some (some (.ref d))) (h2 : K.lookup d = some ⟨.type "dict", none, .dict es n, #[]⟩)
    (h3 : PySem.W.KeysLit w.params es.toList) (h4 : (d == sysModules) = false) (h5 : ∀ p ∈ ks, EntOk K d p) : GDictF K w x ks := ⟨d, h1, ⟨es, n, h2, h3, h4⟩, h5⟩
theorem GDictF.get {K : PySem.W.Frag} {w : World} {mg : Str → Option Value} {x : Str} {ks : List (Str × Option V)} {h : Heap} (X : K.In h) (G : h.Ns mainGlobals mg) (F : GDictF K w x ks) : GDict K w mg x ks := by
  obtain ⟨d, h1, h2⟩ := F.ex
  exact ⟨d, PySem.W.mg_of X G h1, h2⟩
theorem ent_at {K : PySem.W.Frag} {w : World} {d : Addr} {z : Str} {o : Option V} : ∀ {ks : List (Str × Option V)}, (∀ p ∈ ks, EntOk K d p) → ks.lookup z = some o → EntOk K d (z, o)
  | [], _, h => by cases h
  | (y, p) :: ks, hk, h => by
    rw [List.lookup_cons] at h
    split at h
    · rename_i e
      cases h
      have e' := eq_of_beq e
      subst e'
      exact hk _ (List.mem_cons_self ..)
    · exact ent_at (w := w) (fun q hq => hk q (List.mem_cons_of_mem _ hq)) h
def fGd_ (K : PySem.W.Frag) (w : World) (ks : List (Str × Option V)) : TE := fun _ H Q => ∀ d, DAt K w d ks → Q (.ref d) H
section
variable {X : Cx}
theorem fe_gdict {x : Str} {pos : Pos} {ks : List (Str × Option V)} (hg : Gl X x) (h : GDict X.K X.w X.mg x ks) (hd : (x == ("__debug__" : Str)) = false := by decide) : PE X (.Name x pos) (fGd_ X.K X.w ks) := by
  obtain ⟨d, h, hs⟩ := h
  exact pe_wk (pe_glob hg h (v := .ref d) rfl hd) fun σ H Q q => q d hs
/-- z in D, D a dict of the module -/
def fInD (K : PySem.W.Frag) (w : World) (neg : Bool) : R2 := fun x y H Q => match x, y with
  | .str z, .ref d => ∃ ks o, DAt K w d ks ∧ ks.lookup z = some o ∧ Q (.bl (if neg = true then !o.isSome else o.isSome)) H
  | _, _ => False
theorem op_fInD : OpR X (compareOp .In) (fInD X.K X.w false) := by
  intro pins s σ H x y v u Q I rx ry h
  match x, y, rx, ry, h with
  | .str z, .ref d, rx, ry, ⟨ks, o, D, e, q⟩ =>
    obtain ⟨es, n, kd⟩ := D.ex
    have en := ent_at (w := X.w) D.en e
    cases o with
    | none => exact op_in_kd kd pins s σ H _ _ v u Q I rx ry ⟨z, none, rfl, rfl, en, q⟩
    | some v =>
      obtain ⟨u0, e0, _⟩ := en
      exact op_in_kd kd pins s σ H _ _ _ u Q I rx ry ⟨z, some u0, rfl, rfl, e0, q⟩
theorem op_fNotInD : OpR X (compareOp .NotIn) (fInD X.K X.w true) := by
  intro pins s σ H x y v u Q I rx ry h
  match x, y, rx, ry, h with
  | .str z, .ref d, rx, ry, ⟨ks, o, D, e, q⟩ =>
    obtain ⟨es, n, kd⟩ := D.ex
    have en := ent_at (w := X.w) D.en e
    cases o with
    | none => exact op_notIn_kd kd pins s σ H _ _ v u Q I rx ry ⟨z, none, rfl, rfl, en, q⟩
    | some v =>
      obtain ⟨u0, e0, _⟩ := en
      exact op_notIn_kd kd pins s σ H _ _ _ u Q I rx ry ⟨z, some u0, rfl, rfl, e0, q⟩
/-- D[z], D a dict of the module -/
def fIxD (K : PySem.W.Frag) (w : World) : R2 := fun x y H Q => match x, y with
  | .ref d, .str z => ∃ ks v, DAt K w d ks ∧ ks.lookup z = some (some v) ∧ Q v H
  | _, _ => False
theorem ix_fxD : IxR X (fIxD X.K X.w) := by
  intro e1 e2 pins s σ H x y v u Q I rx ry h hs
  match x, y, rx, ry, h with
  | .ref d, .str z, rx, ry, ⟨ks, r, D, e, q⟩ =>
    obtain ⟨es, n, kd⟩ := D.ex
    obtain ⟨u0, e0, r0⟩ := ent_at (w := X.w) D.en e
    exact ix_kdict e1 e2 pins s σ H (.ref d) (.str z) v u Q I rx ry ⟨d, z, r, rfl, rfl, ⟨es, n, u0, kd.at_, kd.lit, e0, r0⟩, q⟩ hs
end
/-! ### scalars as data -/
def dV : V → PyData
  | .non => .none
  | .bl b => .bool b
  | .int i => .int i
  | .str z => .str z
  | _ => .none
def scV : V → Bool
  | .non => true
  | .bl _ => true
  | .int _ => true
  | .str _ => true
  | _ => false
theorem dpAll_sc {K : PySem.W.Frag} {H : Hp} : ∀ {xs : List V}, xs.all scV = true → DpAll K H xs (xs.map dV)
  | [], _ => .nil
  | x :: xs, h => by
    rw [List.all_cons, Bool.and_eq_true] at h
    refine .cons ?_ (dpAll_sc h.2)
    obtain ⟨h1, _⟩ := h
    cases x <;> first
      | exact .non
      | exact .bl _
      | exact .int _
      | exact .str _
      | (exact absurd h1 (by decide))
      | (cases h1)
theorem all_okd {xs : List V} (h : xs.all scV = true) : PyData.plainAll (xs.map dV) = true ∧ PyData.depthAll (xs.map dV) = 0 := by
  induction xs with
  | nil => exact ⟨rfl, rfl⟩
  | cons x xs ih =>
    rw [List.all_cons, Bool.and_eq_true] at h
    obtain ⟨i1, i2⟩ := ih h.2
    obtain ⟨h1, _⟩ := h
    have : (dV x).plain = true ∧ (dV x).depth = 0 := by cases x <;> first | exact ⟨rfl, rfl⟩ | cases h1
    rw [List.map_cons, PyData.plainAll, PyData.depthAll, this.1, this.2, i1, i2]
    exact ⟨rfl, rfl⟩
theorem tup_okd {xs : List V} (h : xs.all scV = true) : okd (.tuple (xs.map dV)) = true := by
  obtain ⟨h1, h2⟩ := all_okd h
  unfold okd
  rw [Bool.and_eq_true]
  exact ⟨by rw [PyData.plain]; exact h1, decide_eq_true (by rw [PyData.depth, h2]; decide)⟩
theorem lst_okd {xs : List V} (h : xs.all scV = true) : okd (.list (xs.map dV)) = true := by
  obtain ⟨h1, h2⟩ := all_okd h
  unfold okd
  rw [Bool.and_eq_true]
  exact ⟨by rw [PyData.plain]; exact h1, decide_eq_true (by rw [PyData.depth, h2]; decide)⟩
theorem tup_eqv {xs : List V} (h : xs.all scV = true) : PyData.eqv (.tuple (xs.map dV)) (.tuple (xs.map dV)) = true := SeqAt.eqv_refl_plain _ (by rw [PyData.plain]; exact (all_okd h).1)
theorem lst_eqv {xs : List V} (h : xs.all scV = true) : PyData.eqv (.list (xs.map dV)) (.list (xs.map dV)) = true := SeqAt.eqv_refl_plain _ (by rw [PyData.plain]; exact (all_okd h).1)
/-- two tuples of the same scalars are equal -/
theorem tup_same {K : PySem.W.Frag} {H : Hp} {p q : Addr} {xs : List V} (hp : SqT K H p xs) (hq : SqT K H q xs) (h : xs.all scV = true) {R : Bool → Prop} (k : R true) :
    ∃ d, Dp K H (.ref p) d ∧ ∃ e, Dp K H (.ref q) e ∧ okd d = true ∧ okd e = true ∧ R (PyData.eqv d e) :=
  ⟨_, .tup hp (dpAll_sc h), _, .tup hq (dpAll_sc h), tup_okd h, tup_okd h, by rw [tup_eqv h]; exact k⟩
theorem lst_same {K : PySem.W.Frag} {H : Hp} {p q : Addr} {xs : List V} (hp : SqL K H p xs) (hq : SqL K H q xs) (h : xs.all scV = true) {R : Bool → Prop} (k : R true) :
    ∃ d, Dp K H (.ref p) d ∧ ∃ e, Dp K H (.ref q) e ∧ okd d = true ∧ okd e = true ∧ R (PyData.eqv d e) :=
  ⟨_, .lst hp (dpAll_sc h), _, .lst hq (dpAll_sc h), lst_okd h, lst_okd h, by rw [lst_eqv h]; exact k⟩
end Fx

set_option Elab.async false
set_option linter.all false
set_option maxRecDepth 100000
/-! Tb: dicts whose keys are tuples of scalars (None and truth values among them), over Ex. -/
namespace Fx
open PySem PySem.Spec PyProof.Rows L2
def leafK : V → NestedKey
  | .bl b => .num (if b = true then 1 else 0)
  | .int i => .num i
  | .str z => .text z
  | _ => .none
/-- a tuple of scalars as a key -/
def tupK (xs : List V) : NestedKey := .tup (xs.map leafK)
abbrev NEnt := NestedKey × Addr × V
abbrev PU : List NEnt → List (NestedKey × Addr × Value) → Prop := Paired fun e u => e.1 = u.1 ∧ e.2.1 = u.2.1 ∧ RelV e.2.2 u.2.2
def atN (es : List NEnt) (k : NestedKey) : Option V := (es.find? fun e => decide (e.1 = k)).map (·.2.2)
def putN (es : List NEnt) (k : NestedKey) (a : Addr) (v : V) : List NEnt := if (atN es k).isSome = true then es.map (fun e => if e.1 = k then (e.1, e.2.1, v) else e) else es ++ [(k, a, v)]
def dropN (es : List NEnt) (k : NestedKey) : List NEnt := es.filter fun e => decide (e.1 ≠ k)
theorem PU.at {es : List NEnt} {us : List (NestedKey × Addr × Value)} (h : PU es us) (k : NestedKey) : RelO (atN es k) ((atKey us k).map (·.2)) := by
  induction h with
  | nil => exact True.intro
  | @cons p q ps qs h t ih =>
    obtain ⟨h1, h2, h3⟩ := h
    by_cases e : p.1 = k
    · have e' : q.1 = k := h1.symm.trans e
      have a : atN (p :: ps) k = some p.2.2 := by simp [atN, List.find?_cons, e]
      have b : atKey (q :: qs) k = some q.2 := by simp [atKey, List.find?_cons, e']
      rw [a, b]; exact h3
    · have e' : ¬ q.1 = k := fun z => e (h1.trans z)
      have a : atN (p :: ps) k = atN ps k := by simp [atN, List.find?_cons, e]
      have b : atKey (q :: qs) k = atKey qs k := by simp [atKey, List.find?_cons, e']
      rw [a, b]; exact ih
theorem PU.put {es : List NEnt} {us : List (NestedKey × Addr × Value)} (h : PU es us) (k : NestedKey) (a : Addr) {v : V} {u : Value} (rv : RelV v u) : PU (putN es k a v) (storedH us k a u) := by
  have e : (atN es k).isSome = (atKey us k).isSome := by rw [(h.at k).isSome_eq, Option.isSome_map]
  unfold putN storedH
  rw [e]
  by_cases q : (atKey us k).isSome = true
  · rw [if_pos q, if_pos q]
    clear q e
    induction h with
    | nil => exact .nil
    | @cons p q ps qs h t ih =>
      rw [List.map_cons, List.map_cons]
      refine .cons ?_ ih
      obtain ⟨h1, h2, h3⟩ := h
      unfold putAt
      by_cases e : p.1 = k
      · rw [if_pos e, if_pos (h1.symm.trans e)]; exact ⟨h1, h2, rv⟩
      · rw [if_neg e, if_neg (fun z => e (h1.trans z))]; exact ⟨h1, h2, h3⟩
  · rw [if_neg q, if_neg q]
    exact Paired.snoc h ⟨rfl, rfl, rv⟩
theorem PU.drop {es : List NEnt} {us : List (NestedKey × Addr × Value)} (h : PU es us) (k : NestedKey) : PU (dropN es k) (withoutH us k) := by
  unfold dropN withoutH
  induction h with
  | nil => exact .nil
  | @cons p q ps qs h t ih =>
    obtain ⟨h1, h2, h3⟩ := h
    rw [List.filter_cons, List.filter_cons]
    by_cases e : p.1 = k
    · have a : ¬ decide (p.1 ≠ k) = true := by simp [e]
      have b : ¬ decide (q.1 ≠ k) = true := by simp [h1.symm.trans e]
      rw [if_neg a, if_neg b]; exact ih
    · have e' : ¬ q.1 = k := fun z => e (h1.trans z)
      have a : decide (p.1 ≠ k) = true := by simp [e]
      have b : decide (q.1 ≠ k) = true := by simp [e']
      rw [if_pos a, if_pos b]; exact .cons ⟨h1, h2, h3⟩ ih
theorem putN_len (es : List NEnt) (k : NestedKey) (a : Addr) (v : V) : (putN es k a v).length ≤ es.length + 1 := by
  unfold putN
  split
  · rw [List.length_map]; omega
  · rw [List.length_append, List.length_cons, List.length_nil]; omega
/-- such a dict -/
def nkO (w : World) (d : Addr) (es : List NEnt) : HO := .ext fun h => es.length ≤ sizeLine ∧ (d == sysModules) = false ∧ ∃ us, PU es us ∧ ∃ o en ep, h.get? d = some o ∧ o.ExactDict ∧ o.data = .dict en ep ∧
  en.toList = us.map (fun u => (⟨u.1.hash w, .ref u.2.1, u.2.2⟩ : DictEntry)) ∧ (us.map (·.1)).Nodup
theorem nkO_ne_tup {w : World} {d : Addr} {es : List NEnt} {xs : List V} : nkO w d es ≠ .tup xs := fun z => by
  have z' : HO.ext _ = HO.tup xs := z
  cases z'
/-- the key's own tuple -/
def KeyT (H : Hp) (k : NestedKey) (a : Addr) : Prop := ∃ xs, H a = some (.tup xs) ∧ xs.all scV = true ∧ k = tupK xs
structure DN (w : World) (H : Hp) (d : Addr) (es : List NEnt) : Prop where
  rd : Rd H d (nkO w d es)
  ks : ∀ e ∈ es, KeyT H e.1 e.2.1
theorem KeyT.mono {H H' : Hp} {k : NestedKey} {a : Addr} (h : KeyT H k a) (s : ∀ b xs, H b = some (.tup xs) → H' b = some (.tup xs)) : KeyT H' k a := h.imp fun _ ⟨e, r⟩ => ⟨s _ _ e, r⟩
section
variable {P : Program} {w : World} {H : Hp} {h : Heap} {a d : Addr} {es : List NEnt}
theorem nested_leaf {x : V} {u : Value} (r : RelV x u) (hs : scV x = true) : NestedIs h (leafK x) u := by
  cases x <;> first
    | (cases r; exact .none)
    | (cases r; exact .bool rfl)
    | (obtain ⟨t, rfl⟩ := r; exact .int _ t)
    | (obtain ⟨t, rfl⟩ := r; exact .text _ t)
    | cases hs
theorem nested_all : ∀ {xs : List V} {us : List Value}, Vals xs us → xs.all scV = true → NestedAll h (xs.map leafK) us
  | _, _, .nil, _ => .nil
  | _, _, .cons r t, hs => by
    rw [List.all_cons, Bool.and_eq_true] at hs
    exact .cons (nested_leaf r hs.1) (nested_all t hs.2)
theorem leaf_depth (x : V) : (leafK x).depth = 0 := by cases x <;> rfl
theorem leaf_depths : ∀ xs : List V, NestedKey.depthAll (xs.map leafK) = 0
  | [] => rfl
  | x :: xs => by rw [List.map_cons, NestedKey.depthAll, leaf_depth, leaf_depths xs]; rfl
theorem KeyT.is {k : NestedKey} (ok : HOk P w H h) (e : KeyT H k a) : (nestedKind P w).is h k a := by
  obtain ⟨xs, e, hs, rfl⟩ := e
  obtain ⟨_, its, r, o, h1, h2, n, h3⟩ := (show ObjOk P w H h a (.tup xs) from ok a _ e)
  refine ⟨.tup h1 h2 h3 (by simpa using nested_all r hs), ?_⟩
  show NestedKey.depthAll (xs.map leafK) + 1 ≤ 8
  rw [leaf_depths]; decide
theorem DN.of (D : DN w H d es) (ok : HOk P w H h) : es.length ≤ sizeLine ∧ (d == sysModules) = false ∧ ∃ us, PU es us ∧ h.DictOfH (nestedKind P w) d us := by
  have x : ObjOk P w H h d (nkO w d es) := D.rd.ok ok
  obtain ⟨⟨z, hd, us, r, o, en, ep, h1, h2, h3, h4, h5⟩, _⟩ := x
  refine ⟨z, hd, us, r, o, en, ep, h1, h2, h3, h4, ?_, h5⟩
  intro x hx
  have all : ∀ {l : List NEnt} {m : List (NestedKey × Addr × Value)}, PU l m → (∀ e ∈ l, KeyT H e.1 e.2.1) → ∀ x ∈ m, (nestedKind P w).is h x.1 x.2.1 := by
    intro l m q
    induction q with
    | nil => intro _ x hx; exact nomatch hx
    | @cons p q ps qs hq t ih =>
      intro hk x hx
      rcases List.mem_cons.mp hx with e | hx
      · subst e
        have := (hk p (List.mem_cons_self ..)).is ok
        rw [hq.1, hq.2.1] at this
        exact this
      · exact ih (fun e he => hk e (List.mem_cons_of_mem _ he)) x hx
  exact all r D.ks x hx
theorem nkO_ok {us : List (NestedKey × Addr × Value)} (z : es.length ≤ sizeLine) (hd : (d == sysModules) = false) (r : PU es us) (dd : h.DictOfH (nestedKind P w) d us) : ObjOk P w H h d (nkO w d es) := by
  obtain ⟨o, en, ep, h1, h2, h3, h4, _, h5⟩ := dd
  exact ⟨⟨z, hd, us, r, o, en, ep, h1, h2, h3, h4, h5⟩, ⟨o, h1⟩, fun g1 g2 ⟨_, _, us', r', o', en', ep', k1, k2, k3, k4, k5⟩ k => ⟨z, hd, us', r', o', en', ep', k _ k1, k2, k3, k4, k5⟩⟩
end
section
variable {X : Cx} {pins : List (Addr × Obj)} {σ : L2.St} {H : Hp} {s : Shared} {d q : Addr} {es : List NEnt} {xs : List V} {A : Around} {E : Value → Shared → Prop}
theorem room_n (hu : A.units + 64 < cLine) : (nestedKind X.prog X.w).room A.in1 := by
  show A.units + 1 + 8 < cLine
  omega
theorem n_getItem {v : V} {Q : Value → Shared → Prop} (hu : A.units + 64 < cLine) (I : Inv X pins σ H s) (D : DN X.w H d es) (hq : KeyT H (tupK xs) q) (e : atN es (tupK xs) = some v) (h : ∀ w' s', Inv X pins σ H s' → RelV v w' → Q w' s') :
    wpAny (model X.prog X.w) A (getItem (.ref d) (.ref q)) Q E s := by
  obtain ⟨z, hd, us, r, dd⟩ := D.of I.hok
  obtain ⟨w', hw, rw'⟩ := RelO.some_of (v := v) (o := (atKey us (tupK xs)).map (·.2)) (by rw [← e]; exact r.at _)
  obtain ⟨p, hp, hp2⟩ := Option.map_eq_some_iff.mp hw
  refine wpAny_getItem_heap (room_n hu) (hq.is I.hok) dd hp ?_
  rw [hp2]
  exact h w' _ (I.tok _) rw'
theorem n_in {Q : Value → Shared → Prop} (hu : A.units + 64 < cLine) (I : Inv X pins σ H s) (D : DN X.w H d es) (hq : KeyT H (tupK xs) q) (h : ∀ s', Inv X pins σ H s' → Q (.bool (atN es (tupK xs)).isSome) s') :
    wpAny (model X.prog X.w) A (compareOp .In (.ref q) (.ref d)) Q E s := by
  obtain ⟨z, hd, us, r, dd⟩ := D.of I.hok
  refine wpAny_in_heap (room_n hu) (hq.is I.hok) hd dd ?_
  have qq := (r.at (tupK xs)).isSome_eq
  rw [Option.isSome_map] at qq
  rw [← qq]
  exact h _ (I.tok _)
theorem n_setItem {v : V} {u : Value} {Q : Unit → Shared → Prop} (hu : A.units + 64 < cLine) (I : Inv X pins σ H s) (D : DN X.w H d es) (e0 : H d = some (nkO X.w d es)) (hq : KeyT H (tupK xs) q) (hl : es.length < sizeLine) (rv : RelV v u)
    (h : ∀ s', Inv X pins σ (upd H d (nkO X.w d (putN es (tupK xs) q v))) s' → Q () s') : wpAny (model X.prog X.w) A (setItem (.ref d) (.ref q) u) Q E s := by
  obtain ⟨z, hd, us, r, dd⟩ := D.of I.hok
  have hz : us.length ≤ sizeLine := by rw [← Paired.length r]; exact z
  refine wpAny_setItem_heap (hsz := hz) (room_n hu) (hq.is I.hok) dd fun h' dd' hs => h _ ?_
  have he : ∃ q, h'.get? d = some q := let ⟨q, _, _, hq, _⟩ := dd'; ⟨q, hq⟩
  exact d_write I (by rw [e0]; exact True.intro) hs he (nkO_ok (Nat.le_trans (putN_len ..) hl) hd (r.put _ _ rv) dd')
theorem n_delItem {Q : Unit → Shared → Prop} (hu : A.units + 64 < cLine) (I : Inv X pins σ H s) (D : DN X.w H d es) (e0 : H d = some (nkO X.w d es)) (hq : KeyT H (tupK xs) q) (e : (atN es (tupK xs)).isSome = true)
    (h : ∀ s', Inv X pins σ (upd H d (nkO X.w d (dropN es (tupK xs)))) s' → Q () s') : wpAny (model X.prog X.w) A (delItem (.ref d) (.ref q)) Q E s := by
  obtain ⟨z, hd, us, r, dd⟩ := D.of I.hok
  have hz : us.length ≤ sizeLine := by rw [← Paired.length r]; exact z
  have qq := (r.at (tupK xs)).isSome_eq
  rw [Option.isSome_map, e] at qq
  obtain ⟨p, hp⟩ := Option.isSome_iff_exists.mp qq.symm
  refine wpAny_delItem_heap (hsz := hz) (room_n hu) (hq.is I.hok) hd dd hp fun h' dd' hs => h _ ?_
  have he : ∃ q, h'.get? d = some q := let ⟨q, _, _, hq, _⟩ := dd'; ⟨q, hq⟩
  exact d_write I (by rw [e0]; exact True.intro) hs he (nkO_ok (Nat.le_trans (List.length_filter_le _ _) z) hd (r.drop _) dd')
end
/-! ### readings and rules -/
def isKey (H : Hp) (q : Addr) (xs : List V) : Prop := H q = some (.tup xs) ∧ xs.all scV = true
theorem isKey.t {H : Hp} {q : Addr} {xs : List V} (h : isKey H q xs) : KeyT H (tupK xs) q := ⟨xs, h.1, h.2, rfl⟩
def fGetN (w : World) (td ty : TE) : TE := fun σ H Q => td σ H fun x H1 => ty σ H1 fun y H2 => match x, y with
  | .ref d, .ref q => ∃ es xs v, DN w H2 d es ∧ isKey H2 q xs ∧ atN es (tupK xs) = some v ∧ Q v H2
  | _, _ => False
def fInN (w : World) (ty td : TE) : TE := fun σ H Q => ty σ H fun y H1 => td σ H1 fun x H2 => match x, y with
  | .ref d, .ref q => ∃ es xs, DN w H2 d es ∧ isKey H2 q xs ∧ Q (.bl (atN es (tupK xs)).isSome) H2
  | _, _ => False
def sPutN (w : World) (td ty tv : TE) : TS := fun D σ H => tv σ H fun v H1 => td σ H1 fun x H2 => ty σ H2 fun y H3 => match x, y with
  | .ref d, .ref q => ∃ es xs, DN w H3 d es ∧ H3 d = some (nkO w d es) ∧ isKey H3 q xs ∧ es.length < sizeLine ∧ D.nx σ (upd H3 d (nkO w d (putN es (tupK xs) q v)))
  | _, _ => False
def sDelN (w : World) (td ty : TE) : TS := fun D σ H => td σ H fun x H1 => ty σ H1 fun y H2 => match x, y with
  | .ref d, .ref q => ∃ es xs, DN w H2 d es ∧ H2 d = some (nkO w d es) ∧ isKey H2 q xs ∧ (atN es (tupK xs)).isSome = true ∧ D.nx σ (upd H2 d (nkO w d (dropN es (tupK xs))))
  | _, _ => False
def fNewN (w : World) : TE := fun _ H Q => ∀ p H2, H p = none → Same H H2 → H2 p = some (nkO w p []) → Q (.ref p) H2
def fLenN (w : World) : List V → Hp → VK → Prop := fun xs H Q => match xs with
  | [.ref d] => ∃ es, DN w H d es ∧ Q (.int es.length) H
  | _ => False
section
variable {X : Cx} {o i e value : Expr} {pos pos' tpos : Pos} {td ty tv : TE}
theorem pe_getN {w : World} (hw : X.w = w) (hu : X.A.units + 64 < cLine) (ho : PE X o td) (hi : PE X i ty) (hs : NoSl i) : PE X (.Subscript o i pos) (fGetN w td ty) := by
  subst hw
  refine ⟨fun pins s σ H Q I h => ?_⟩
  refine subD_of PySem.F.slot_dict_getitem.lookup hs (thn (ho.run pins s σ H _ I h) fun u s1 ⟨x, H1, I1, rx, q1⟩ => thn (hi.run pins s1 σ H1 _ I1 q1) fun iv s2 ⟨y, H2, I2, ry, q2⟩ => ?_)
  match x, y, rx, ry, q2 with
  | .ref d, .ref q, rx, ry, ⟨es, xs, v, D, kq, ev, q2⟩ =>
    obtain rfl : u = Value.ref d := rx
    obtain rfl : iv = Value.ref q := ry
    obtain ⟨_, _, us, _, dd⟩ := D.of I2.hok
    exact ⟨dd.typeIs, n_getItem hu I2 D kq.t ev fun w' s3 I3 rw' => ⟨v, H2, I3, rw', q2⟩⟩
theorem pc_inN {w : World} (hw : X.w = w) (hu : X.A.units + 64 < cLine) (hi : PE X i ty) (ho : PE X o td) : PC X .In i o (fInN w ty td) := by
  subst hw
  refine ⟨fun pins s σ H Q I h => ?_⟩
  refine thn (hi.run pins s σ H _ I h) fun iv s1 ⟨y, H1, I1, ry, q1⟩ => thn (ho.run pins s1 σ H1 _ I1 q1) fun u s2 ⟨x, H2, I2, rx, q2⟩ => ?_
  match x, y, rx, ry, q2 with
  | .ref d, .ref q, rx, ry, ⟨es, xs, D, kq, q2⟩ =>
    obtain rfl : u = Value.ref d := rx
    obtain rfl : iv = Value.ref q := ry
    exact n_in hu I2 D kq.t fun s3 I3 => ⟨.bl _, H2, I3, rfl, q2⟩
theorem ps_putN {w : World} (hw : X.w = w) (hu : X.A.units + 64 < cLine) (ho : PE X o td) (hi : PE X i ty) (hv : PE X value tv) (hs : swapsWith value (some (.Subscript o i pos')) pos.line X.env = pure false) :
    PS X (.Assign [.Subscript o i pos'] value pos) (sPutN w td ty tv) := by
  subst hw
  refine ⟨fun pins s σ H D I h => ?_⟩
  refine wpAny_Assign_Subscript (thn (hv.run pins s σ H _ I h) fun r s1 ⟨v, H1, I1, rv, q1⟩ => thn (ho.run pins s1 σ H1 _ I1 q1) fun u s2 ⟨x, H2, I2, rx, q2⟩ => thn (hi.run pins s2 σ H2 _ I2 q2) fun iv s3 ⟨y, H3, I3, ry, q3⟩ => ?_) hs
  match x, y, rx, ry, q3 with
  | .ref d, .ref q, rx, ry, ⟨es, xs, Dn, e0, kq, hl, q3⟩ =>
    obtain rfl : u = Value.ref d := rx
    obtain rfl : iv = Value.ref q := ry
    exact n_setItem hu I3 Dn e0 kq.t hl rv fun s4 I4 => ⟨σ, _, I4, q3⟩
theorem ps_delN {w : World} (hw : X.w = w) (hu : X.A.units + 64 < cLine) (ho : PE X o td) (hi : PE X i ty) : PS X (.Delete [.Subscript o i tpos] pos) (sDelN w td ty) := by
  subst hw
  refine ⟨fun pins s σ H D I h => ?_⟩
  refine wpAny_Delete (wpAny_deleteEach_cons (wpAny_delete_Subscript (thn (ho.run pins s σ H _ I h) fun u s1 ⟨x, H1, I1, rx, q1⟩ => thn (hi.run pins s1 σ H1 _ I1 q1) fun iv s2 ⟨y, H2, I2, ry, q2⟩ => ?_)))
  match x, y, rx, ry, q2 with
  | .ref d, .ref q, rx, ry, ⟨es, xs, Dn, e0, kq, l, q2⟩ =>
    obtain rfl : u = Value.ref d := rx
    obtain rfl : iv = Value.ref q := ry
    exact n_delItem hu I2 Dn e0 kq.t l fun s3 I3 => wpAny_deleteEach_nil ⟨σ, _, I3, q2⟩
theorem pe_newN {w : World} (hw : X.w = w) : PE X (.Dict [] [] pos) (fNewN w) := by
  subst hw
  refine ⟨fun pins s σ H Q I h => ?_⟩
  refine wpAny_Dict_empty ?_
  have hf : H s.heap.objs.size = none := I.hok.fresh (Nat.le_refl _)
  refine ⟨.ref s.heap.objs.size, upd H s.heap.objs.size (nkO X.w s.heap.objs.size []), I.laid (t' := s.toks) (fun b u e => Heap.get?_push_of_some _ e) (Nat.le_refl _) ?_, rfl, h _ _ hf (same_new hf) upd_same⟩
  exact nkO_ok (us := []) (Nat.zero_le _) (beq_eq_false_iff_ne.mpr (Ne.symm (Nat.ne_of_lt I.big))) .nil (Heap.DictOfH.new _)
theorem call_fLenN {w : World} (hw : X.w = w) : CallR X (.builtin "len") (fLenN w) := by
  subst hw
  intro pins s σ H xs us Q I r h
  match xs, r, h with
  | [.ref d], r, ⟨es, D, q⟩ =>
    obtain ⟨u, rfl, rx⟩ := vals1 r
    obtain rfl : u = .ref d := rx
    obtain ⟨z, hd, ys, rel, dd⟩ := D.of I.hok
    have hl : es.length = ys.length := Paired.length rel
    refine call_len_dictH hd dd (by rw [← hl]; rw [sizeLine_eq] at z; omega) ?_
    rw [← hl]
    exact ⟨.int ((es.length : Nat) : Int), H, I.tok _, ⟨_, rfl⟩, q⟩
end
/-! ### its keys, walked (the dict locked) -/
def Itn (w : World) (d : Addr) (o : Obj) (es : List NEnt) : It :=
  ⟨fun i H => H d = some (.frz o (nkO w d es)) ∧ i < es.length, fun i H x H' => H' = H ∧ ∃ e, es[i]? = some e ∧ x = .ref e.2.1, fun i H => H d = some (.frz o (nkO w d es)) ∧ es.length ≤ i⟩
theorem Inv.frzN {X : Cx} {pins : List (Addr × Obj)} {σ : L2.St} {H : Hp} {s : Shared} {d : Addr} {o : Obj} {es : List NEnt} (I : Inv X pins σ H s) (h : H d = some (.frz o (nkO X.w d es))) :
    (d == sysModules) = false ∧ s.heap.get? d = some o ∧ o.ExactDict ∧ ∃ (en : Array DictEntry) (ep : Nat), o.data = .dict en ep ∧ en.size = es.length ∧
      ∀ (i : Nat) (e : NEnt), es[i]? = some e → ∃ (x : DictEntry), en[i]? = some x ∧ x.key = .ref e.2.1 := by
  obtain ⟨hd, ⟨z, hs, us, r, o', en, ep, ho, hx, hdt, he, _⟩, _⟩ := I.hok d _ h
  rw [hd] at ho
  cases ho
  refine ⟨hs, hd, hx, en, ep, hdt, ?_, fun i e hi => ?_⟩
  · have l1 : en.toList.length = us.length := by rw [he, List.length_map]
    have l2 : es.length = us.length := Paired.length r
    rw [Array.length_toList] at l1
    omega
  · obtain ⟨b, hb, e1, e2, _⟩ := paired_get r hi
    refine ⟨⟨b.1.hash X.w, .ref b.2.1, b.2.2⟩, ?_, by rw [e2]⟩
    rw [← Array.getElem?_toList, he, List.getElem?_map, hb]
    rfl
theorem turn_keysN {P : Program} {w : World} {K : PySem.W.Frag} {tg : Expr} {d : Addr} {o : Obj} {en : Array DictEntry} {ep : Nat} {es : List NEnt} (it : Addr) (hod : o.data = .dict en ep) : Turn P w K tg (Itn w d o es) [it] it (fun i h => h.IsKeyIter it d i es.length ep) where
  mem := by simp
  obj := fun i h st b hb => by
    have e : b = it := by simpa using hb
    subst e
    obtain ⟨oi, e, c, dd⟩ := st
    exact ⟨oi, e, fun v z => by rw [dd] at z; cases z⟩
  keep := fun i h h' st k => st.at fun oi e => k it (by simp) oi e
  item := by
    intro X hP hw hK hc i pins s σ H E I hf st hg
    subst hP hw hK
    obtain ⟨hd, hi⟩ := hg
    obtain ⟨f0, f1, f2, f3, f4, f5⟩ := hf it (by simp)
    obtain ⟨hs, hgd, hx, es', ep', hdt, hsz, ent⟩ := Inv.frzN I hd
    obtain ⟨rfl, rfl⟩ := dict_ep hod hdt
    obtain ⟨e, he⟩ : ∃ p, es[i]? = some p := ⟨es[i], List.getElem?_eq_getElem hi⟩
    obtain ⟨x, hen, hkey⟩ := ent i e he
    refine next_key_item st hgd hdt hsz hen fun h' st' sb => ?_
    have I1 : Inv X pins σ H { s with heap := h' } := I.turned (t' := s.toks) (fun b ob hb e => (sb.2 b hb).trans e) f0 f1 f3 f4 f5
    obtain ⟨oi, e', c, dd⟩ := id st'
    exact ⟨x.key, rfl, go_of (s := { s with heap := h' }) e' c dd (by decide) ⟨.ref e.2.1, H, I1, hkey, ⟨rfl, e, he, rfl⟩, st', fun b hb => (hf b hb).1⟩⟩
  done := by
    intro X hP hw hK hc i pins s σ H E I hf st hg
    subst hP hw hK
    obtain ⟨hd, hi⟩ := hg
    obtain ⟨f0, f1, f2, f3, f4, f5⟩ := hf it (by simp)
    obtain ⟨hs, hgd, hx, es', ep', hdt, hsz, ent⟩ := Inv.frzN I hd
    obtain ⟨rfl, rfl⟩ := dict_ep hod hdt
    exact next_key_end (I.ok.hd hc) st hgd hdt hsz hi fun h' eb => ⟨rfl, I.turned (t' := s.toks) (fun b ob hb e => eb b ob hb e) f0 f1 f3 f4 f5⟩
  self := fun A i s Q E st h => by
    refine wpAny_pyIter_slot st.typeIs F.slot_dict_keyiterator_iter (wpAny_call_entry F.slot_dict_keyiterator_iter st.typeIs F.entry_dict_keyiterator_iter ?_ (F.args_dict_keyiterator_iter_1 _))
    show wpAny _ _ (ret (.ref it)) _ _ s
    exact wpAny_pure ⟨_, rfl, "dict_keyiterator", _, st.typeIs, F.slot_dict_keyiterator_next.lookup, h⟩
def iKeysN (w : World) (td : TE) : TI := fun σ H R => td σ H fun x H1 => match x with
  | .ref d => ∃ o es, H1 d = some (.frz o (nkO w d es)) ∧ R (Itn w d o es) H1
  | _ => False
theorem walk_keysN {w : World} {d : Addr} {o : Obj} {es : List NEnt} : Walk (Itn w d o es) es.length (fun H => H d = some (.frz o (nkO w d es))) (fun i H x H' => H' = H ∧ ∃ e, es[i]? = some e ∧ x = .ref e.2.1) :=
  ⟨fun _ _ hi q => ⟨q, hi⟩, fun _ q => ⟨q, Nat.le_refl _⟩, fun _ _ _ _ _ _ y => y⟩
section
variable {X : Cx} {tg e : Expr} {td : TE}
theorem pi_keysN {w : World} (hw : X.w = w) (he : PE X e td) : PI X tg e (iKeysN w td) := by
  subst hw
  refine ⟨fun pins s σ H R I h => ?_⟩
  refine thn (he.run pins s σ H _ I h) fun u s1 ⟨x, H1, I1, rx, q⟩ => ?_
  match x, rx, q with
  | .ref d, rx, ⟨o, es, hd, q⟩ =>
    obtain rfl : u = Value.ref d := rx
    obtain ⟨hs, hgd, hx, en, ep, hdt, hsz, ent⟩ := Inv.frzN I1 hd
    refine iter_keys hs hgd hx hdt (pi_one (tk := s1.toks) I1 _ (turn_keysN _ hdt) ⟨_, Heap.get?_push_size _ rfl, rfl, ?_⟩ q)
    rw [hsz] <;> rfl
end
theorem lcx_keysN {w : World} {d0 : Addr} {o : Obj} {es : List NEnt} {g : TG} {tt : TT} {te : TE} {vs : List Nat} {σ : L2.St} {H1 : Hp} {D : Addr} {Q : VK} (Pv : Nat → Hp → Prop) (h0 : Pv 0 (upd H1 D (.lst []))) (hl : ∀ i H, i ≤ es.length → Pv i H → H d0 = some (.frz o (nkO w d0 es)))
    (hs : ∀ i x H, es[i]? = some x → Pv i H → g (.ref x.2.1) (wipe σ vs) H fun σ2 H2 => wipe σ2 vs = wipe σ vs ∧ tt σ2 H2 fun b H3 =>
      if b = true then te σ2 H3 fun y H4 => ∃ acc, H4 D = some (.lst acc) ∧ acc.length < sizeLine ∧ Pv (i + 1) (upd H4 D (.lst (acc ++ [y]))) else Pv (i + 1) H3) (hd : ∀ H, Pv es.length H → Q (.ref D) H) : Lc (Itn w d0 o es) g tt te vs σ H1 D Q :=
  lc_it walk_keysN Pv h0 hl (fun i x H H' hi p y => by
    obtain ⟨rfl, e, he, rfl⟩ := y
    exact hs i e _ he p) hd
/-! ### properties -/
structure HasP (P : Program) (w : World) (K : PySem.W.Frag) (mg : Str → Option Value) (base : Heap) (CX : CXT) (C : Addr) (x : Str) (k : Nat) (ps : List Str) (sp : Sp) : Prop where
  ex : ∃ (p g : Addr) (fd : FuncData), PropOf K C x p g ∧ FnOk P w K mg base CX k g fd ps sp ∧ Binds K fd ps []
/-- a property's getter as it stands -/
structure AtP (K : PySem.W.Frag) (C : Addr) (x qual : Str) (st : Stmt) (ps : List Str) : Prop where
  ex : ∃ (p g : Addr) (fd : FuncData), Fun K x qual st g fd ∧ Binds K fd ps [] ∧ PropOf K C x p g
structure PFact (K : PySem.W.Frag) (C : Addr) (x qual : Str) (st : Stmt) : Prop where
  ex : ∃ (p f : Addr) (oc : Value) (od an : Option Addr) (sl : Array (Option Value)) (kV dc pm cd ct : Value),
    PropOf K C x p f ∧ K.lookup f = some ⟨oc, od, .func (PySem.W.fnOf x qual (defArgs st) (defBody st) (defScope st) .none kV dc pm an cd ct), sl⟩ ∧ PySem.W.codeIn K cd qual = true ∧ PySem.W.keepIn K (.ref f) = true
theorem PFact.of {K : PySem.W.Frag} {C : Addr} {x qual : Str} {st : Stmt} {p f : Addr} {oc : Value} {od an : Option Addr} {sl : Array (Option Value)} {kV dc pm cd ct : Value} {rest : List Value}
    (a : PySem.W.findIn K (.ref C) x = some (some (.ref p))) (g : PySem.W.specialIn K (.ref p) "__get__" = some (some (.builtin "property.__get__"))) (t : PySem.W.takesIn K (.ref p) = some true) (r : PySem.W.recIn K p "property" = some (.ref f :: rest))
    (l : K.lookup f = some ⟨oc, od, .func (PySem.W.fnOf x qual (defArgs st) (defBody st) (defScope st) .none kV dc pm an cd ct), sl⟩)
    (c : PySem.W.codeIn K cd qual = true) (k : PySem.W.keepIn K (.ref f) = true) : PFact K C x qual st := ⟨p, f, oc, od, an, sl, kV, dc, pm, cd, ct, ⟨a, g, t, rest, r⟩, l, c, k⟩
theorem AtP.of {K : PySem.W.Frag} {C : Addr} {x qual : Str} {st : Stmt} {ps : List Str} (F : PFact K C x qual st)
    (hb : ∀ (kV doc pm : Value) (an : Option Addr) (cdv ct : Value) (us : List Value), us.length = ps.length → bindArgs (PySem.W.fnOf x qual (defArgs st) (defBody st) (defScope st) .none kV doc pm an cdv ct) ⟨us, []⟩ = pure (ps.zip us)) : AtP K C x qual st ps := by
  obtain ⟨p, f, oc, od, an, sl, kV, dc, pm, cd, ct, pr, l, c, k⟩ := F.ex
  have F1 := fun_mk (st := st) l c k
  exact ⟨_, _, _, F1, F1.binds hb, pr⟩
theorem hasP_of {P : Program} {w : World} {K : PySem.W.Frag} {mg : Str → Option Value} {base : Heap} {C : Addr} {x qual : Str} {st : Stmt} {N ps : List Str} {k : Nat} {sp : Sp} (A : AtP K C x qual st ps) (S : FnScope N ps (defScope st)) (len : ∀ vs H Q E, sp vs H Q E → vs.length = ps.length)
    (hbody : ∀ (cdv : Value) (f : Addr) (A : Around) (outer : List Env) (s : Shared) (H : Hp) (vs : List V) (Q : VK) (E : XK), Room k (A.deeper (envOfC qual (defScope st) s.heap.objs.size f cdv)) → sp vs H Q E →
      ∃ t, PSs (cxOf CX0 P w K mg base N qual (defScope st) f cdv A outer s H E).nox (defBody st) t ∧ t { nx := fun _ H' => Q .non H', rt := Q } (start N vs) H) : HasP P w K mg base CX0 C x (k + 1) ps sp := by
  obtain ⟨p, f, fd, F, B, G⟩ := A.ex
  exact ⟨p, f, fd, G, F.ok S len fun cdv A outer s H vs Q E hr h => hbody cdv f A outer s H vs Q E hr h, B⟩
def fProp (C : Addr) (sp : Sp) (E : XK) (ta : TE) : TE := fun σ H Q => ta σ H fun x H1 => match x with
  | .ref a => match H1 a with
    | some (.ins D _ _) => D = C ∧ sp [.ref a] H1 Q E
    | _ => False
  | _ => False
theorem fe_prop {X : Cx} {CX : CXT} {k : Nat} {C : Addr} {x : Str} {ps : List Str} {sp : Sp} {E : XK} {e : Expr} {pos : Pos} {ta : TE} (h : HasP X.prog X.w X.K X.mg X.base CX C x k ps sp) (c : Cls X.K C) (hr : Room (k + 1) X.A) (hx : Passes CX X.nox E) (he : PE X e ta)
    (hab : attributeBase e x X.env (eval e X.env) = eval e X.env) : PE X (.Attribute e x pos) (fProp C sp E ta) := by
  obtain ⟨p, g, fd, hp, F, B⟩ := h.ex
  refine pe_wk (pe_prop (pe_clos he) c hp F hr B .nil hx hab) fun σ H Q q => ⟨_, q, fun y H1 q1 => ?_⟩
  match y, q1 with
  | .ref a, q1 =>
    dsimp only at q1
    split at q1
    · obtain ⟨h1, q2⟩ := q1
      rename_i D dx fs ea
      subst h1
      exact ⟨_, _, _, rfl, ea, q2⟩
    · exact q1.elim
end Fx

set_option Elab.async false
set_option linter.all false
set_option maxRecDepth 100000
/-! Mr: list methods, dicts with text keys, exceptions as values, by value, over Tb. -/
namespace Fx
open PySem PySem.Spec PyProof.Rows L2
section
variable {X : Cx}
/-! ### list methods -/
def fPop : V → List V → Hp → VK → Prop := fun x vs H Q => match x, vs with
  | .ref l, [] => match H l with
    | some (.lst xs) => ∃ y, xs[xs.length - 1]? = some y ∧ Q y (upd H l (.lst xs.dropLast))
    | _ => False
  | _, _ => False
theorem mt_fPop : MtR X "list.pop" fPop := by
  intro pins s σ H x xs v us Q I rx rs h
  unfold fPop at h
  split at h
  · split at h
    · obtain ⟨y, h1, h2⟩ := h
      exact mt_pop pins s σ H _ _ v us Q I rx rs ⟨_, _, y, rfl, rfl, by assumption, h1, h2⟩
    · exact h.elim
  · exact h.elim
def fPopAt : V → List V → Hp → VK → Prop := fun x vs H Q => match x, vs with
  | .ref l, [.int i] => match H l with
    | some (.lst xs) => ∃ k y, ixN xs.length i = some k ∧ xs[k]? = some y ∧ xs.length ≤ 100000 ∧ Q y (upd H l (.lst (xs.eraseIdx k)))
    | _ => False
  | _, _ => False
theorem mt_fPopAt : MtR X "list.pop" fPopAt := by
  intro pins s σ H x xs v us Q I rx rs h
  unfold fPopAt at h
  split at h
  · split at h
    · obtain ⟨k, y, h1, h2, h4, h3⟩ := h
      obtain ⟨e, _, lo, hi⟩ := ixN_seq h1
      exact mt_popAt pins s σ H _ _ v us Q I rx rs ⟨_, _, _, k, y, rfl, rfl, by assumption, by omega, by omega, e, h2, h3⟩
    · exact h.elim
  · exact h.elim
def fReverse : V → List V → Hp → VK → Prop := fun x vs H Q => match x, vs with
  | .ref l, [] => match H l with
    | some (.lst xs) => Q .non (upd H l (.lst xs.reverse))
    | _ => False
  | _, _ => False
theorem mt_fReverse : MtR X "list.reverse" fReverse := by
  intro pins s σ H x xs v us Q I rx rs h
  unfold fReverse at h
  split at h
  · split at h
    · exact mt_reverse pins s σ H _ _ v us Q I rx rs ⟨_, _, rfl, rfl, by assumption, h⟩
    · exact h.elim
  · exact h.elim
def fExtend : V → List V → Hp → VK → Prop := fun x vs H Q => match x, vs with
  | .ref l, [.ref b] => match H l, H b with
    | some (.lst xs), some (.lst zs) => xs.length + zs.length ≤ sizeLine ∧ Q .non (upd H l (.lst (xs ++ zs)))
    | _, _ => False
  | _, _ => False
theorem mt_fExtend : MtR X "list.extend" fExtend := by
  intro pins s σ H x xs v us Q I rx rs h
  unfold fExtend at h
  split at h
  · split at h
    · exact mt_extend pins s σ H _ _ v us Q I rx rs ⟨_, _, _, _, rfl, rfl, by assumption, by assumption, h⟩
    · exact h.elim
  · exact h.elim
def fInsert : V → List V → Hp → VK → Prop := fun x vs H Q => match x, vs with
  | .ref l, [.int i, y] => match H l with
    | some (.lst xs) => xs.length < sizeLine ∧ 0 ≤ i ∧ i < 2 ^ 63 ∧ Q .non (upd H l (.lst (xs.take i.toNat ++ [y] ++ xs.drop i.toNat)))
    | _ => False
  | _, _ => False
theorem mt_fInsert : MtR X "list.insert" fInsert := by
  intro pins s σ H x xs v us Q I rx rs h
  unfold fInsert at h
  split at h
  · split at h
    · exact mt_insert pins s σ H _ _ v us Q I rx rs ⟨_, _, _, _, rfl, rfl, by assumption, h⟩
    · exact h.elim
  · exact h.elim
/-! ### dicts with text (and number) keys -/
def keyV : V → Option Key
  | .int i => some (.inl i)
  | .str z => some (.inr z)
  | _ => none
theorem keyV_kV {x : V} {k : Key} (h : keyV x = some k) : x = kV k := by
  cases x <;> first
    | (cases h; rfl)
    | cases h
def fGetK (td ty : TE) : TE := fun σ H Q => td σ H fun x H1 => ty σ H1 fun y H2 => match x, keyV y with
  | .ref a, some k => ∃ kvs v, Rd H2 a (.dK kvs) ∧ valV kvs k = some v ∧ Q v H2
  | _, _ => False
def fInK (neg : Bool) (ty td : TE) : TE := fun σ H Q => ty σ H fun y H1 => td σ H1 fun x H2 => match x, keyV y with
  | .ref a, some k => ∃ kvs, Rd H2 a (.dK kvs) ∧ Q (.bl (if neg = true then !(valV kvs k).isSome else (valV kvs k).isSome)) H2
  | _, _ => False
def sPutK (td ty tv : TE) : TS := fun D σ H => tv σ H fun v H1 => td σ H1 fun x H2 => ty σ H2 fun y H3 => match x, keyV y with
  | .ref a, some k => ∃ kvs, H3 a = some (.dK kvs) ∧ kvs.length < sizeLine ∧ D.nx σ (upd H3 a (.dK (putK kvs k v)))
  | _, _ => False
def sDelK (td ty : TE) : TS := fun D σ H => td σ H fun x H1 => ty σ H1 fun y H2 => match x, keyV y with
  | .ref a, some k => ∃ kvs, H2 a = some (.dK kvs) ∧ (valV kvs k).isSome = true ∧ D.nx σ (upd H2 a (.dK (dropK kvs k)))
  | _, _ => False
section
variable {o i value : Expr} {pos pos' tpos : Pos} {td ty tv : TE}
theorem pe_getK (hu : X.A.units + 1 < cLine) (ho : PE X o td) (hi : PE X i ty) (hs : NoSl i) : PE X (.Subscript o i pos) (fGetK td ty) :=
  pe_wk (pe_dget hu (pe_clos ho) (pe_clos hi) hs) fun σ H Q q => ⟨_, q, fun x H1 q => ⟨_, q, fun y H2 q => by
    split at q
    · obtain ⟨kvs, v, r, hv, q⟩ := q
      exact ⟨_, v, rfl, .inl ⟨kvs, _, r, keyV_kV (by assumption), hv.symm⟩, q⟩
    · exact q.elim⟩⟩
theorem pc_wk {op : CmpOp} {a b : Expr} {t t' : TE} (h : PC X op a b t) (w : ∀ σ H Q, t' σ H Q → t σ H Q) : PC X op a b t' := ⟨fun pins s σ H Q I q => h.run pins s σ H Q I (w σ H Q q)⟩
theorem pc_inK (hu : X.A.units + 1 < cLine) (hi : PE X i ty) (ho : PE X o td) : PC X .In i o (fInK false ty td) :=
  pc_wk (pc_din hu (pe_clos hi) (pe_clos ho)) fun σ H Q q => ⟨_, q, fun y H1 q => ⟨_, q, fun x H2 q => by
    split at q
    · obtain ⟨kvs, r, q⟩ := q
      exact ⟨_, _, rfl, .inl ⟨kvs, _, r, keyV_kV (by assumption), rfl⟩, q⟩
    · exact q.elim⟩⟩
theorem pc_notinK (hu : X.A.units + 1 < cLine) (hi : PE X i ty) (ho : PE X o td) : PC X .NotIn i o (fInK true ty td) :=
  pc_wk (pc_dnotin hu (pe_clos hi) (pe_clos ho)) fun σ H Q q => ⟨_, q, fun y H1 q => ⟨_, q, fun x H2 q => by
    split at q
    · obtain ⟨kvs, r, q⟩ := q
      exact ⟨_, _, rfl, .inl ⟨kvs, _, r, keyV_kV (by assumption), rfl⟩, q⟩
    · exact q.elim⟩⟩
theorem ps_putK (hu : X.A.units + 1 < cLine) (ho : PE X o td) (hi : PE X i ty) (hv : PE X value tv) (hs : swapsWith value (some (.Subscript o i pos')) pos.line X.env = pure false) :
    PS X (.Assign [.Subscript o i pos'] value pos) (sPutK td ty tv) :=
  ps_wk (ps_dput hu (pe_clos ho) (pe_clos hi) (pe_clos hv) hs) fun D σ H q => ⟨_, q, fun v H1 q => ⟨_, q, fun x H2 q => ⟨_, q, fun y H3 q => by
    split at q
    · obtain ⟨kvs, h1, h2, q⟩ := q
      exact ⟨_, _, rfl, .inl ⟨kvs, _, h1, keyV_kV (by assumption), h2, rfl⟩, q⟩
    · exact q.elim⟩⟩⟩
theorem ps_delK (ho : PE X o td) (hi : PE X i ty) : PS X (.Delete [.Subscript o i tpos] pos) (sDelK td ty) :=
  ps_wk (ps_ddel (pe_clos ho) (pe_clos hi)) fun D σ H q => ⟨_, q, fun x H1 q => ⟨_, q, fun y H2 q => by
    split at q
    · obtain ⟨kvs, h1, h2, q⟩ := q
      exact ⟨_, kvs, _, rfl, h1, keyV_kV (by assumption), h2, q⟩
    · exact q.elim⟩⟩
end
/-- list(d): the keys -/
def fListD : List V → Hp → VK → Prop := fun xs H Q => match xs with
  | [.ref a] => ∃ kvs, Rd H a (.dK kvs) ∧ ∀ p H1, H p = none → Same H H1 → H1 p = some (.lst (kvs.map fun kv => kV kv.1)) → Q (.ref p) H1
  | _ => False
theorem call_fListD (hc : X.calm = true) : CallR X (.type "list") fListD := by
  intro pins s σ H xs us Q I r h
  match xs, r, h with
  | [.ref a], r, ⟨kvs, h1, h2⟩ => exact call_listD hc pins s σ H _ us Q I r ⟨a, kvs, rfl, h1, fun p np => h2 p _ np (same_new np) upd_same⟩
/-! ### exceptions as values -/
def fMkV (C : Addr) (n : Nat) (flds : List V → List (Str × V)) (ta : TA) : TE := fun σ H Q => ta σ H fun vs H1 => vs.length = n ∧ ∀ a d H2, H1 a = none → H1 d = none → Same H1 H2 → H2 a = some (exo a C (some d)) → H2 d = some (exd d (flds vs)) → Q (.ref a) H2
theorem fe_mkV {C : Addr} {x : Str} {n : Nat} {flds : List V → List (Str × V)} {p pos : Pos} {e : Expr} {es : List Expr} {ta : TA} (h : HasE X.prog X.w X.K X.mg X.base C x n flds) (hn : n ≤ 1000) (hr : Room 2 X.A) (hg : Gl X x) (ha : PA X (e :: es) ta) (hdb : (x == ("__debug__" : Str)) = false := by decide)
    (he : starEach (e :: es) X.env = (false, eval e X.env) :: starEach es X.env := by rfl) (hpl : (backTo pos (starEach es X.env)).any (·.1) = false := by rfl) : PE X (.Call (.Name x p) (e :: es) [] pos) (fMkV C n flds ta) := by
  obtain ⟨f, fd, ps, F1, hb, iC, tI, hm, T⟩ := h.ex
  refine ⟨fun pins s σ H Q I h => ?_⟩
  obtain ⟨nm, q, N, bs, bm, sn, sub, ab, col, dd, k0, k1, k2, k3, k5, hC, hbm⟩ := T.cls
  refine wpAny_Call_Name_kw (ld_glob I hg hm ?_ hdb)
  refine PySem.W.callWith_K (h₀ := X.base) I.ok.mod.kin T.kC (thn (ha.run pos pins s σ H _ I h) fun us s1 ⟨vs, H1, I1, r1, hz, q1⟩ => ⟨I1.kIn, ?_⟩) he hpl
  show wpAny _ _ (call (.ref C) us) _ _ _
  obtain ⟨hp, g, dr, tk, os⟩ := s1
  have hsz : hp.objs.size ≤ hp.objs.size + 1 := Nat.le_succ _
  have hn1 : H1 (hp.objs.size + 1) = none := I1.hok.fresh hsz
  have hq : spInitE C n flds (V.ref (hp.objs.size + 1) :: vs) (upd H1 (hp.objs.size + 1) (exo (hp.objs.size + 1) C none)) (fun v H2 => v = .non ∧ Q (.ref (hp.objs.size + 1)) H2) (fun _ _ _ => False) :=
    ⟨_, vs, H1, rfl, hz, hn1, rfl, fun d H2 nd ne keep ea ed => ⟨rfl, q1 _ d H2 hn1 nd keep ea ed⟩⟩
  have kk : ∀ b o, hp.get? b = some o → ((hp.push (PySem.W.kdv_tup us)).push (PySem.HandSPX.excO C hp.objs.size)).get? b = some o := fun b o e => Heap.get?_push_of_some _ (Heap.get?_push_of_some _ e)
  have hget : ((hp.push (PySem.W.kdv_tup us)).push (PySem.HandSPX.excO C hp.objs.size)).get? (hp.objs.size + 1) = some (PySem.HandSPX.excO C hp.objs.size) := by heap_get
  have I2 : Inv X pins σ (upd H1 (hp.objs.size + 1) (exo (hp.objs.size + 1) C none)) ⟨(hp.push (PySem.W.kdv_tup us)).push (PySem.HandSPX.excO C hp.objs.size), g, dr, tk, os⟩ :=
    I1.laid (t' := tk) (a := hp.objs.size + 1) (o := exo (hp.objs.size + 1) C none) (h' := (hp.push (PySem.W.kdv_tup us)).push (PySem.HandSPX.excO C hp.objs.size)) kk hsz (exo_ok hget)
  have r2 : Vals (V.ref (hp.objs.size + 1) :: vs) (Value.ref (hp.objs.size + 1) :: us) := .cons rfl r1
  have hl : (Value.ref (hp.objs.size + 1) :: us).length = ps.length := by
    have e := r2.length
    rw [F1.len _ _ _ _ hq] at e
    exact e.symm
  have hus : us.length ≤ sizeLine := by
    rw [← Paired.length r1, sizeLine_eq]
    omega
  have hb' := hb ⟨(hp.push (PySem.W.kdv_tup us)).push (PySem.HandSPX.excO C hp.objs.size), g, dr, tk, os⟩ (Value.ref (hp.objs.size + 1) :: us) I2.kIn (by rw [List.append_nil]; exact hl)
  rw [List.append_nil] at hb'
  refine wpAny_call (PySem.HandSPX.call_own F.excBase_ValueError (fun Y => PySem.HandSPX.refsVE_contains Y bm hbm) (I1.kIn _ _ hC) (PySem.W.looks_findIn I1.kIn iC) (fun self => PySem.W.bind_fn I1.kIn self tI) hus
    (codeAny_mono (F1.run _ X.stack _ _ ⟨Value.ref (hp.objs.size + 1) :: us, []⟩ (Value.ref (hp.objs.size + 1) :: us) _ _ (fun _ _ _ => False) (hr.make C us []) (I2.env0.make C us []) hb' r2 hq) fun r s' hq' => ?_))
  cases r with
  | error er => exact hq'.elim
  | ok fl =>
    cases fl with
    | ret u =>
      obtain ⟨v, H', I3, rv, ev, q3⟩ := I2.after hq'
      subst ev
      exact ⟨rv, ⟨V.ref (hp.objs.size + 1), H', I3, rfl, q3⟩⟩
    | next => exact False.elim hq'
    | brk => exact False.elim hq'
    | cont => exact False.elim hq'
/-- an exception of class C with these fields, held -/
def IsExo (H : Hp) (a C : Addr) (fs : List (Str × V)) : Prop := ∃ d, H a = some (exo a C (some d)) ∧ H d = some (exd d fs)
theorem IsExo.same {H H' : Hp} {a C : Addr} {fs : List (Str × V)} (h : IsExo H a C fs) (s : Same H H') : IsExo H' a C fs := h.imp fun _ ⟨x, y⟩ => ⟨s _ _ x, s _ _ y⟩
theorem exo_inst {pins : List (Addr × Obj)} {σ : L2.St} {H : Hp} {s : Shared} {a C : Addr} {fs : List (Str × V)} (I : Inv X pins σ H s) (h : IsExo H a C fs) : ∃ (oe od : Obj) (mA : Str → Option Value), PySem.W.InstAt s.heap a oe C (some od) ∧ (∀ f, RelO (fs.lookup f) (mA f)) ∧ (∀ f, PySem.W.lookIn f od = some (mA f)) := by
  obtain ⟨d, e1, e2⟩ := h
  obtain ⟨t1, he⟩ := exo_at I.hok e1
  obtain ⟨mA, hns, rel⟩ := exd_at I.hok e2
  obtain ⟨od, ho, hl⟩ := lookIn_ns hns
  exact ⟨_, od, mA, ⟨he, rfl, rfl, ho⟩, rel, hl⟩
/-- e.f of such -/
def fXo (K : PySem.W.Frag) (cs : List Addr) (f : Str) (te : TE) : TE := fun σ H Q => te σ H fun x H1 => match x with
  | .ref a => ∃ C fs v, C ∈ cs ∧ IsExo H1 a C fs ∧ fs.lookup f = some v ∧ Q v H1
  | _ => False
theorem fe_xo {cs : List Addr} {e : Expr} {te : TE} {pos : Pos} {n : Str} (T : XPlain X.K cs n) (he : PE X e te) (hb : attributeBase e n X.env (eval e X.env) = eval e X.env) : PE X (.Attribute e n pos) (fXo X.K cs n te) := by
  refine ⟨fun pins s σ H Q I h => ?_⟩
  refine attr_of hb (thn (he.run pins s σ H _ I h) fun u s1 hh => ?_)
  obtain ⟨x, H1, I1, rx, q⟩ := hh
  match x, rx, q with
  | .ref a, rx, ⟨C, fs, v, m, hx, l, q⟩ =>
    obtain rfl : u = Value.ref a := rx
    obtain ⟨oe, od, mA, J, rel, hl⟩ := exo_inst I1 hx
    obtain ⟨u, hu, ru⟩ := RelO.some_of (v := v) (o := mA n) (by rw [← l]; exact rel n)
    exact HandSPX.exc_get I1.kIn J (T C m).1.ga (T C m).1.gg (T C m).1.exC (PySem.W.findObj_own (T C m).1.hdC (T C m).2 rfl (by rw [hl, hu])) (handed_of ru) ⟨v, H1, I1.tok _, ru, q⟩
/-- isinstance(e, C) of such -/
def fIsX (K : PySem.W.Frag) (cs : List Addr) : List V → Hp → VK → Prop := fun xs H Q => match xs with
  | [.ref a, .ref D] => ∃ C fs, C ∈ cs ∧ IsExo H a C fs ∧ ∃ b, PySem.W.kitOne K (.ref C) (.ref D) = some b ∧ Q (.bl b) H
  | _ => False
theorem call_fIsX {cs : List Addr} (F : ∀ C ∈ cs, ExcFact X.K C) (ob : ObjFact X.K) : CallR X (.builtin "isinstance") (fIsX X.K cs) := by
  intro pins s σ H xs us Q I r h
  match xs, r, h with
  | [.ref a, .ref D], r, ⟨C, fs, m, hx, b, e, q⟩ =>
    obtain ⟨u1, u2, rfl, r1, r2⟩ := vals2 r
    cases r1
    cases r2
    have FC := F C m
    have hcl : (PySem.W.clsIn X.K C).isSome = true := by
      obtain ⟨cd, hcd, _⟩ := PySem.W.any_some FC.hdC
      rw [hcd]; rfl
    obtain ⟨oe, od, mA, J, rel, hl⟩ := exo_inst I hx
    exact PySem.W.kia_one (PySem.W.kitx_exc hcl FC.ga FC.gg FC.exC FC.ci ob.gd ob.tk FC.mr) I.kIn J e (fun z => nomatch z) fun tk => ⟨.bl b, H, I.kept (t' := tk) fun _ _ z => z, rfl, q⟩
end
end Fx

set_option Elab.async false
set_option linter.all false
set_option maxRecDepth 100000
/-! Dk: displays of dicts with text keys, walks over their keys, by value, over Mr. -/
namespace Fx
open PySem PySem.Spec PyProof.Rows L2
/-! ### {"a": v, ..} -/
def fPairs : List (Key × TE) → L2.St → Hp → (List (Key × V) → Hp → Prop) → Prop
  | [], _, H, Q => Q [] H
  | (k, tv) :: r, σ, H, Q => tv σ H fun y H1 => fPairs r σ H1 fun ps H2 => Q ((k, y) :: ps) H2
abbrev FPs (X : Cx) (pos : Pos) (keys : List (Option Expr)) (values : List Expr) (trs : List (Key × TE)) : Prop := PPs X pos keys values (trs.map fun p => (tC (kV p.1), clos p.2))
theorem fps_nil {X : Cx} {pos : Pos} : FPs X pos [] [] [] := pps_nil
theorem fps_cons {X : Cx} {pos : Pos} {x : Str} {j : Nat} {p : Pos} {v : Expr} {ks : List (Option Expr)} {vs : List Expr} {tv : TE} {trs : List (Key × TE)} (hv : PE X v tv) (hr : FPs X pos ks vs trs) :
    FPs X pos (some (.Constant (.str x) j p) :: ks) (v :: vs) ((.inr x, tv) :: trs) := pps_cons pe_str (pe_clos hv) hr
theorem fPairs_t : ∀ {trs : List (Key × TE)} {σ : L2.St} {H : Hp} {R : List (Key × V) → Hp → Prop} {Q : List (V × V) → Hp → Prop}, fPairs trs σ H R → (∀ kvs H2, kvs.map (·.1) = trs.map (·.1) → R kvs H2 → Q (kvs.map fun kv => (kV kv.1, kv.2)) H2) → tPairs (trs.map fun p => (tC (kV p.1), clos p.2)) σ H Q
  | [], σ, H, R, Q, h, w => w [] H rfl h
  | (k, tv) :: r, σ, H, R, Q, h, w => ⟨_, h, fun y H1 q => fPairs_t q fun kvs H2 e z => w ((k, y) :: kvs) H2 (by rw [List.map_cons, List.map_cons, e]) z⟩
theorem mergeK_nd : ∀ (kvs acc : List (Key × V)), ((acc ++ kvs).map (·.1)).Nodup → mergeK acc kvs = acc ++ kvs
  | [], acc, _ => (List.append_nil acc).symm
  | p :: r, acc, h => by
    have hn : ¬ (acc.any fun kv => decide (kv.1 = p.1)) = true := by
      intro z
      obtain ⟨q, hq, e⟩ := List.any_eq_true.mp z
      have e := of_decide_eq_true e
      rw [List.map_append, List.nodup_append] at h
      exact h.2.2 _ (List.mem_map_of_mem hq) _ (List.mem_map_of_mem (List.mem_cons_self ..)) e
    have e1 : putK acc p.1 p.2 = acc ++ [p] := by unfold putK; rw [if_neg hn]
    show mergeK (putK acc p.1 p.2) r = _
    rw [e1, mergeK_nd r (acc ++ [p]) (by rw [List.append_assoc]; exact h), List.append_assoc]; rfl
def fDisp (trs : List (Key × TE)) : TE := fun σ H Q => ∀ p H0, H p = none → Same H H0 → H0 p = some (.dK []) → fPairs trs σ H0 fun kvs H2 => H2 p = some (.dK []) ∧ ∀ H3, H3 = upd H2 p (.dK kvs) → Q (.ref p) H3
theorem fe_disp {X : Cx} {pos : Pos} {keys : List (Option Expr)} {values : List Expr} {trs : List (Key × TE)} (h : FPs X pos keys values trs) (hn : (trs.map (·.1)).Nodup) (hall : keys.all (·.isSome) = true) (hl : keys.length = values.length) (h0 : keys ≠ [])
    (h15 : keys.length ≤ 15) (ht : trs.length ≤ 15) : PE X (.Dict keys values pos) (fDisp trs) :=
  pe_wk (pe_disp h hall hl h0 h15) fun σ H Q q p np => fPairs_t (q p _ np (same_new np) upd_same) fun kvs H2 e z => ⟨z.1, kvs, rfl, by
    have : kvs.length = trs.length := by have := congrArg List.length e; simpa using this
    omega, z.2 _ (by rw [mergeK_nd kvs [] (by rw [List.nil_append, e]; exact hn), List.nil_append])⟩
/-! ### for k in d -/
def iKeysK (td : TE) : TI := fun σ H R => td σ H fun x H1 => match x with
  | .ref d => ∃ o kvs, H1 d = some (.frz o (.dK kvs)) ∧ R (Itk d o kvs) H1
  | _ => False
theorem pi_keysK {X : Cx} {tg e : Expr} {td : TE} (he : PE X e td) : PI X tg e (iKeysK td) :=
  ⟨fun pins s σ H R I h => (pi_keys (pe_clos he)).run pins s σ H R I ⟨_, h, fun x H1 q => by
    match x, q with
    | .ref d, ⟨o, kvs, hd, q⟩ => exact ⟨d, o, rfl, .inl ⟨kvs, hd, q⟩⟩⟩⟩
theorem lcx_keysK {d0 : Addr} {o : Obj} {kvs : List (Key × V)} {g : TG} {tt : TT} {te : TE} {vs : List Nat} {σ : L2.St} {H1 : Hp} {D : Addr} {Q : VK} (Pv : Nat → Hp → Prop) (h0 : Pv 0 (upd H1 D (.lst []))) (hl : ∀ i H, i ≤ kvs.length → Pv i H → H d0 = some (.frz o (.dK kvs)))
    (hs : ∀ i k v H, kvs[i]? = some (k, v) → Pv i H → g (kV k) (wipe σ vs) H fun σ2 H2 => wipe σ2 vs = wipe σ vs ∧ tt σ2 H2 fun b H3 =>
      if b = true then te σ2 H3 fun y H4 => ∃ acc, H4 D = some (.lst acc) ∧ acc.length < sizeLine ∧ Pv (i + 1) (upd H4 D (.lst (acc ++ [y]))) else Pv (i + 1) H3) (hd : ∀ H, Pv kvs.length H → Q (.ref D) H) : Lc (Itk d0 o kvs) g tt te vs σ H1 D Q :=
  lc_it walk_keys Pv h0 hl (fun i x H H' hi p y => by
    obtain ⟨rfl, k, v, he, rfl⟩ := y
    exact hs i k v _ he p) hd
end Fx

set_option Elab.async false
set_option linter.all false
set_option maxRecDepth 100000
/-! Fk: one of two ways to read an expression (a method of several classes), copies of dicts. -/
namespace Fx
open PySem PySem.Spec PyProof.Rows L2
def tEither (t1 t2 : TE) : TE := fun σ H Q => t1 σ H Q ∨ t2 σ H Q
theorem pe_either {X : Cx} {e : Expr} {t1 t2 : TE} (h1 : PE X e t1) (h2 : PE X e t2) : PE X e (tEither t1 t2) := ⟨fun pins s σ H Q I q => q.elim (h1.run pins s σ H Q I) (h2.run pins s σ H Q I)⟩
/-- dict(d): a copy -/
def fDictD : List V → Hp → VK → Prop := fun xs H Q => match xs with
  | [.ref a] => ∃ kvs, Rd H a (.dK kvs) ∧ ∀ p H1, H p = none → Same H H1 → H1 p = some (.dK kvs) → Q (.ref p) H1
  | _ => False
theorem call_fDictD {X : Cx} : CallR X (.type "dict") fDictD := by
  intro pins s σ H xs us Q I r h
  match xs, r, h with
  | [.ref a], r, ⟨kvs, h1, h2⟩ =>
    obtain ⟨u, eu, rx⟩ := vals1 r
    subst eu
    cases rx
    exact d_copyOf I h1 fun p s' np I' => ⟨.ref p, _, I', rfl, h2 p _ np (same_new np) upd_same⟩
end Fx
namespace Fx
open PySem PySem.Spec PyProof.Rows L2
section
variable {X : Cx} {K : PySem.W.Frag}
theorem ix_fxK (h : X.K = K) : IxR X (fIx K) := h ▸ ix_fx
theorem call_fLenK (h : X.K = K) : CallR X (.builtin "len") (fLen K) := h ▸ call_fLen
theorem op_fAddK (h : X.K = K) : OpR X (binaryOp .Add) (fAdd K) := h ▸ op_fAdd
theorem sl_fxK (h : X.K = K) : SlR X (fSl K) := h ▸ sl_fx
theorem op_fEqK (hu : X.A.units + 64 < cLine) (h : X.K = K) : OpR X (compareOp .Eq) (fEq K false) := h ▸ op_fEq hu
theorem op_fNeK (hu : X.A.units + 64 < cLine) (h : X.K = K) : OpR X (compareOp .NotEq) (fEq K true) := h ▸ op_fNe hu
theorem op_fInK' (h : X.K = K) : OpR X (compareOp .In) (fIn K false) := h ▸ op_fIn
end
end Fx
namespace Fx
open PySem PySem.Spec PyProof.Rows L2
section
variable {X : Cx} {o e f : Expr} {apos cpos : Pos} {td ty tx : TE}
/-- sum of a list of whole numbers -/
def fSum : List V → Hp → VK → Prop := fun xs H Q => match xs with
  | [.ref a] => ∃ ns : List Int, H a = some (.lst (ns.map V.int)) ∧ Q (.int ns.sum) H
  | _ => False
theorem call_fSum (hc : X.calm = true) : CallR X (.builtin "sum") fSum := by
  intro pins s σ H xs us Q I r h
  match xs, r, h with
  | [.ref a], r, ⟨ns, h1, h2⟩ => exact cr_sum hc pins s σ H _ us Q I r ⟨a, ns, rfl, SqL.of h1, h2⟩
/-- d.get(k, x) -/
def fGetD (td ty tx : TE) : TE := fun σ H Q => td σ H fun x H1 => match x with
  | .ref a => (∃ kvs, Rd H1 a (.dK kvs)) ∧ ty σ H1 fun y H2 => tx σ H2 fun z H3 => match keyV y with
    | some k => ∃ kvs, Rd H3 a (.dK kvs) ∧ Q ((valV kvs k).getD z) H3
    | none => False
  | _ => False
theorem pe_getD (hu : X.A.units + 1 < cLine) (ho : PE X o td) (he : PE X e ty) (hf : PE X f tx) (m : M2 X o "get" apos e f cpos) : PE X (.Call (.Attribute o "get" apos) [e, f] [] cpos) (fGetD td ty tx) :=
  pe_wk (pe_dget2 hu (pe_clos ho) (pe_clos he) (pe_clos hf) m) fun σ H Q q => ⟨_, q, fun x H1 q => by
    split at q
    · rename_i a
      obtain ⟨⟨kvs, hd⟩, q⟩ := q
      exact ⟨a, rfl, .inl ⟨kvs, hd⟩, _, q, fun y H2 q => ⟨_, q, fun z H3 q => by
        split at q
        · obtain ⟨kvs', hd', q⟩ := q
          exact ⟨_, .inl ⟨kvs', _, hd', keyV_kV (by assumption), rfl⟩, q⟩
        · exact q.elim⟩⟩
    · exact q.elim⟩
end
/-! ### comprehensions of dicts -/
def Dc (J : It) (g : TG) (tt : TT) (tk tv : TE) (vs : List Nat) (σ : L2.St) (H1 : Hp) (D : Addr) (Q : VK) : Prop := ∃ W : Nat → Nat → Hp → Prop, (∃ m, W 0 m (upd H1 D (.dK []))) ∧ ∀ i m H, W i m H →
  (J.stop i H ∧ Q (.ref D) H) ∨ (J.go i H ∧ ∃ Nx : Hp → Prop, (∀ H', Nx H' → ∃ m', m' < m ∧ W (i + 1) m' H') ∧ ∀ x H', J.yld i H x H' → g x (wipe σ vs) H' fun σ2 H2 => wipe σ2 vs = wipe σ vs ∧ tt σ2 H2 fun b H3 =>
    if b = true then tk σ2 H3 fun y H4 => tv σ2 H4 fun z H5 => ∃ kvs k, y = kV k ∧ H5 D = some (.dK kvs) ∧ kvs.length < sizeLine ∧ Nx (upd H5 D (.dK (putK kvs k z))) else Nx H3)
theorem dc_ {wi : TI} {g : TG} {tt : TT} {tk tv : TE} {vs : List Nat} {σ : L2.St} {H : Hp} {Q : VK} (h : wi σ H fun J H1 => ∀ D, H1 D = none → Dc J g tt tk tv vs σ H1 D Q) : tDc wi g tt tk tv vs σ H Q := h
theorem dcx_tup {K : PySem.W.Frag} {a : Addr} {xs : List V} {g : TG} {tt : TT} {tk tv : TE} {vs : List Nat} {σ : L2.St} {H1 : Hp} {D : Addr} {Q : VK} (Pv : Nat → Hp → Prop) (h0 : Pv 0 (upd H1 D (.dK []))) (hl : ∀ i H, i ≤ xs.length → Pv i H → SqT K H a xs)
    (hs : ∀ i x H, xs[i]? = some x → Pv i H → g x (wipe σ vs) H fun σ2 H2 => wipe σ2 vs = wipe σ vs ∧ tt σ2 H2 fun b H3 =>
      if b = true then tk σ2 H3 fun y H4 => tv σ2 H4 fun z H5 => ∃ kvs k, y = kV k ∧ H5 D = some (.dK kvs) ∧ kvs.length < sizeLine ∧ Pv (i + 1) (upd H5 D (.dK (putK kvs k z))) else Pv (i + 1) H3) (hd : ∀ H, Pv xs.length H → Q (.ref D) H) : Dc (Itt K a) g tt tk tv vs σ H1 D Q :=
  dc_tup Pv h0 hl hs hd
end Fx
namespace Fx
open PySem PySem.Spec PyProof.Rows L2
def iEither (i1 i2 : TI) : TI := fun σ H R => i1 σ H R ∨ i2 σ H R
theorem pi_either {X : Cx} {tg e : Expr} {i1 i2 : TI} (h1 : PI X tg e i1) (h2 : PI X tg e i2) : PI X tg e (iEither i1 i2) := ⟨fun pins s σ H R I h => h.elim (h1.run pins s σ H R I) (h2.run pins s σ H R I)⟩
end Fx
namespace Fx
open PySem PySem.Spec PyProof.Rows L2
theorem lcx_tup {K : PySem.W.Frag} {a : Addr} {xs : List V} {g : TG} {tt : TT} {te : TE} {vs : List Nat} {σ : L2.St} {H1 : Hp} {D : Addr} {Q : VK} (Pv : Nat → Hp → Prop) (h0 : Pv 0 (upd H1 D (.lst []))) (hl : ∀ i H, i ≤ xs.length → Pv i H → SqT K H a xs)
    (hs : ∀ i x H, xs[i]? = some x → Pv i H → g x (wipe σ vs) H fun σ2 H2 => wipe σ2 vs = wipe σ vs ∧ tt σ2 H2 fun b H3 =>
      if b = true then te σ2 H3 fun y H4 => ∃ acc, H4 D = some (.lst acc) ∧ acc.length < sizeLine ∧ Pv (i + 1) (upd H4 D (.lst (acc ++ [y]))) else Pv (i + 1) H3) (hd : ∀ H, Pv xs.length H → Q (.ref D) H) : Lc (Itt K a) g tt te vs σ H1 D Q :=
  lc_it walk_tup Pv h0 hl (fun i x H H' hi p y => by
    obtain ⟨rfl, e⟩ := y
    exact hs i x _ e p) hd
end Fx
namespace Fx
open PySem PySem.Spec PyProof.Rows L2
/-- tuple(list) -/
def fTupOf : List V → Hp → VK → Prop := fun xs H Q => match xs with
  | [.ref p] => ∃ ys, H p = some (.lst ys) ∧ ∀ l H1, H l = none → Same H H1 → H1 l = some (.tup ys) → Q (.ref l) H1
  | _ => False
theorem call_fTupOf {X : Cx} : CallR X (.type "tuple") fTupOf := by
  intro pins s σ H xs us Q I r h
  match xs, r, h with
  | [.ref p], r, ⟨ys, h1, h2⟩ => exact call_tuple_of pins s σ H _ us Q I r ⟨p, ys, rfl, .inl ⟨SqL.of h1, fun l nl => h2 l _ nl (same_new nl) upd_same⟩⟩
end Fx

set_option Elab.async false
set_option linter.all false
set_option maxRecDepth 100000
set_option maxHeartbeats 1000000
/-! Zp: zip of a list and a tuple. -/
namespace Fx
open PySem PySem.Spec PyProof.Rows L2
/-- the list at a and the tuple at b as they stand at each turn -/
def ItzM (K : PySem.W.Frag) (a b : Addr) : It where
  go i H := ∃ (xs ys : List V) (x y : V), SqL K H a xs ∧ SqT K H b ys ∧ xs[i]? = some x ∧ ys[i]? = some y
  yld i H v H' := ∃ T x y, v = .ref T ∧ H T = none ∧ H' = upd H T (.tup [x, y]) ∧ (∀ xs, SqL K H a xs → xs[i]? = some x) ∧ ∀ ys, SqT K H b ys → ys[i]? = some y
  stop i H := ∃ xs ys : List V, SqL K H a xs ∧ SqT K H b ys ∧ i ≤ xs.length ∧ i ≤ ys.length ∧ (i = xs.length ∨ i = ys.length)
def StM (zp ti to j1 j2 a b : Addr) (i : Nat) (h : Heap) : Prop := IsZip h zp ti to .none ∧ IsPair h ti (.ref j1) (.ref j2) ∧ (∃ x y, IsPair h to x y) ∧ h.IsListIter j1 a i ∧ h.IsTupleIter j2 b i
theorem sepM {zp ti to j1 j2 a b : Addr} (D : ZipApart zp ti to j1 j2 a b) : ZipSep2 zp ti to j1 j2 [j1, a] [j2, b] := by
  constructor <;> simp [D.TIz, D.TOz, D.TITO, D.TIi1, D.TIi2, Ne.symm D.i1z, Ne.symm D.i2z, Ne.symm D.l1z, Ne.symm D.l2z, D.TOi1, D.TOi2, Ne.symm D.l1TO, Ne.symm D.l2TO, D.i12, Ne.symm D.i12, D.l1i2, D.l2i1, Ne.symm D.l1i2, Ne.symm D.l2i1]
theorem turn_zipM {P : Program} {w : World} {K : PySem.W.Frag} {el : List Expr} {kx : Nat} {tp : Pos} {a b zp ti to j1 j2 : Addr} (D : ZipApart zp ti to j1 j2 a b) : Turn P w K (.Tuple el kx tp) (ItzM K a b) [zp, ti, to, j1, j2] zp (StM zp ti to j1 j2 a b) where
  mem := List.mem_cons_self ..
  obj := fun i h ⟨g1, g2, ⟨x, y, g3⟩, ⟨o1, g4, _, g5⟩, ⟨o2, g6, _, g7⟩⟩ q hq => by
    simp only [List.mem_cons, List.not_mem_nil, or_false] at hq
    rcases hq with rfl | rfl | rfl | rfl | rfl
    · exact ⟨_, g1, fun v e => by cases e⟩
    · exact ⟨_, g2, fun v e => by cases e⟩
    · exact ⟨_, g3, fun v e => by cases e⟩
    · exact ⟨o1, g4, fun v e => by rw [g5] at e; cases e⟩
    · exact ⟨o2, g6, fun v e => by rw [g7] at e; cases e⟩
  keep := fun i h h' ⟨g1, g2, ⟨x, y, g3⟩, g4, g5⟩ k => ⟨k zp (by simp) _ g1, k ti (by simp) _ g2, ⟨x, y, k to (by simp) _ g3⟩, g4.at fun o e => k j1 (by simp) o e, g5.at fun o e => k j2 (by simp) o e⟩
  item := by
    intro X eP ew eK ec i pins s σ H E I hf st hg
    cases eP; cases ew; cases eK
    obtain ⟨g1, g2, ⟨x0, y0, g3⟩, g4, g5⟩ := st
    obtain ⟨xs, ys, x, y, sx, sy, ex, ey⟩ := hg
    obtain ⟨its, rv, pl, _⟩ := I.list sx
    obtain ⟨jts, rw2, pt, _⟩ := I.tuple sy
    obtain ⟨u, hu, ru⟩ := rv.get ex
    obtain ⟨v, hv, rv'⟩ := rw2.get ey
    have hh : X.A.in1.handled = none := I.ok.hd ec
    have lz : zp < s.heap.objs.size := Heap.lt_size g1
    have n1 : i < its.toArray.size := by
      have := (List.getElem?_eq_some_iff.mp hu).1
      simpa using this
    have n2 : i < jts.toArray.size := by
      have := (List.getElem?_eq_some_iff.mp hv).1
      simpa using this
    refine wpAny_pyNext_zipD2_item (sepM D) (Draws.list hh j1 a D.l1i1 its.toArray) (Draws.tuple hh j2 b D.l2i2 jts.toArray) g1 g2 g3 ⟨g4, pl.isList⟩ ⟨g5, pt⟩ n1 n2 fun u' v' hn tk e1 e2 kz ko st1 st2 hT hsz hk => ?_
    have eu : u' = u := by
      have e1 : its.toArray[i]? = some u' := e1
      rw [List.getElem?_toArray, hu] at e1
      exact (Option.some.inj e1).symm
    have ev : v' = v := by
      have e2 : jts.toArray[i]? = some v' := e2
      rw [List.getElem?_toArray, hv] at e2
      exact (Option.some.inj e2).symm
    subst eu ev
    refine ⟨_, rfl, wpAny_letOwnedTupleGo_zip (s := { s with heap := hn, toks := tk }) kz fun hm kz2 sb => ?_⟩
    have hT2 : hm.get? s.heap.objs.size = some { cls := .type "tuple", data := .seq #[u', v'] } := (sb.2 _ (Nat.ne_of_gt lz)).trans hT
    have new : ObjOk X.prog X.w (upd H s.heap.objs.size (.tup [x, y])) hm s.heap.objs.size (.tup [x, y]) := ⟨by show 2 ≤ sizeLine; decide, [u', v'], .cons ru (.cons rv' .nil), ⟨_, hT2, rfl, _, rfl⟩⟩
    have I1 : Inv X pins σ (upd H s.heap.objs.size (.tup [x, y])) { s with heap := hm, toks := tk } :=
      I.turnedNew (ch := [zp, ti, to, j1, j2]) (fun q o hq e => (sb.2 q (fun z => hq (by simp [z]))).trans (hk q o (fun z => hq (by simp [z])) (fun z => hq (by simp [z])) (fun z => hq (by simp [z])) (fun z => hq (by simp [z])) e)) hf (Nat.le_refl _) new
    refine ⟨.ref s.heap.objs.size, _, I1, rfl, ⟨_, x, y, rfl, I.hok.fresh (Nat.le_refl _), rfl, fun l hl => by rw [I.list_inj hl sx]; exact ex, fun l hl => by rw [I.tuple_inj hl sy]; exact ey⟩, ⟨kz2, ?_, ⟨u', v', ?_⟩, ?_, ?_⟩, fun q hq => ?_⟩
    · exact (sb.2 _ D.TIz).trans (hk _ _ D.TIz D.TITO D.TIi1 D.TIi2 g2)
    · exact (sb.2 _ D.TOz).trans ko
    · exact st1.1.at fun o e => (sb.2 _ D.i1z).trans e
    · exact st2.1.at fun o e => (sb.2 _ D.i2z).trans e
    · have hlt : q < s.heap.objs.size := by
        simp only [List.mem_cons, List.not_mem_nil, or_false] at hq
        rcases hq with rfl | rfl | rfl | rfl | rfl
        · exact lz
        · exact Heap.lt_size g2
        · exact Heap.lt_size g3
        · obtain ⟨_, e, _⟩ := g4; exact Heap.lt_size e
        · obtain ⟨_, e, _⟩ := g5; exact Heap.lt_size e
      rw [upd_ne (Nat.ne_of_lt hlt)]
      exact (hf q hq).1
  done := by
    intro X eP ew eK ec i pins s σ H E I hf st hg
    cases eP; cases ew; cases eK
    obtain ⟨g1, g2, ⟨x0, y0, g3⟩, g4, g5⟩ := st
    obtain ⟨xs, ys, sx, sy, l1, l2, l3⟩ := hg
    obtain ⟨its, rv, pl, _⟩ := I.list sx
    obtain ⟨jts, rw2, pt, _⟩ := I.tuple sy
    have hh : X.A.in1.handled = none := I.ok.hd ec
    have m1 : its.toArray.size = xs.length := by rw [rv.length]; simp
    have m2 : jts.toArray.size = ys.length := by rw [rw2.length]; simp
    exact wpAny_pyNext_zipD2_end (sepM D) (Draws.list hh j1 a D.l1i1 its.toArray) (Draws.tuple hh j2 b D.l2i2 jts.toArray) g1 g2 g3 ⟨g4, pl.isList⟩ ⟨g5, pt⟩ (by omega) (by omega) (by omega) fun hn tk hk =>
      ⟨rfl, I.turnedL (ch := [zp, ti, to, j1, j2]) (fun q o hq e => hk q o (fun z => hq (by simp [z])) (fun z => hq (by simp [z])) (fun z => hq (by simp [z])) (fun z => hq (by simp [z])) e) hf⟩
  self := fun A i s Q E st q => wpAny_pyIter_zip st.1 q
/-- for .. in zip(list, tuple) -/
def iZipM (K : PySem.W.Frag) (ta : TA) : TI := fun σ H R => ta σ H fun vs H1 => match vs with
  | [.ref a, .ref b] => ∃ xs ys, SqL K H1 a xs ∧ SqT K H1 b ys ∧ R (ItzM K a b) H1
  | _ => False
theorem pi_zipM {X : Cx} {e e2 : Expr} {ta : TA} {p pos tpos : Pos} {elts : List Expr} {kk : Nat} (hg : Gl X "zip") (hm : X.mg "zip" = none) (ha : PA X [e, e2] ta)
    (hs : starEach [e, e2] X.env = (false, eval e X.env) :: starEach [e2] X.env := by rfl) (hpl : (backTo pos (starEach [e2] X.env)).any (·.1) = false := by rfl) :
    PI X (.Tuple elts kk tpos) (.Call (.Name "zip" p) [e, e2] [] pos) (iZipM X.K ta) := by
  refine ⟨fun pins s σ H R I h => Call_ (ld_blt I hg hm PyProof.Rows.boot_zip (PyProof.Rows.callWith_type1 (thn (ha.run pos pins s σ H _ I h) fun us s1 ⟨vs, H1, I1, r1, q1⟩ => ?_) hs hpl))⟩
  dsimp only at q1
  split at q1
  · rename_i a b
    obtain ⟨xs, ys, sx, sy, q⟩ := q1
    cases r1 with
    | cons r t =>
     cases t with
     | cons r' t =>
      cases t
      cases r
      cases r'
      obtain ⟨its, rv, pl, _⟩ := I1.list sx
      obtain ⟨jts, rw2, pt, _⟩ := I1.tuple sy
      obtain ⟨o1, ho1, _⟩ := id pl.isList
      obtain ⟨o2, ho2, _⟩ := id pt
      have five : ∀ q, q ∈ [s1.heap.objs.size + 4, s1.heap.objs.size + 2, s1.heap.objs.size + 3, s1.heap.objs.size, s1.heap.objs.size + 1] → FpOk X pins H1 q := fun q hq => by
        have : s1.heap.objs.size ≤ q := by
          simp only [List.mem_cons, List.not_mem_nil, or_false] at hq
          omega
        exact I1.fpOk this (I1.hok.fresh this)
      refine zip_begins2 (begins_list a its.toArray) (begins_tuple b jts.toArray) pl.isList pt fun hn k1 k2 k3 k4 k5 _ hk => wpAny_pyIter_zip k1 ?_
      exact ⟨_, _, _, _, H1, rfl, I1.kept (t' := s1.toks) hk, turn_zipM (PySem.W.ktu_apart s1.heap.objs.size a b (Heap.lt_size ho1) (Heap.lt_size ho2)), ⟨k1, k2, ⟨_, _, k3⟩, ⟨_, k4, rfl, rfl⟩, ⟨_, k5, rfl, rfl⟩⟩, five, q⟩
  · exact q1.elim
/-- its loop -/
theorem loop_zipM {K : PySem.W.Frag} {a b : Addr} {xs ys : List V} {g : TG} {tb : TS} {D : Ends} {σ : L2.St} {H : Hp} (hl : xs.length = ys.length) (Pv : Nat → L2.St → Hp → Prop) (h0 : Pv 0 σ H) (hq : ∀ i σ H, Pv i σ H → SqL K H a xs ∧ SqT K H b ys)
    (hs : ∀ (i : Nat) (x y : V) (T : Addr) (σ : L2.St) (H : Hp), xs[i]? = some x → ys[i]? = some y → Pv i σ H → H T = none → g (.ref T) σ (upd H T (.tup [x, y])) fun σ2 H2 => tb { D with nx := Pv (i + 1), ct := Pv (i + 1), bk := D.nx } σ2 H2) (hd : ∀ σ H, Pv xs.length σ H → D.nx σ H) : Loop (ItzM K a b) g tb D σ H := by
  refine ⟨fun i m σ H => m = xs.length - i ∧ i ≤ xs.length ∧ Pv i σ H, ⟨_, rfl, Nat.zero_le _, h0⟩, fun i m σ H ⟨em, hi, hp⟩ => ?_⟩
  subst em
  obtain ⟨qx, qy⟩ := hq i σ H hp
  rcases Nat.lt_or_ge i xs.length with lt | ge
  · refine .inr ⟨⟨xs, ys, xs[i], ys[i]'(by omega), qx, qy, List.getElem?_eq_getElem _, List.getElem?_eq_getElem _⟩, Pv (i + 1), fun σ' H' p' => ⟨xs.length - (i + 1), by omega, rfl, lt, p'⟩, fun v H' ⟨T, x', y', e1, e2, e3, f1, f2⟩ => ?_⟩
    subst e1 e3
    exact hs i x' y' T σ H (f1 xs qx) (f2 ys qy) hp e2
  · have e : i = xs.length := by omega
    subst e
    exact .inl ⟨⟨xs, ys, qx, qy, Nat.le_refl _, by omega, .inl rfl⟩, hd σ H hp⟩
/-! ### dicts of the module whose values are tuples of scalars -/
def EntT (K : PySem.W.Frag) (d : Addr) : Str × Option (List V) → Prop
  | (z, none) => PySem.W.nsIn K d z = some none
  | (z, some xs) => ∃ a, PySem.W.nsIn K d z = some (some (.ref a)) ∧ ∀ H, SqT K H a xs
theorem entt_none {K : PySem.W.Frag} {d : Addr} {z : Str} (h : PySem.W.nsIn K d z = some none) : EntT K d (z, none) := h
theorem entt_tup {K : PySem.W.Frag} {d a : Addr} {z : Str} {xs : List V} {od : Option Addr} {its : Array Value} {n : Nat} {sl : Array (Option Value)} (h1 : PySem.W.nsIn K d z = some (some (.ref a))) (h2 : K.lookup a = some ⟨.type "tuple", od, .seq its n, sl⟩) (h3 : absVs its.toList = some xs) (h4 : its.size ≤ 1000) : EntT K d (z, some xs) :=
  ⟨a, h1, fun _ => .inr ⟨_, its, n, h2, rfl, rfl, Nat.le_trans h4 (by decide), absVs_rel h3⟩⟩
structure DTAt (K : PySem.W.Frag) (w : World) (d : Addr) (ks : List (Str × Option (List V))) : Prop where
  ex : ∃ es n, KDict K w d es n
  en : ∀ p ∈ ks, EntT K d p
def GDictT (K : PySem.W.Frag) (w : World) (mg : Str → Option Value) (x : Str) (ks : List (Str × Option (List V))) : Prop := ∃ d, mg x = some (.ref d) ∧ DTAt K w d ks
structure GDictTF (K : PySem.W.Frag) (w : World) (x : Str) (ks : List (Str × Option (List V))) : Prop where
  ex : ∃ d, PySem.W.nsIn K mainGlobals x = some (some (.ref d)) ∧ DTAt K w d ks
theorem GDictTF.of {K : PySem.W.Frag} {w : World} {x : Str} {ks : List (Str × Option (List V))} {d : Addr} {es : Array DictEntry} {n : Nat} (h1 : PySem.W.nsIn K mainGlobals x = some (some (.ref d))) (h2 : K.lookup d = some ⟨.type "dict", none, .dict es n, #[]⟩)
    (h3 : PySem.W.KeysLit w.params es.toList) (h4 : (d == sysModules) = false) (h5 : ∀ p ∈ ks, EntT K d p) : GDictTF K w x ks := ⟨d, h1, ⟨es, n, h2, h3, h4⟩, h5⟩
theorem GDictTF.get {K : PySem.W.Frag} {w : World} {mg : Str → Option Value} {x : Str} {ks : List (Str × Option (List V))} {h : Heap} (X : K.In h) (G : h.Ns mainGlobals mg) (F : GDictTF K w x ks) : GDictT K w mg x ks := by
  obtain ⟨d, h1, h2⟩ := F.ex
  exact ⟨d, PySem.W.mg_of X G h1, h2⟩
theorem entt_at {K : PySem.W.Frag} {d : Addr} {z : Str} {o : Option (List V)} : ∀ {ks : List (Str × Option (List V))}, (∀ p ∈ ks, EntT K d p) → ks.lookup z = some o → EntT K d (z, o)
  | [], _, h => by cases h
  | (y, p) :: ks, hk, h => by
    rw [List.lookup_cons] at h
    split at h
    · rename_i e
      cases h
      have e' := eq_of_beq e
      subst e'
      exact hk _ (List.mem_cons_self ..)
    · exact entt_at (fun q hq => hk q (List.mem_cons_of_mem _ hq)) h
def fGdT_ (K : PySem.W.Frag) (w : World) (ks : List (Str × Option (List V))) : TE := fun _ H Q => ∀ d, DTAt K w d ks → Q (.ref d) H
section
variable {X : Cx}
theorem fe_gdictT {x : Str} {pos : Pos} {ks : List (Str × Option (List V))} (hg : Gl X x) (h : GDictT X.K X.w X.mg x ks) (hd : (x == ("__debug__" : Str)) = false := by decide) : PE X (.Name x pos) (fGdT_ X.K X.w ks) := by
  obtain ⟨d, h, hs⟩ := h
  exact pe_wk (pe_glob hg h (v := .ref d) rfl hd) fun σ H Q q => q d hs
def fInDT (K : PySem.W.Frag) (w : World) : R2 := fun x y H Q => match x, y with
  | .str z, .ref d => ∃ ks o, DTAt K w d ks ∧ ks.lookup z = some o ∧ Q (.bl o.isSome) H
  | _, _ => False
theorem op_fInDT : OpR X (compareOp .In) (fInDT X.K X.w) := by
  intro pins s σ H x y v u Q I rx ry h
  match x, y, rx, ry, h with
  | .str z, .ref d, rx, ry, ⟨ks, o, D, e, q⟩ =>
    obtain ⟨es, n, kd⟩ := D.ex
    have en := entt_at D.en e
    cases o with
    | none => exact op_in_kd kd pins s σ H _ _ v u Q I rx ry ⟨z, none, rfl, rfl, en, q⟩
    | some xs =>
      obtain ⟨a, e0, _⟩ := en
      exact op_in_kd kd pins s σ H _ _ _ u Q I rx ry ⟨z, some (.ref a), rfl, rfl, e0, q⟩
def fIxDT (K : PySem.W.Frag) (w : World) : R2 := fun x y H Q => match x, y with
  | .ref d, .str z => ∃ ks xs, DTAt K w d ks ∧ ks.lookup z = some (some xs) ∧ ∀ a, (∀ H', SqT K H' a xs) → Q (.ref a) H
  | _, _ => False
theorem ix_fxDT : IxR X (fIxDT X.K X.w) := by
  intro e1 e2 pins s σ H x y v u Q I rx ry h hs
  match x, y, rx, ry, h with
  | .ref d, .str z, rx, ry, ⟨ks, xs, D, e, q⟩ =>
    obtain ⟨es, n, kd⟩ := D.ex
    obtain ⟨a, e0, r0⟩ := entt_at D.en e
    exact ix_kdict e1 e2 pins s σ H (.ref d) (.str z) v u Q I rx ry ⟨d, z, .ref a, rfl, rfl, ⟨es, n, .ref a, kd.at_, kd.lit, e0, rfl⟩, q a r0⟩ hs
end
end Fx
namespace Fx
open PySem PySem.Spec PyProof.Rows L2
section
variable {X : Cx} {o i e : Expr} {to ti te : TE} {tpos pos p1 p2 p3 : Pos} {k : Nat}
/-- xs[::-1] -/
def fRevL (K : PySem.W.Frag) (te : TE) : TE := fun σ H Q => te σ H fun x H1 => match x with
  | .ref a => ∃ xs, SqL K H1 a xs ∧ ∀ p H2, H1 p = none → Same H1 H2 → H2 p = some (.lst xs.reverse) → Q (.ref p) H2
  | _ => False
theorem fe_revL (he : PE X e te) : PE X (.Subscript e (.Slice none none (some (.UnaryOp .USub (.Constant (.int 1) k p1) p2)) p3) pos) (fRevL X.K te) :=
  pe_wk (pe_revL (pe_clos he)) fun σ H Q q => ⟨_, q, fun x H1 q => by
    split at q
    · rename_i a
      obtain ⟨xs, h, q⟩ := q
      exact ⟨a, xs, rfl, h, fun p np => q p _ np (same_new np) upd_same⟩
    · exact q.elim⟩
/-- del xs[i] -/
def sDelL (to ti : TE) : TS := fun D σ H => to σ H fun x H1 => ti σ H1 fun y H2 => match x, y with
  | .ref l, .int i => ∃ xs, ∃ n : Nat, H2 l = some (.lst xs) ∧ i = (n : Nat) ∧ n < xs.length ∧ n < 1000000 ∧ D.nx σ (upd H2 l (.lst (xs.eraseIdx n)))
  | _, _ => False
theorem fs_delL (ho : PE X o to) (hi : PE X i ti) : PS X (.Delete [.Subscript o i tpos] pos) (sDelL to ti) :=
  ps_wk (ps_delL (pe_clos ho) (pe_clos hi)) fun D σ H q => ⟨_, q, fun x H1 q => ⟨_, q, fun y H2 q => by
    split at q
    · obtain ⟨xs, n, h1, rfl, h2, h3, q⟩ := q
      refine ⟨_, xs, _, n, rfl, rfl, h1, by omega, by omega, ?_, q⟩
      unfold seqIndex?
      simp
      omega
    · exact q.elim⟩⟩
/-- for at, x in enumerate(xs) -/
def iEnum_ (K : PySem.W.Frag) (ta : TA) : TI := fun σ H R => ta σ H fun vs H1 => match vs with
  | [.ref a] => (∃ xs, SqL K H1 a xs) ∧ R (Ite K a) H1
  | _ => False
theorem pi_enum_ {ta : TA} {p pos tpos : Pos} {elts : List Expr} {kk : Nat} (hg : Gl X "enumerate") (hm : X.mg "enumerate" = none) (ha : PA X [e] ta) (hs : starEach [e] X.env = [(false, eval e X.env)] := by rfl) : PI X (.Tuple elts kk tpos) (.Call (.Name "enumerate" p) [e] [] pos) (iEnum_ X.K ta) :=
  ⟨fun pins s σ H R I h => (pi_enum hg hm (pa_clos ha) hs).run pins s σ H R I ⟨_, h, fun vs H1 q => by
    split at q
    · obtain ⟨⟨xs, h⟩, q⟩ := q
      exact ⟨_, xs, rfl, h, q⟩
    · exact q.elim⟩⟩
/-- list + list and the like in comprehensions over enumerate -/
theorem lcx_enum {K : PySem.W.Frag} {a : Addr} {xs : List V} {g : TG} {tt : TT} {te : TE} {vs : List Nat} {σ : L2.St} {H1 : Hp} {D : Addr} {Q : VK} (Pv : Nat → Hp → Prop) (h0 : Pv 0 (upd H1 D (.lst []))) (hl : ∀ i H, i ≤ xs.length → Pv i H → SqL K H a xs)
    (hs : ∀ (i : Nat) x T H H', xs[i]? = some x → Pv i H → H T = none → H' = upd H T (.tup [.int (i : Nat), x]) → g (.ref T) (wipe σ vs) H' fun σ2 H2 => wipe σ2 vs = wipe σ vs ∧ tt σ2 H2 fun b H3 =>
      if b = true then te σ2 H3 fun y H4 => ∃ acc, H4 D = some (.lst acc) ∧ acc.length < sizeLine ∧ Pv (i + 1) (upd H4 D (.lst (acc ++ [y]))) else Pv (i + 1) H3) (hd : ∀ H, Pv xs.length H → Q (.ref D) H) : Lc (Ite K a) g tt te vs σ H1 D Q :=
  lc_it walk_enum Pv h0 hl (fun i x H H' hi p y => by
    obtain ⟨T, u, v, e1, e2, e3, e4, e5⟩ := y
    cases e4
    subst e1
    exact hs i v T H H' e5 p e2 e3) hd
end
end Fx
namespace Fx
open PySem PySem.Spec PyProof.Rows L2
/-- a op1 b op2 c op3 d, as a test -/
def tChain3 (r1 r2 r3 : R2) (ta tb tc td : TE) : TT := fun σ H Q => ta σ H fun x H1 => tb σ H1 fun y H2 => r1 x y H2 fun v1 H3 => ∃ k, v1 = .bl k ∧ if k = true then tc σ H3 fun z H4 => r2 y z H4 fun v2 H5 => ∃ j, v2 = .bl j ∧ (if j = true then td σ H5 fun u H6 => r3 z u H6 fun v3 H7 => ∃ i, v3 = .bl i ∧ Q i H7 else Q false H5) else Q false H3
theorem pt_chain3 {X : Cx} {o1 o2 o3 : CmpOp} {r1 r2 r3 : R2} {a b c d : Expr} {ta tb tc td : TE} {pos : Pos} (h1 : OpR X (compareOp o1) r1) (h2 : OpR X (compareOp o2) r2) (h3 : OpR X (compareOp o3) r3) (ha : PE X a ta) (hb : PE X b tb) (hc : PE X c tc) (hd : PE X d td)
    (hm : lastMarks [o1, o2, o3] [b, c, d] = false := by with_unfolding_all rfl) : PT X (.Compare a [o1, o2, o3] [b, c, d] pos) (tChain3 r1 r2 r3 ta tb tc td) :=
  ⟨fun pins s σ H Q I h => isTrue_chain (thn (ha.run pins s σ H _ I h) fun v s1 ⟨x, H1, I1, e1, q1⟩ => test_link (thn (hb.run pins s1 σ H1 _ I1 q1) fun u s2 ⟨y, H2, I2, e2, q2⟩ =>
    thn (h1 pins s2 σ H2 x y v u _ I2 e1 e2 q2) fun t s3 ⟨z, H3, I3, e3, k, ek, q3⟩ => by
      subst ek
      cases e3
      refine wpAny_truthy_bool ?_
      cases k with
      | false => exact ite_ff ⟨H3, I3, q3⟩
      | true =>
        refine ite_tt (test_link (thn (hc.run pins s3 σ H3 _ I3 q3) fun v4 s4 ⟨z4, H4, I4, e4, q4⟩ => thn (h2 pins s4 σ H4 y z4 u v4 _ I4 e2 e4 q4) fun t5 s5 ⟨z5, H5, I5, e5, j, ej, q5⟩ => ?_))
        subst ej
        cases e5
        refine wpAny_truthy_bool ?_
        cases j with
        | false => exact ite_ff ⟨H5, I5, q5⟩
        | true =>
          refine ite_tt (test_last (thn (hd.run pins s5 σ H5 _ I5 q5) fun v6 s6 ⟨z6, H6, I6, e6, q6⟩ => thn (h3 pins s6 σ H6 z4 z6 v4 v6 _ I6 e4 e6 q6) fun t7 s7 ⟨z7, H7, I7, e7, i, ei, q7⟩ => ?_))
          subst ei
          cases e7
          exact wpAny_truthy_bool ⟨H7, I7, q7⟩)) hm⟩
end Fx
namespace Fx
open PySem PySem.Spec PyProof.Rows L2
theorem pg_tupK {X : Cx} {K : PySem.W.Frag} {es : List Expr} {k : Nat} {t : TGs} {n : Nat} {pos : Pos} (hK : X.K = K) (hc : X.calm = true) (h : PGs X es t) (hn : (assignEach es X.env).length = n := by rfl) (hst : (assignEach es X.env).findIdx? (·.1) = none := by rfl) : PG X (.Tuple es k pos) (gTup K n t) := hK ▸ pg_tup hc h hn hst
end Fx
namespace Fx
open PySem PySem.Spec PyProof.Rows L2
/-- what follows an expression is a word of its own -/
theorem cute_ {t : TE} {σ : L2.St} {H : Hp} {Q : VK} (h : ∀ N : VK, (∀ v H1, Q v H1 → N v H1) → t σ H N) : t σ H Q := h _ fun _ _ x => x
end Fx
namespace Fx
open PySem PySem.Spec PyProof.Rows L2
def fClear : V → List V → Hp → VK → Prop := fun x vs H Q => match x, vs with
  | .ref l, [] => match H l with
    | some (.lst _) => Q .non (upd H l (.lst []))
    | _ => False
  | _, _ => False
theorem mt_fClear {X : Cx} : MtR X "list.clear" fClear := by
  intro pins s σ H x xs v us Q I rx rs h
  unfold fClear at h
  split at h
  · split at h
    · exact mt_clear pins s σ H _ _ v us Q I rx rs ⟨_, _, rfl, rfl, by assumption, h⟩
    · exact h.elim
  · exact h.elim
end Fx

set_option Elab.async false
set_option linter.all false
set_option maxRecDepth 100000
set_option maxHeartbeats 1000000
/-! Wr: text.replace of written texts, loops over enumerate. -/
namespace Fx
open PySem PySem.Spec PyProof.Rows L2
section
variable {X : Cx}
/-- e.replace("a", "b") by value -/
def fReplC (to : TE) (y z : Str) : TE := fun σ H Q => to σ H fun v H1 => match v with
  | .str x => x.length + (x.length + 1) * z.length ≤ 16777216 ∧ Q (.str (Txt.replace x y z)) H1
  | _ => False
theorem pet_wk {e : Expr} {t t' : TE} (h : PET X e t) (wk : ∀ σ H Q, t' σ H Q → t σ H Q) : PET X e t' := fun pins s σ H Q h0 I q => h pins s σ H Q h0 I (wk σ H Q q)
theorem pet_clos {e : Expr} {t : TE} (h : PET X e t) : PET X e (clos t) := fun pins s σ H Q h0 I ⟨Q0, q, wk⟩ => wpAny_mono (h pins s σ H Q0 h0 I q) (fun u s' ⟨v, H', I', r, q⟩ => ⟨v, H', I', r, wk v H' q⟩) fun _ _ x => x
theorem fet_repl {o : Expr} {to : TE} {y z : Str} {j k : Nat} {c0 c1 apos pos : Pos} (ho : PET X o to) (hyz : (y == z) = false)
    (hst : starEach [.Constant (.str y) j c0, .Constant (.str z) k c1] X.env = [(false, eval (.Constant (.str y) j c0) X.env), (false, eval (.Constant (.str z) k c1) X.env)] := by rfl)
    (hbase : attributeBase o "replace" X.env (eval o X.env) = eval o X.env := by rfl) (hline : (apos.endLine == pos.line) = true := by rfl) :
    PET X (.Call (.Attribute o "replace" apos) [.Constant (.str y) j c0, .Constant (.str z) k c1] [] pos) (fReplC to y z) :=
  pet_wk (CwR.pet_replT (pet_clos ho) hyz hst hbase hline) fun σ H Q q => ⟨_, q, fun v H1 q => by
    split at q
    · exact ⟨_, rfl, q⟩
    · exact q.elim⟩
/-- i ** j, small -/
def fPow : R2 := fun x y H Q => match x, y with
  | .int i, .int j => (0 ≤ j ∧ j ≤ 1000000 ∧ i.natAbs < 18446744073709551616) ∧ Q (.int (i ^ j.toNat)) H
  | _, _ => False
theorem op_fPow : OpR X (binaryOp .Pow) fPow := by
  intro pins s σ H x y v u Q I rx ry h
  match x, y, rx, ry, h with
  | .int i, .int j, rx, ry, h => exact op_pow pins s σ H _ _ v u Q I rx ry ⟨i, j, rfl, rfl, h.1, h.2⟩
/-- x = e, e with a token -/
theorem pst_set {i : Nat} {x : Str} {e : Expr} {te : TE} {pos pos' : Pos} (hN : X.N.Nodup) (hi : X.N[i]? = some x) (hx : Loc X.env.scope x) (he : PET X e te) (hs : swapsWith e (some (.Name x pos')) pos.line X.env = pure false) (hf : X.fn x = true ∨ X.env.scope.names.lookup x = some .local := by first | exact .inl rfl | exact .inr rfl | assumption) :
    PST X (.Assign [.Name x pos'] e pos) (tAsg te (gName i)) := fun pins s σ H D h0 I h =>
  wpAny_Assign_Name (thn (he pins s σ H _ h0 I h) fun _ s1 ⟨_, H1, I1, r1, q1⟩ => store_ok I1 hN hi hx r1 (fun _ I2 => ⟨_, H1, I2, q1⟩) hf) hs
end
section
variable {P : Program} {w : World} {K : PySem.W.Frag} {mg : Str → Option Value} {base : Heap}
/-- a def whose body takes a token -/
theorem hasT_of {x qual : Str} {st : Stmt} {N ps : List Str} {k : Nat} {sp : Sp} (A : At K mg x qual st ps) (S : FnScope N ps (defScope st)) (hnc : ∀ y ∈ (defScope st).names, y.2 ≠ .cell) (hps : 1 ≤ ps.length) (len : ∀ vs H Q E, sp vs H Q E → vs.length = ps.length)
    (hbody : ∀ (cdv : Value) (f : Addr) (A : Around) (outer : List Env) (s : Shared) (H : Hp) (vs : List V) (Q : VK) (E : XK), Room k (A.deeper (envOfC qual (defScope st) s.heap.objs.size f cdv)) → sp vs H Q E →
      ∃ t, PSsT (cxOf CX0 P w K mg base N qual (defScope st) f cdv A outer s H E) (defBody st) t ∧ t { nx := fun _ H' => Q .non H', rt := Q } (start N vs) H) : Has P w K mg base CX0 x (k + 1) ps sp := by
  obtain ⟨f, fd, F, B, G⟩ := A.ex
  have F2 := F
  obtain ⟨oc, od, kV, doc, pm, an, cdv, ct, osl, rfl, lk, hcd⟩ := F.ex
  exact ⟨f, _, fn_ofT lk hcd S hnc hps len fun A outer s H vs Q E hr hsp => hbody cdv f A outer s H vs Q E hr hsp, B, G, F2.kp⟩
end
/-- the loop of for at, x in enumerate(xs) -/
theorem loop_enum {K : PySem.W.Frag} {a : Addr} {xs : List V} {g : TG} {tb : TS} {D : Ends} {σ : L2.St} {H : Hp} (Pv : Nat → L2.St → Hp → Prop) (h0 : Pv 0 σ H) (hl : ∀ i σ H, i ≤ xs.length → Pv i σ H → SqL K H a xs)
    (hs : ∀ (i : Nat) x T σ H, xs[i]? = some x → Pv i σ H → H T = none → g (.ref T) σ (upd H T (.tup [.int (i : Nat), x])) fun σ2 H2 => tb { D with nx := Pv (i + 1), ct := Pv (i + 1), bk := D.nx } σ2 H2) (hd : ∀ σ H, Pv xs.length σ H → D.nx σ H) : Loop (Ite K a) g tb D σ H :=
  L2.for_it walk_enum Pv h0 hl (fun i x σ H H' hi p y => by
    obtain ⟨T, u, v, e1, e2, e3, e4, e5⟩ := y
    cases e4
    subst e1
    rw [e3]
    exact hs i v T σ H e5 p e2) hd
end Fx

set_option Elab.async false
set_option linter.all false
set_option maxRecDepth 100000
set_option maxHeartbeats 1000000
/-! Df: makings of classes whose __init__ has one default, the empty tuple. -/
namespace Fx
open PySem PySem.Spec PyProof.Rows L2
/-- what the top has written of a method with one default, the empty tuple -/
structure MFactD (K : PySem.W.Frag) (C : Addr) (x qual : Str) (st : Stmt) : Prop where
  ex : ∃ (f : Addr) (oc : Value) (od an : Option Addr) (sl : Array (Option Value)) (T e : Addr) (kV dc pm cd ct : Value) (o : Obj) (n : Nat),
    PySem.W.findIn K (.ref C) x = some (some (.ref f)) ∧ K.lookup f = some ⟨oc, od, .func (PySem.W.fnOf x qual (defArgs st) (defBody st) (defScope st) (.ref T) kV dc pm an cd ct), sl⟩ ∧
    PySem.W.codeIn K cd qual = true ∧ PySem.W.keepIn K (.ref f) = true ∧ PySem.W.isFn K (.ref f) = true ∧ K.lookup T = some o ∧ o.data = .seq [Value.ref e].toArray n ∧ ∀ H, SqT K H e []
/-- such a method, with the parameters ps (the last one has the default) -/
structure AtD (K : PySem.W.Frag) (C : Addr) (x qual : Str) (st : Stmt) (ps : List Str) : Prop where
  ex : ∃ (f : Addr) (fd : FuncData) (e : Addr) (ds : List Value), FunD K x qual (defArgs st) (defBody st) (defScope st) [.ref e] [] f fd ∧ (∀ H, SqT K H e []) ∧ Vals [.ref e] ds ∧ Binds K fd ps ds ∧ Meth K C x f
theorem AtD.of {K : PySem.W.Frag} {C : Addr} {x qual : Str} {st : Stmt} {ps : List Str} {n : Nat} (F : MFactD K C x qual st) (hn : n + 1 = ps.length)
    (h : ∀ (T : Addr) (kV doc pm : Value) (an : Option Addr) (cdv ct : Value) (us its : List Value), us.length = n → its.length = 1 →
      ∃ k, bindArgs (PySem.W.fnOf x qual (defArgs st) (defBody st) (defScope st) (.ref T) kV doc pm an cdv ct) ⟨us, []⟩ = seqItems? (.ref T) >>= k ∧ k (some its.toArray) = pure (ps.zip (us ++ its))) : AtD K C x qual st ps := by
  obtain ⟨f, oc, od, an, sl, T, e, kV, dc, pm, cd, ct, o, m, a, l, c, k, i, lT, oT, hE⟩ := F.ex
  have FD : FunD K x qual (defArgs st) (defBody st) (defScope st) [.ref e] [] f (PySem.W.fnOf x qual (defArgs st) (defBody st) (defScope st) (.ref T) kV dc pm an cd ct) :=
    ⟨⟨oc, od, .ref T, kV, dc, pm, an, cd, ct, sl, rfl, l, c, .inr ⟨by simp, T, o, [.ref e], m, rfl, lT, oT, .cons rfl .nil⟩, .inl rfl⟩, k⟩
  obtain ⟨ds, hd, hb⟩ := FD.binds1 (ps := ps) n 0 (by simp) hn h
  exact ⟨f, _, e, ds, FD, hE, hd, hb, ⟨a, i, k⟩⟩
/-- a class whose making (all but the default are given) keeps a promise -/
structure HasCD (P : Program) (w : World) (K : PySem.W.Frag) (mg : Str → Option Value) (base : Heap) (CX : CXT) (C : Addr) (x : Str) (k : Nat) (ps : List Str) (sp : Sp) : Prop where
  ex : ∃ (f : Addr) (fd : FuncData) (sp' : Sp) (dv : V) (ds : List Value), FnOk P w K mg base CX k f fd ps sp' ∧ Binds K fd ps ds ∧ Vals [dv] ds ∧ Mk K C f ∧ mg x = some (.ref C) ∧
    ∀ vs H Q E, sp vs H Q E → ∀ y dx H0, H y = none → Same H H0 → H0 y = some (.ins C dx []) → sp' (.ref y :: (vs ++ [dv])) H0 (fun v H2 => v = .non ∧ Q (.ref y) H2) E
section
variable {P : Program} {w : World} {K : PySem.W.Frag} {mg : Str → Option Value} {base : Heap}
theorem hasCD_of {C : Addr} {x qual : Str} {st : Stmt} {N ps : List Str} {k : Nat} {sp : Sp} (M : MkAt K mg x C) (A : AtD K C "__init__" qual st ps) (S : FnScope N ps (defScope st)) (len : ∀ vs H Q E, sp vs H Q E → vs.length + 2 = ps.length)
    (hbody : ∀ (cdv : Value) (A : Around) (outer : List Env) (s : Shared) (f : Addr) (H : Hp) (vs : List V) (Q : VK) (E : XK) (y dx e : Addr) (H0 : Hp), Room k (A.deeper (envOfC qual (defScope st) s.heap.objs.size f cdv)) → sp vs H Q E → H y = none → Same H H0 → H0 y = some (.ins C dx []) → (∀ H, SqT K H e []) →
      ∃ t, PSs (cxOf CX0 P w K mg base N qual (defScope st) f cdv A outer s H0 E) (defBody st) t ∧ t { nx := fun _ H' => Q (.ref y) H', rt := fun v H' => v = .non ∧ Q (.ref y) H' } (start N (.ref y :: (vs ++ [.ref e]))) H0) : HasCD P w K mg base CX0 C x (k + 1) ps sp := by
  obtain ⟨f, fd, e, ds, F, hE, hd, B, G⟩ := A.ex
  refine ⟨f, fd, fun ws H0 Q' E => ∃ y vs H Q dx, ws = .ref y :: (vs ++ [.ref e]) ∧ sp vs H Q E ∧ H y = none ∧ Same H H0 ∧ H0 y = some (.ins C dx []) ∧ Q' = fun v H2 => v = .non ∧ Q (.ref y) H2, .ref e, ds, ?_, B, hd, ⟨M.makes, G.at_, G.fn, M.kp⟩, M.at_, ?_⟩
  · refine F.ok S (fun ws H0 Q' E h => ?_) fun cdv A outer s H0 ws Q' E hr h => ?_
    · obtain ⟨y, vs, H, Q, dx, rfl, h, _⟩ := h
      have := len vs H Q E h
      rw [List.length_cons, List.length_append, List.length_singleton]
      exact this
    · obtain ⟨y, vs, H, Q, dx, rfl, h, hy, hs, h0, rfl⟩ := h
      obtain ⟨t, h1, h2⟩ := hbody cdv A outer s f H vs Q E y dx e H0 hr h hy hs h0 hE
      refine ⟨t, h1, ?_⟩
      have e : (fun (_ : L2.St) (H' : Hp) => (fun v H2 => v = V.non ∧ Q (.ref y) H2) V.non H') = fun _ H' => Q (.ref y) H' := by
        funext _ H'
        exact propext ⟨fun h => h.2, fun h => ⟨rfl, h⟩⟩
      rw [e]
      exact h2
  · intro vs H Q E h y dx H0 hy hs h0
    exact ⟨y, vs, H, Q, dx, rfl, h, hy, hs, h0, rfl⟩
end
section
variable {X : Cx} {CX : CXT} {k : Nat} {C : Addr} {x : Str} {p pos : Pos} {e : Expr} {es : List Expr} {t : TA} {ps : List Str} {sp : Sp} {E : XK}
theorem fe_makeD (h : HasCD X.prog X.w X.K X.mg X.base CX C x k ps sp) (hr : Room (k + 1) X.A) (hg : Gl X x) (hx : Passes CX X E) (ha : PA X (e :: es) t) (hd : (x == ("__debug__" : Str)) = false := by decide)
    (hs : starEach (e :: es) X.env = (false, eval e X.env) :: starEach es X.env := by rfl) (hplain : (backTo pos (starEach es X.env)).any (·.1) = false := by rfl) : PE X (.Call (.Name x p) (e :: es) [] pos) (tCall sp [] E t) := by
  obtain ⟨f, fd, sp', dv, ds, F, B, hv, M, G, h⟩ := h.ex
  refine pe_wk (pe_make M F hr hg G B hv hx (pa_clos ha) hd hs hplain) fun σ H Q q => ⟨_, q, fun vs H1 q y dx n1 n2 n3 => ?_⟩
  rw [List.append_nil] at q
  refine h vs H1 Q E q y dx _ n1 (fun b z ez => ?_) upd_same
  rw [upd_ne (ne_of_none ez n1), upd_ne (ne_of_none ez n2)]
  exact ez
end
end Fx

set_option Elab.async false
set_option linter.all false
set_option maxRecDepth 100000
set_option maxHeartbeats 1000000
/-! Hd: heads: what the top leaves, read off by one run of the kernel. -/
namespace Hd
open PySem PySem.Spec PyProof.Rows L2 Fx
/-! ### facts as tests -/
def opB (K : PySem.W.Frag) (C : Addr) : Bool := PySem.W.plainGet K C Str.empty && (PySem.W.hasDictIn K C && (PySem.W.plainOver K C && (decide (PySem.W.findIn K (.ref C) "__setattr__" = some (some (.builtin "object.__setattr__"))) &&
  (decide (PySem.W.findIn K (.ref C) "__class__" = some (some (.builtin "object.__class__"))) && (decide (PySem.W.mroIn K C (.type "object") = some true) && (PySem.W.makesIn K C && PySem.W.keepIn K (.ref C)))))))
theorem opB_ok {K : PySem.W.Frag} {C : Addr} (h : opB K C = true) : ClsFact K C := by
  simp only [opB, Bool.and_eq_true, decide_eq_true_eq] at h
  obtain ⟨h1, h2, h3, h4, h5, h6, h7, h8⟩ := h
  exact ⟨h1, h2, h3, h4, h5, h6, h7, h8⟩
/-- an exception class of the program -/
def exB (K : PySem.W.Frag) (C : Addr) : Bool := (match K.lookup C with
  | some ⟨.type t, _, .cls cd, sl⟩ => decide (t = "type") && (match cd.mro, sl.toList with
    | .ref D :: bm, [_, _, _, _, some (.builtin n), _] => decide (D = C) && (decide (n = "ValueError.__new__") && (!cd.hasDel && (cd.hasDict && PySem.HandSPX.refsVE bm)))
    | _, _ => false)
  | _ => false) && (decide (PySem.W.findIn K (.ref C) "__setattr__" = some (some (.builtin "object.__setattr__"))) && (decide (PySem.W.findIn K (.ref C) "__getattribute__" = some (some (.builtin "BaseException.__getattribute__"))) &&
  (decide (PySem.W.findIn K (.ref C) "__getattr__" = some none) && (decide (PySem.W.subIn K (.ref C) (.type "BaseException") = some true) && (decide (PySem.W.typeIn K (.ref C) = some (.type "type")) && (PySem.W.keepIn K (.ref C) && (PySem.W.hasDictIn K C &&
  (decide (PySem.W.findIn K (.ref C) "__class__" = some (some (.builtin "object.__class__"))) && decide (PySem.W.mroIn K C (.type "object") = some true)))))))))
theorem exB_ok {K : PySem.W.Frag} {C : Addr} (h : exB K C = true) : ExcFact K C := by
  obtain ⟨h0, h⟩ := Bool.and_eq_true_iff.mp h
  simp only [Bool.and_eq_true, decide_eq_true_eq] at h
  obtain ⟨h1, h2, h3, h4, h5, h6, h7, h8, h9⟩ := h
  refine ⟨?_, h1, h2, h3, h4, h5, h6, h7, h8, h9⟩
  split at h0
  · rename_i t dd cd sl lk
    obtain ⟨g1, g2⟩ := Bool.and_eq_true_iff.mp h0
    have g1 := of_decide_eq_true g1
    subst g1
    split at g2
    · rename_i D bm k0 k1 k2 k3 n k5 hm hs
      simp only [Bool.and_eq_true, decide_eq_true_eq, Bool.not_eq_true'] at g2
      obtain ⟨rfl, rfl, e3, e4, e5⟩ := g2
      obtain ⟨nm, bs, mro, ns, qn, hd, sn, sub, ab, col, del⟩ := cd
      obtain ⟨sl⟩ := sl
      dsimp only at hm hs e3 e4
      subst hm hs e3 e4
      exact ⟨_, _, _, _, _, _, _, _, _, _, _, _, _, _, _, lk, e5⟩
    · cases g2
  · cases h0
/-- the getter of a property -/
def pa (K : PySem.W.Frag) (C : Addr) (x : Str) : Addr := match PySem.W.recIn K (He.ma K C x) "property" with
  | some (.ref f :: _) => f
  | _ => 0
/-- a name that stands for nothing, an object, a number, a text, a tuple -/
inductive Fh where
  | glo (x : Str)
  | free (x : Str)
  | int (x : Str) (i : Int)
  | str (x z : Str)
  | tup (x : Str) (vs : List V)
  | cls (x : Str)
  | exc (x : Str)
  | noat (x f : Str)
  | sub (x y : Str) (b : Bool)
  | kit (x y : Str) (b : Bool)
  | kio (x y : Str)
  | kib (n : String) (y : Str)
  | kob (x : Str) (n : String)
  | obj
  | ne (x y : Str)
  | keep (x : Str)
  | meth (x m : Str)
  | init (x : Str)
  | prop (x m : Str)
  | dict (x : Str) (ks : List (Str × Option V))
  | dicT (x : Str) (ks : List (Str × Option (List V)))
def entB (K : PySem.W.Frag) (d : Addr) : Str × Option V → Bool
  | (z, none) => He.eqO (PySem.W.nsIn K d z) (some none)
  | (z, some v) => match PySem.W.nsIn K d z with
    | some (some u) => He.relB v u
    | _ => false
def tupAt (K : PySem.W.Frag) (a : Addr) (vs : List V) : Bool := match K.lookup a with
  | some ⟨.type c, _, .seq its _, _⟩ => decide (c = "tuple") && (decide (its.size ≤ 1000) && He.relAll vs its.toList)
  | _ => false
def enTB (K : PySem.W.Frag) (d : Addr) : Str × Option (List V) → Bool
  | (z, none) => He.eqO (PySem.W.nsIn K d z) (some none)
  | (z, some vs) => match PySem.W.nsIn K d z with
    | some (some (.ref a)) => tupAt K a vs
    | _ => false
def dicB (K : PySem.W.Frag) (d : Addr) : Bool := (match K.lookup d with
  | some ⟨.type c, none, .dict _ _, sl⟩ => decide (c = "dict") && decide (sl.toList.length = 0)
  | _ => false) && !(d == sysModules)
open He (ga ma eqO)
def Fh.ok (K : PySem.W.Frag) : Fh → Bool
  | .glo x => eqO (PySem.W.nsIn K mainGlobals x) (some (some (.ref (ga K x))))
  | .free x => eqO (PySem.W.nsIn K mainGlobals x) (some none)
  | .int x i => (match PySem.W.nsIn K mainGlobals x with
    | some (some u) => He.relB (.int i) u
    | _ => false)
  | .str x z => (match PySem.W.nsIn K mainGlobals x with
    | some (some u) => He.relB (.str z) u
    | _ => false)
  | .tup x vs => tupAt K (ga K x) vs
  | .cls x => opB K (ga K x)
  | .exc x => exB K (ga K x)
  | .noat x f => eqO (PySem.W.findIn K (.ref (ga K x)) f) (some none)
  | .sub x y b => decide (PySem.W.subIn K (.ref (ga K x)) (.ref (ga K y)) = some b)
  | .kit x y b => decide (PySem.W.kitOne K (.ref (ga K x)) (.ref (ga K y)) = some b)
  | .kio x y => decide (PySem.W.kitOne K (.ref (ga K x)) (.ref (ga K y)) = some (decide (ga K x = ga K y)))
  | .kib n y => decide (PySem.W.kitOne K (.type n) (.ref (ga K y)) = some false)
  | .kob x n => decide (PySem.W.kitOne K (.ref (ga K x)) (.type n) = some false)
  | .obj => decide (PySem.W.specialIn K (.builtin "object.__class__") "__get__" = some (some (.builtin "getset_descriptor.__get__"))) && decide (PySem.W.takesIn K (.builtin "object.__class__") = some true)
  | .ne x y => decide (ga K x ≠ ga K y)
  | .keep x => PySem.W.keepIn K (.ref (ga K x))
  | .meth x m => eqO (PySem.W.findIn K (.ref (ga K x)) m) (some (some (.ref (ma K (ga K x) m)))) && (PySem.W.keepIn K (.ref (ma K (ga K x) m)) && PySem.W.isFn K (.ref (ma K (ga K x) m)))
  | .init x => eqO (PySem.W.findIn K (.ref (ga K x)) "__init__") (some (some (.ref (ma K (ga K x) "__init__")))) && (PySem.W.keepIn K (.ref (ma K (ga K x) "__init__")) && decide (PySem.W.typeIn K (.ref (ma K (ga K x) "__init__")) = some (.type "function")))
  | .prop x m => eqO (PySem.W.findIn K (.ref (ga K x)) m) (some (some (.ref (ma K (ga K x) m)))) && (decide (PySem.W.specialIn K (.ref (ma K (ga K x) m)) "__get__" = some (some (.builtin "property.__get__"))) && (decide (PySem.W.takesIn K (.ref (ma K (ga K x) m)) = some true) &&
    ((match PySem.W.recIn K (ma K (ga K x) m) "property" with
      | some (.ref _ :: _) => true
      | _ => false) && PySem.W.keepIn K (.ref (pa K (ga K x) m)))))
  | .dict x ks => dicB K (ga K x) && ks.all (entB K (ga K x))
  | .dicT x ks => dicB K (ga K x) && ks.all (enTB K (ga K x))
/-! ### functions -/
inductive At_ where
  | glo (x : Str)
  | meth (x m : Str)
  | prop (x m : Str)
def At_.ad (K : PySem.W.Frag) : At_ → Addr
  | .glo x => ga K x
  | .meth x m => ma K (ga K x) m
  | .prop x m => pa K (ga K x) m
structure Df where
  at_ : At_
  name : Str
  qual : Str
  st : Stmt
  d : Bool
/-- a tuple of one thing, the empty tuple -/
def emT (K : PySem.W.Frag) (T : Addr) : Bool := match K.lookup T with
  | some ⟨_, _, .seq its _, _⟩ => (match its.toList with
    | [.ref e] => tupAt K e []
    | _ => false)
  | _ => false
def nrm (K : PySem.W.Frag) : Value → Value
  | .none => .none
  | .ref T => if emT K T = true then .type "dfl" else .type "other"
  | _ => .type "other"
theorem nrm_none {K : PySem.W.Frag} {v : Value} (h : nrm K v = .none) : v = .none := by
  unfold nrm at h
  split at h
  · rfl
  · split at h <;> cases h
  · cases h
abbrev FV : Type := Option (Str × Str × Arguments × FuncBody × Scope × Addr × List (Str × Addr) × Value × Addr)
def fv (K : PySem.W.Frag) (a : Addr) : FV := match K.lookup a with
  | some o => match o.data with
    | .func g => some (g.name, g.qualname, g.params, g.body, g.scope, g.globals, g.closure, nrm K g.defaults, g.builtins)
    | _ => none
  | none => none
def fc (K : PySem.W.Frag) (a : Addr) (q : Str) : Bool := match K.lookup a with
  | some o => match o.data with
    | .func g => PySem.W.codeIn K g.code q
    | _ => false
  | none => false
def Df.val (d : Df) : FV := some (d.name, d.qual, defArgs d.st, .stmts (defBody d.st), defScope d.st, mainGlobals, [], (if d.d = true then .type "dfl" else .none), builtinsNs)
theorem fv_ok0 {K : PySem.W.Frag} {a : Addr} {d : Df} (e : fv K a = d.val) (c : fc K a d.qual = true) :
    ∃ oc od sl dV kV dc pm an cd ct, K.lookup a = some ⟨oc, od, .func (PySem.W.fnOf d.name d.qual (defArgs d.st) (defBody d.st) (defScope d.st) dV kV dc pm an cd ct), sl⟩ ∧ PySem.W.codeIn K cd d.qual = true ∧ nrm K dV = (if d.d = true then .type "dfl" else .none) := by
  unfold fv at e
  unfold fc at c
  split at e
  · rename_i o lk
    rw [lk] at c
    obtain ⟨oc, od, dt, sl⟩ := o
    dsimp only at e c
    split at e
    · rename_i g
      obtain ⟨m1, m2, m3, m4, m5, m6, m7, m8, m9, m10, m11, m12, m13, m14, m15⟩ := g
      unfold Df.val at e
      simp only [Option.some.injEq, Prod.mk.injEq] at e
      obtain ⟨g1, g2, g3, g4, g5, g6, g7, g8, g9⟩ := e
      subst g1 g2 g3 g4 g5 g6 g7 g9
      exact ⟨oc, od, sl, _, m9, m10, m11, m12, m13, m14, lk, c, g8⟩
    · cases e
  · cases e
theorem fv_ok {K : PySem.W.Frag} {a : Addr} {d : Df} (hd : d.d = false) (e : fv K a = d.val) (c : fc K a d.qual = true) :
    ∃ oc od sl kV dc pm an cd ct, K.lookup a = some ⟨oc, od, .func (PySem.W.fnOf d.name d.qual (defArgs d.st) (defBody d.st) (defScope d.st) .none kV dc pm an cd ct), sl⟩ ∧ PySem.W.codeIn K cd d.qual = true := by
  obtain ⟨oc, od, sl, dV, kV, dc, pm, an, cd, ct, l, h1, h2⟩ := fv_ok0 e c
  rw [hd, if_neg (by simp)] at h2
  rw [nrm_none h2] at l
  exact ⟨oc, od, sl, kV, dc, pm, an, cd, ct, l, h1⟩
theorem fv_okD {K : PySem.W.Frag} {a : Addr} {d : Df} (hd : d.d = true) (e : fv K a = d.val) (c : fc K a d.qual = true) :
    ∃ oc od sl T kV dc pm an cd ct, K.lookup a = some ⟨oc, od, .func (PySem.W.fnOf d.name d.qual (defArgs d.st) (defBody d.st) (defScope d.st) (.ref T) kV dc pm an cd ct), sl⟩ ∧ PySem.W.codeIn K cd d.qual = true ∧ emT K T = true := by
  obtain ⟨oc, od, sl, dV, kV, dc, pm, an, cd, ct, l, h1, h2⟩ := fv_ok0 e c
  rw [hd, if_pos rfl] at h2
  unfold nrm at h2
  split at h2
  · cases h2
  · rename_i T
    split at h2
    · exact ⟨oc, od, sl, T, kV, dc, pm, an, cd, ct, l, h1, by assumption⟩
    · exact absurd h2 (by simp)
  · exact absurd h2 (by simp)
/-! ### dicts: their keys -/
def keyT (e : DictEntry) : Int × Option Str := (e.hash, match e.key with | .str x _ => some x | _ => none)
def dk (K : PySem.W.Frag) (d : Addr) : List (Int × Option Str) := match K.lookup d with
  | some o => match o.data with
    | .dict es _ => es.toList.map keyT
    | _ => []
  | none => []
theorem keys_lit {P : Params} : ∀ {es : List DictEntry} {ks : List Str}, es.map keyT = ks.map (fun z => (PyData.keyHash P z, some z)) → PySem.W.KeysLit P es
  | [], _, _ => trivial
  | e :: es, [], h => by cases h
  | e :: es, k :: ks, h => by
    rw [List.map_cons, List.map_cons] at h
    obtain ⟨h1, h2⟩ := List.cons.inj h
    unfold keyT at h1
    obtain ⟨h3, h4⟩ := Prod.mk.inj h1
    refine ⟨?_, keys_lit h2⟩
    split at h4
    · rename_i x t ek
      cases h4
      exact ⟨k, t, ek, h3⟩
    · cases h4
/-! ### the Hook -/
/-- what these objects reach in n steps, front by front -/
def asF (g : Addr → Option Obj) : Nat → List Addr → List Addr
  | 0, fr => fr
  | n + 1, fr => fr ++ asF g n (fr.flatMap fun a => match g a with
    | some o => He.refsD o
    | none => [])
/-- what these names of the module reach -/
def asN (g : Addr → Option Obj) (n : Nat) (xs : List Str) : List Addr := mainGlobals :: asF g n (xs.map (He.ga (He.frG g [mainGlobals])))
abbrev Al : Type := Bool × List FV × List (List (Int × Option Str))
def obsK (fa : List Fh) (fn : List Df) (ds : List (Str × List Str)) (K : PySem.W.Frag) : Al := ((fa.all fun f => f.ok K) && fn.all fun d => fc K (d.at_.ad K) d.qual, fn.map fun d => fv K (d.at_.ad K), ds.map fun d => dk K (ga K d.1))
def valK (w : World) (fn : List Df) (ds : List (Str × List Str)) : Al := (true, fn.map Df.val, ds.map fun d => d.2.map fun z => (PyData.keyHash w.params z, some z))
def Says (fa : List Fh) (fn : List Df) (ds : List (Str × List Str)) (w : World) (K : PySem.W.Frag) : Prop := obsK fa fn ds K = valK w fn ds
def obsG (n : Nat) (xs : List Str) (fa : List Fh) (fn : List Df) (ds : List (Str × List Str)) (g : Addr → Option Obj) : Al := obsK fa fn ds (He.frG g (asN g n xs))
def hook (n : Nat) (xs : List Str) (fa : List Fh) (fn : List Df) (ds : List (Str × List Str)) : PySem.W.Hook where
  α := Al
  obs := fun s => obsG n xs fa fn ds s.heap.get?
  val := fun w => valK w fn ds
  says := fun w h => ∃ K : PySem.W.Frag, K.In h ∧ Says fa fn ds w K
  of := fun _ _ e => ⟨_, He.frG_in, e⟩
  keeps := fun _ _ _ ⟨K, hK, c⟩ k => ⟨K, PySem.W.Frag.In.keeps hK k, c⟩
theorem obsG_eq {n : Nat} {xs : List Str} {fa : List Fh} {fn : List Df} {ds : List (Str × List Str)} {g : Addr → Option Obj} {s : Shared} (h : ∀ a, g a = s.heap.get? a) : obsG n xs fa fn ds g = (hook n xs fa fn ds).obs s := by
  rw [funext h]; rfl
section
variable {fa : List Fh} {fn : List Df} {ds : List (Str × List Str)} {K : PySem.W.Frag} {w : World}
theorem Says.fact (c : Says fa fn ds w K) (i : Nat) {f : Fh} (h : fa[i]? = some f) : f.ok K = true := by
  have c1 : ((fa.all fun f => f.ok K) && fn.all fun d => fc K (d.at_.ad K) d.qual) = true := congrArg (fun z : Al => z.1) c
  exact List.all_eq_true.mp (Bool.and_eq_true_iff.mp c1).1 f (List.mem_of_getElem? h)
theorem Says.def0 (c : Says fa fn ds w K) (i : Nat) {d : Df} (h : fn[i]? = some d) : fv K (d.at_.ad K) = d.val ∧ fc K (d.at_.ad K) d.qual = true := by
  have c1 : ((fa.all fun f => f.ok K) && fn.all fun d => fc K (d.at_.ad K) d.qual) = true := congrArg (fun z : Al => z.1) c
  have c2 : fn.map (fun d => fv K (d.at_.ad K)) = fn.map Df.val := congrArg (fun z : Al => z.2.1) c
  have e : (fn.map fun d => fv K (d.at_.ad K))[i]? = (fn.map Df.val)[i]? := by rw [c2]
  rw [List.getElem?_map, List.getElem?_map, h] at e
  exact ⟨Option.some.inj e, List.all_eq_true.mp (Bool.and_eq_true_iff.mp c1).2 d (List.mem_of_getElem? h)⟩
theorem Says.def_ (c : Says fa fn ds w K) (i : Nat) {d : Df} (hd : d.d = false) (h : fn[i]? = some d) : ∃ oc od sl kV dc pm an cd ct, K.lookup (d.at_.ad K) = some ⟨oc, od, .func (PySem.W.fnOf d.name d.qual (defArgs d.st) (defBody d.st) (defScope d.st) .none kV dc pm an cd ct), sl⟩ ∧ PySem.W.codeIn K cd d.qual = true := by
  obtain ⟨e, c1⟩ := c.def0 i h
  exact fv_ok hd e c1
theorem Says.dic (c : Says fa fn ds w K) (i : Nat) {d : Str × List Str} (h : ds[i]? = some d) : dk K (ga K d.1) = d.2.map fun z => (PyData.keyHash w.params z, some z) := by
  have c2 : ds.map (fun d => dk K (ga K d.1)) = ds.map fun d => d.2.map fun z => (PyData.keyHash w.params z, some z) := congrArg (fun z : Al => z.2.2) c
  have e : (ds.map fun d => dk K (ga K d.1))[i]? = (ds.map fun d => d.2.map fun z => (PyData.keyHash w.params z, some z))[i]? := by rw [c2]
  rw [List.getElem?_map, List.getElem?_map, h] at e
  exact Option.some.inj e
/-! ### what the walks ask -/
theorem glo_ {x : Str} (h : (Fh.glo x).ok K = true) : PySem.W.nsIn K mainGlobals x = some (some (.ref (ga K x))) := He.eqO_ok h
theorem free_ {x : Str} (h : (Fh.free x).ok K = true) : PySem.W.nsIn K mainGlobals x = some none := He.eqO_ok h
theorem int_ {x : Str} {i : Int} (h : (Fh.int x i).ok K = true) : ∃ t, PySem.W.nsIn K mainGlobals x = some (some (.int i t)) := by
  have h' : (match PySem.W.nsIn K mainGlobals x with | some (some u) => He.relB (.int i) u | _ => false) = true := h
  split at h'
  · rename_i u e
    obtain ⟨t, rfl⟩ := He.relB_ok h'
    exact ⟨t, e⟩
  · cases h'
theorem str_ {x z : Str} (h : (Fh.str x z).ok K = true) : ∃ t, PySem.W.nsIn K mainGlobals x = some (some (.str z t)) := by
  have h' : (match PySem.W.nsIn K mainGlobals x with | some (some u) => He.relB (.str z) u | _ => false) = true := h
  split at h'
  · rename_i u e
    obtain ⟨t, rfl⟩ := He.relB_ok h'
    exact ⟨t, e⟩
  · cases h'
theorem tupAt_ok {a : Addr} {vs : List V} (h : tupAt K a vs = true) : ∀ H, SqT K H a vs := fun H => by
  unfold tupAt at h
  split at h
  · rename_i cc od its n sl lk
    simp only [Bool.and_eq_true, decide_eq_true_eq] at h
    obtain ⟨rfl, h2, h3⟩ := h
    exact .inr ⟨_, its, n, lk, rfl, rfl, Nat.le_trans h2 (by decide), He.relAll_ok h3⟩
  · cases h
/-- a tuple of the module, by its address -/
theorem tup_get {mg : Str → Option Value} {hp : Heap} {x : Str} {vs : List V} (X : K.In hp) (G : hp.Ns mainGlobals mg) (g : (Fh.glo x).ok K = true) (h : (Fh.tup x vs).ok K = true) : GTup K mg x vs := ⟨ga K x, PySem.W.mg_of X G (glo_ g), tupAt_ok h⟩
theorem cls_ {x : Str} (h : (Fh.cls x).ok K = true) : ClsFact K (ga K x) := opB_ok h
theorem exc_ {x : Str} (h : (Fh.exc x).ok K = true) : ExcFact K (ga K x) := exB_ok h
theorem noat_ {x f : Str} (h : (Fh.noat x f).ok K = true) : PySem.W.findIn K (.ref (ga K x)) f = some none := He.eqO_ok h
theorem sub_ {x y : Str} {b : Bool} (h : (Fh.sub x y b).ok K = true) : PySem.W.subIn K (.ref (ga K x)) (.ref (ga K y)) = some b := of_decide_eq_true h
theorem kit_ {x y : Str} {b : Bool} (h : (Fh.kit x y b).ok K = true) : PySem.W.kitOne K (.ref (ga K x)) (.ref (ga K y)) = some b := of_decide_eq_true h
theorem kio_ {x y : Str} (h : (Fh.kio x y).ok K = true) : PySem.W.kitOne K (.ref (ga K x)) (.ref (ga K y)) = some (decide (ga K x = ga K y)) := of_decide_eq_true h
theorem kib_ {n : String} {y : Str} (h : (Fh.kib n y).ok K = true) : PySem.W.kitOne K (.type n) (.ref (ga K y)) = some false := of_decide_eq_true h
theorem kob_ {x : Str} {n : String} (h : (Fh.kob x n).ok K = true) : PySem.W.kitOne K (.ref (ga K x)) (.type n) = some false := of_decide_eq_true h
theorem obj_ (h : Fh.obj.ok K = true) : ObjFact K := by
  have h : (decide (PySem.W.specialIn K (.builtin "object.__class__") "__get__" = some (some (.builtin "getset_descriptor.__get__"))) && decide (PySem.W.takesIn K (.builtin "object.__class__") = some true)) = true := h
  obtain ⟨h1, h2⟩ := Bool.and_eq_true_iff.mp h
  exact ⟨of_decide_eq_true h1, of_decide_eq_true h2⟩
theorem ne_ {x y : Str} (h : (Fh.ne x y).ok K = true) : ga K x ≠ ga K y := of_decide_eq_true h
theorem fn_ {x : Str} {qual : Str} {st : Stmt} (c : Says fa fn ds w K) (i j k : Nat) (h : fn[i]? = some ⟨.glo x, x, qual, st, false⟩) (g : fa[j]? = some (.glo x)) (p : fa[k]? = some (.keep x)) : FnFact K x qual st := by
  obtain ⟨oc, od, sl, kV, dc, pm, an, cd, ct, l, e⟩ := c.def_ i rfl h
  exact FnFact.of (glo_ (c.fact j g)) l e (c.fact k p)
theorem meth_ {x m : Str} {qual : Str} {st : Stmt} (c : Says fa fn ds w K) (i j : Nat) (h : fn[i]? = some ⟨.meth x m, m, qual, st, false⟩) (g : fa[j]? = some (.meth x m)) : MFact K (ga K x) m qual st := by
  obtain ⟨oc, od, sl, kV, dc, pm, an, cd, ct, l, e⟩ := c.def_ i rfl h
  have g := c.fact j g
  obtain ⟨g1, g⟩ := Bool.and_eq_true_iff.mp g
  obtain ⟨g2, g3⟩ := Bool.and_eq_true_iff.mp g
  exact MFact.of (He.eqO_ok g1) l e g2 g3
theorem methD_ {x m : Str} {qual : Str} {st : Stmt} (c : Says fa fn ds w K) (i j : Nat) (h : fn[i]? = some ⟨.meth x m, m, qual, st, true⟩) (g : fa[j]? = some (.meth x m)) : MFactD K (ga K x) m qual st := by
  obtain ⟨e0, c0⟩ := c.def0 i h
  obtain ⟨oc, od, sl, T, kV, dc, pm, an, cd, ct, l, e, hT⟩ := fv_okD rfl e0 c0
  have g := c.fact j g
  obtain ⟨g1, g⟩ := Bool.and_eq_true_iff.mp g
  obtain ⟨g2, g3⟩ := Bool.and_eq_true_iff.mp g
  unfold emT at hT
  split at hT
  · rename_i c1 d1 its n s1 lT
    split at hT
    · rename_i e1 he
      refine ⟨_, oc, od, an, sl, T, e1, kV, dc, pm, cd, ct, _, n, He.eqO_ok g1, l, e, g2, g3, lT, ?_, tupAt_ok hT⟩
      show Data.seq its n = _
      rw [← he]
    · cases hT
  · cases hT
theorem init_ {x : Str} {qual : Str} {st : Stmt} (c : Says fa fn ds w K) (i j : Nat) (h : fn[i]? = some ⟨.meth x "__init__", "__init__", qual, st, false⟩) (g : fa[j]? = some (.init x)) : EFact K (ga K x) qual st := by
  obtain ⟨oc, od, sl, kV, dc, pm, an, cd, ct, l, e⟩ := c.def_ i rfl h
  have g := c.fact j g
  obtain ⟨g1, g⟩ := Bool.and_eq_true_iff.mp g
  obtain ⟨g2, g3⟩ := Bool.and_eq_true_iff.mp g
  exact EFact.of (He.eqO_ok g1) l e g2 (of_decide_eq_true g3)
theorem prop_ {x m : Str} {qual : Str} {st : Stmt} (c : Says fa fn ds w K) (i j : Nat) (h : fn[i]? = some ⟨.prop x m, m, qual, st, false⟩) (g : fa[j]? = some (.prop x m)) : PFact K (ga K x) m qual st := by
  obtain ⟨oc, od, sl, kV, dc, pm, an, cd, ct, l, e⟩ := c.def_ i rfl h
  have g := c.fact j g
  obtain ⟨g1, g⟩ := Bool.and_eq_true_iff.mp g
  obtain ⟨g2, g⟩ := Bool.and_eq_true_iff.mp g
  obtain ⟨g3, g⟩ := Bool.and_eq_true_iff.mp g
  obtain ⟨g4, g5⟩ := Bool.and_eq_true_iff.mp g
  have l : K.lookup (pa K (ga K x) m) = _ := l
  have g5 : PySem.W.keepIn K (.ref (pa K (ga K x) m)) = true := g5
  split at g4
  · rename_i f rest er
    have ep : pa K (ga K x) m = f := by unfold pa; rw [er]
    rw [ep] at l g5
    exact PFact.of (He.eqO_ok g1) (of_decide_eq_true g2) (of_decide_eq_true g3) er l e g5
  · cases g4
theorem dic_ent {d : Addr} : ∀ {ks : List (Str × Option V)}, ks.all (entB K d) = true → ∀ p ∈ ks, EntOk K d p := fun h p m => by
  have h1 := List.all_eq_true.mp h p m
  obtain ⟨z, o⟩ := p
  cases o with
  | none => exact He.eqO_ok h1
  | some v =>
    have h2 : (match PySem.W.nsIn K d z with | some (some u) => He.relB v u | _ => false) = true := h1
    split at h2
    · rename_i u e
      exact ⟨u, e, He.relB_ok h2⟩
    · cases h2
theorem dic_enT {d : Addr} : ∀ {ks : List (Str × Option (List V))}, ks.all (enTB K d) = true → ∀ p ∈ ks, EntT K d p := fun h p m => by
  have h1 := List.all_eq_true.mp h p m
  obtain ⟨z, o⟩ := p
  cases o with
  | none => exact He.eqO_ok h1
  | some v =>
    have h2 : (match PySem.W.nsIn K d z with | some (some (.ref a)) => tupAt K a v | _ => false) = true := h1
    split at h2
    · rename_i a e
      exact ⟨a, e, tupAt_ok h2⟩
    · cases h2
theorem dic_at {x : Str} {ks : List Str} (e : dk K (ga K x) = ks.map fun z => (PyData.keyHash w.params z, some z)) (h : dicB K (ga K x) = true) : ∃ es n, KDict K w (ga K x) es n := by
  obtain ⟨h1, h2⟩ := Bool.and_eq_true_iff.mp h
  unfold dk at e
  split at h1
  · rename_i cc es n sl lk
    rw [lk] at e
    simp only [Bool.and_eq_true, decide_eq_true_eq] at h1
    obtain ⟨rfl, h3⟩ := h1
    have h4 : sl = #[] := by
      obtain ⟨sl⟩ := sl
      have : sl = [] := List.eq_nil_of_length_eq_zero h3
      rw [this]
    subst h4
    exact ⟨es, n, lk, keys_lit e, by simpa using h2⟩
  · cases h1
theorem dict_ {x : Str} {ks : List Str} {es : List (Str × Option V)} (c : Says fa fn ds w K) (i j k : Nat) (h : ds[i]? = some (x, ks)) (g : fa[j]? = some (.glo x)) (p : fa[k]? = some (.dict x es)) : GDictF K w x es := by
  obtain ⟨p1, p2⟩ := Bool.and_eq_true_iff.mp (c.fact k p)
  exact ⟨_, glo_ (c.fact j g), dic_at (c.dic i h) p1, dic_ent p2⟩
theorem dicT_ {x : Str} {ks : List Str} {es : List (Str × Option (List V))} (c : Says fa fn ds w K) (i j k : Nat) (h : ds[i]? = some (x, ks)) (g : fa[j]? = some (.glo x)) (p : fa[k]? = some (.dicT x es)) : GDictTF K w x es := by
  obtain ⟨p1, p2⟩ := Bool.and_eq_true_iff.mp (c.fact k p)
  exact ⟨_, glo_ (c.fact j g), dic_at (c.dic i h) p1, dic_enT p2⟩
end
end Hd

set_option Elab.async false
set_option linter.all false
set_option maxRecDepth 100000
/-! Sd: sorted(d), sorted(xs), d.get(k). -/
namespace Fx
open PySem PySem.Spec PyProof.Rows L2
section
variable {X : Cx} {o e : Expr} {apos cpos : Pos} {td ty : TE}
/-- sorted(d), keys whole numbers -/
def fSortD : List V → Hp → VK → Prop := fun xs H Q => match xs with
  | [.ref a] => ∃ kvs ks, Rd H a (.dK kvs) ∧ kvs.map (·.1) = ks.map Sum.inl ∧ ks.length < 64 ∧ ∀ (ys : List Int) (p : Addr), ys.Perm ks → ys.Pairwise (· ≤ ·) → H p = none → Q (.ref p) (upd H p (.lst (ys.map V.int)))
  | _ => False
theorem call_fSortD (hc : X.calm = true) : CallR X (.builtin "sorted") fSortD := by
  intro pins s σ H xs us Q I r h
  match xs, r, h with
  | [.ref a], r, ⟨kvs, ks, h1, h2, h3, h4⟩ => exact call_sortedDI hc pins s σ H _ us Q I r ⟨a, kvs, ks, rfl, h1, h2, h3, h4⟩
/-- sorted(xs), whole numbers -/
def fSortI (K : PySem.W.Frag) : List V → Hp → VK → Prop := fun xs H Q => match xs with
  | [.ref a] => ∃ ns : List Int, SqL K H a (ns.map V.int) ∧ ∀ (ys : List Int) (p : Addr), ys.Perm ns → ys.Pairwise (· ≤ ·) → H p = none → Q (.ref p) (upd H p (.lst (ys.map V.int)))
  | _ => False
theorem call_fSortI : CallR X (.builtin "sorted") (fSortI X.K) := by
  intro pins s σ H xs us Q I r h
  match xs, r, h with
  | [.ref a], r, ⟨ns, h1, h2⟩ => exact cr_sortedI pins s σ H _ us Q I r ⟨a, ns, rfl, h1, h2⟩
theorem op_fNotInK' {K : PySem.W.Frag} (h : X.K = K) : OpR X (compareOp .NotIn) (fIn K true) := h ▸ op_fNotIn
/-- d.get(k) -/
def fGet1 (td ty : TE) : TE := fun σ H Q => td σ H fun x H1 => match x with
  | .ref a => (∃ kvs, Rd H1 a (.dK kvs)) ∧ ty σ H1 fun y H2 => match keyV y with
    | some k => ∃ kvs, Rd H2 a (.dK kvs) ∧ Q ((valV kvs k).getD .non) H2
    | none => False
  | _ => False
theorem pe_get1 (hu : X.A.units + 1 < cLine) (ho : PE X o td) (he : PE X e ty) (m : M1 X o "get" apos e cpos) : PE X (.Call (.Attribute o "get" apos) [e] [] cpos) (fGet1 td ty) :=
  pe_wk (pe_dget1 hu (pe_clos ho) (pe_clos he) m) fun σ H Q q => ⟨_, q, fun x H1 q => by
    split at q
    · rename_i a
      obtain ⟨⟨kvs, hd⟩, q⟩ := q
      exact ⟨a, rfl, .inl ⟨kvs, hd⟩, _, q, fun y H2 q => by
        split at q
        · obtain ⟨kvs', hd', q⟩ := q
          exact ⟨_, .inl ⟨kvs', _, hd', keyV_kV (by assumption), rfl⟩, q⟩
        · exact q.elim⟩
    · exact q.elim⟩
end
end Fx

set_option Elab.async false
set_option linter.all false
set_option maxRecDepth 100000
set_option maxHeartbeats 1000000
namespace My
open PySem L2 Fx
local macro_rules | `(tactic| walk_at "fx") => `(tactic| try simp only [L2.start, List.map_cons, List.map_nil, List.length_cons, List.length_nil, Nat.reduceAdd, Nat.reduceSub, List.reduceReplicate, List.cons_append, List.nil_append, List.append_nil,
  tSeq, fVar, tVar, tC, tOp, tUn, tCons, tNil, fTup, fLst, tAsg, gName, tRet, tRetN, tDrop, tNext, tIf, tAnd, tOr, tNot, tTest, tB, tAug, tChain, tNotV, tAndV, tOrV, tSl, tPart, tNoPart, tCB, tCall, fBM, fBM0, tBreak, tCont, gTup, gCons, gNil,
  fAdd, fSub, fMul, fDiv, fMod, fNeg, fLt, fLe, fGt, fGe, fIx, fSl, fLen, fInt, fStr, fAbs, fMax, fMin, fOrd, fIsN, fNotN, fIsi, fListOf, isLst, isStr, isDct, fAppend, fS1, fJoin, fLstripC, fIAdd, fISub, fSet, tyOf, fEq, scal, fIn, iRng1, iRng2, iList, iTup, iStr, gSub, fGt_,
  List.getElem?_cons_zero, List.getElem?_cons_succ, List.set_cons_zero, List.set_cons_succ, upd_same, S_cps, S_len, L_S, one_list, flatV,
  V.int.injEq, V.str.injEq, V.bl.injEq, V.ref.injEq, Option.some.injEq, List.cons.injEq, exists_eq_left', exists_eq_left, exists_and_left, ex2, and_true, true_and, decide_eq_true_eq, Bool.not_eq_true', decide_eq_false_iff_not, Bool.false_eq_true, Bool.true_eq_false, Int.zero_add, Int.toNat_natCast, if_true, if_false, ite_true, ite_false, reduceIte, Int.reduceLT, Int.reduceLE, Int.reduceNeg, Int.reduceAdd, Nat.reduceLT, Nat.reduceLeDiff, Bool.not_true, Bool.not_false, kitBv, kitBs, not_true_eq_false, not_false_eq_true, Bool.or_false, Bool.false_or, Bool.or_true, Bool.true_or])
local macro_rules | `(tactic| walk_at "fx0") => `(tactic| try dsimp only [cxOf, Cx.nox, Cx.wish])
local macro_rules | `(tactic| walk_at "mul") => `(tactic| first | exact mul_left (by decide) (by decide) | exact mul_right (by decide) (by decide) | exact mul_left (by omega) (by omega) | exact mul_right (by omega) (by omega))
local macro_rules | `(tactic| walk_at "rm") => `(tactic| first | decide | exact Nat.le_refl _ | omega)
set_option hygiene false in
local macro_rules | `(tactic| walk_at "ox") => `(tactic| try simp only [WE_wOf, two, fTru, fLenD, fDisp, fPairs, iKeysK, fGetK, fInK, sPutK, sDelK, keyV, fListD, fDictD, tChain3, iZipM, fGdT_, fInDT, fIxDT, fRevL, fSortD, fSortI, fGet1, sDelL, iEnum_, fTupOf, fSum, fGetD, fMkV, fXo, fIsX, fPop, fPopAt, fClear, fReplC, fPow, fReverse, fExtend, fInsert, fGetN, fInN, sPutN, sDelN, fNewN, fLenN, iKeysN, fProp, fRaise, fXf, fIsE, fMethS, tCallS, fFmt, fJs, fJoined, fDivZ, fGd_, fInD, fIxD, WE, wOf, fDead, sDead, upd2, wipe, tYes, fIsB, beq_self_eq_true, List.not_mem_nil, or_false, false_or, fDnew, T.ne, fFld, fSetF, fMeth, isOb, fIsiO, fIsiP, fIsiA, tyV2, okT, kit2, kits2, allIn, putF, List.lookup_cons, List.lookup_nil, keyEq, List.mem_cons, true_or, or_true, L2.start, List.map_cons, List.map_nil, List.length_cons, List.length_nil, Nat.reduceAdd, Nat.reduceSub, List.reduceReplicate, List.cons_append, List.nil_append, List.append_nil,
  tSeq, fVar, tVar, tC, tOp, tUn, tCons, tNil, fTup, fLst, tAsg, gName, tRet, tRetN, tDrop, tNext, tIf, tAnd, tOr, tNot, tTest, tB, tAug, tChain, tNotV, tAndV, tOrV, tSl, tPart, tNoPart, tCB, tCall, fBM, fBM0, tBreak, tCont, gTup, gCons, gNil,
  fAdd, fSub, fMul, fDiv, fMod, fNeg, fLt, fLe, fGt, fGe, fIx, fSl, fLen, fInt, fStr, fAbs, fMax, fMin, fOrd, fIsN, fNotN, fIsi, fListOf, isLst, isStr, isDct, fAppend, fS1, fJoin, fLstripC, fIAdd, fISub, fSet, tyOf, fEq, scal, fIn, iRng1, iRng2, iList, iTup, iStr, gSub, fGt_,
  List.getElem?_cons_zero, List.getElem?_cons_succ, List.set_cons_zero, List.set_cons_succ, upd_same, S_cps, S_len, L_S, one_list, flatV,
  V.int.injEq, V.str.injEq, V.bl.injEq, V.ref.injEq, Option.some.injEq, List.cons.injEq, exists_eq_left', exists_eq_left, exists_and_left, ex2, and_true, true_and, decide_eq_true_eq, Bool.not_eq_true', decide_eq_false_iff_not, Bool.false_eq_true, Bool.true_eq_false, Int.zero_add, Int.toNat_natCast, if_true, if_false, ite_true, ite_false, reduceIte, Int.reduceLT, Int.reduceLE, Int.reduceNeg, Int.reduceAdd, Nat.reduceLT, Nat.reduceLeDiff, Bool.not_true, Bool.not_false, kitBv, kitBs, not_true_eq_false, not_false_eq_true, Bool.or_false, Bool.false_or, Bool.or_true, Bool.true_or])
set_option hygiene false in
local macro_rules | `(tactic| walk_at "oxs") => `(tactic| simp only [tIfS, WE_wOf, two, fTru, fLenD, fDisp, fPairs, iKeysK, fGetK, fInK, sPutK, sDelK, keyV, fListD, fDictD, tChain3, iZipM, fGdT_, fInDT, fIxDT, fRevL, fSortD, fSortI, fGet1, sDelL, iEnum_, fTupOf, fSum, fGetD, fMkV, fXo, fIsX, fPop, fPopAt, fClear, fReplC, fPow, fReverse, fExtend, fInsert, fGetN, fInN, sPutN, sDelN, fNewN, fLenN, iKeysN, fProp, fRaise, fXf, fIsE, fMethS, tCallS, fFmt, fJs, fJoined, fDivZ, fGd_, fInD, fIxD, WE, wOf, fDead, sDead,  reduceCtorEq, upd2, wipe, tYes, fIsB, beq_self_eq_true, List.not_mem_nil, or_false, false_or, fDnew, T.ne, fFld, fSetF, fMeth, isOb, fIsiO, fIsiP, fIsiA, tyV2, okT, kit2, kits2, allIn, putF, List.lookup_cons, List.lookup_nil, keyEq, List.mem_cons, true_or, or_true, L2.start, List.map_cons, List.map_nil, List.length_cons, List.length_nil, Nat.reduceAdd, Nat.reduceSub, List.reduceReplicate, List.cons_append, List.nil_append, List.append_nil,
  tSeq, fVar, tVar, tC, tOp, tUn, tCons, tNil, fTup, fLst, tAsg, gName, tRet, tRetN, tDrop, tNext, tIf, tAnd, tOr, tNot, tTest, tB, tAug, tChain, tNotV, tAndV, tOrV, tSl, tPart, tNoPart, tCB, tCall, fBM, fBM0, tBreak, tCont, gTup, gCons, gNil,
  fAdd, fSub, fMul, fDiv, fMod, fNeg, fLt, fLe, fGt, fGe, fIx, fSl, fLen, fInt, fStr, fAbs, fMax, fMin, fOrd, fIsN, fNotN, fIsi, fListOf, isLst, isStr, isDct, fAppend, fS1, fJoin, fLstripC, fIAdd, fISub, fSet, tyOf, fEq, scal, fIn, iRng1, iRng2, iList, iTup, iStr, gSub, fGt_,
  List.getElem?_cons_zero, List.getElem?_cons_succ, List.set_cons_zero, List.set_cons_succ, upd_same, S_cps, S_len, L_S, one_list, flatV,
  V.int.injEq, V.str.injEq, V.bl.injEq, V.ref.injEq, Option.some.injEq, List.cons.injEq, exists_eq_left', exists_eq_left, exists_and_left, ex2, and_true, true_and, decide_eq_true_eq, Bool.not_eq_true', decide_eq_false_iff_not, Bool.false_eq_true, Bool.true_eq_false, Int.zero_add, Int.toNat_natCast, if_true, if_false, ite_true, ite_false, reduceIte, Int.reduceLT, Int.reduceLE, Int.reduceNeg, Int.reduceAdd, Nat.reduceLT, Nat.reduceLeDiff, Bool.not_true, Bool.not_false, kitBv, kitBs, not_true_eq_false, not_false_eq_true, Bool.or_false, Bool.false_or, Bool.or_true, Bool.true_or])

def topS (i : Nat) : Stmt := PySem.Challenge.pw_livequill_k71_what_is_reached.main.body.getD i (.Pass ⟨0, 0, 0, 0⟩)
abbrev s_Ref___init__ : Stmt := inClass (topS 2) 0
theorem sc_Ref___init__ : FnScope ["self", "number"] ["self", "number"] (defScope s_Ref___init__) := ⟨rfl, rfl, rfl, by decide +kernel, rfl, by decide +kernel, by decide +kernel⟩
abbrev s_Ref___eq__ : Stmt := inClass (topS 2) 1
theorem sc_Ref___eq__ : FnScope ["self", "other"] ["self", "other"] (defScope s_Ref___eq__) := ⟨rfl, rfl, rfl, by decide +kernel, rfl, by decide +kernel, by decide +kernel⟩
abbrev s_Parts___init__ : Stmt := inClass (topS 4) 0
theorem sc_Parts___init__ : FnScope ["self", "held"] ["self", "held"] (defScope s_Parts___init__) := ⟨rfl, rfl, rfl, by decide +kernel, rfl, by decide +kernel, by decide +kernel⟩
abbrev s_Parts_fork : Stmt := inClass (topS 4) 1
theorem sc_Parts_fork : FnScope ["self"] ["self"] (defScope s_Parts_fork) := ⟨rfl, rfl, rfl, by decide +kernel, rfl, by decide +kernel, by decide +kernel⟩
abbrev s_Table___init__ : Stmt := inClass (topS 5) 0
theorem sc_Table___init__ : FnScope ["self"] ["self"] (defScope s_Table___init__) := ⟨rfl, rfl, rfl, by decide +kernel, rfl, by decide +kernel, by decide +kernel⟩
abbrev s_Table_many : Stmt := inClass (topS 5) 1
theorem sc_Table_many : FnScope ["self"] ["self"] (defScope s_Table_many) := ⟨rfl, rfl, rfl, by decide +kernel, rfl, by decide +kernel, by decide +kernel⟩
abbrev s_Table_has : Stmt := inClass (topS 5) 2
theorem sc_Table_has : FnScope ["self", "key"] ["self", "key"] (defScope s_Table_has) := ⟨rfl, rfl, rfl, by decide +kernel, rfl, by decide +kernel, by decide +kernel⟩
abbrev s_Table_value_of : Stmt := inClass (topS 5) 3
theorem sc_Table_value_of : FnScope ["self", "key"] ["self", "key"] (defScope s_Table_value_of) := ⟨rfl, rfl, rfl, by decide +kernel, rfl, by decide +kernel, by decide +kernel⟩
abbrev s_Table_put : Stmt := inClass (topS 5) 4
theorem sc_Table_put : FnScope ["self", "key", "value"] ["self", "key", "value"] (defScope s_Table_put) := ⟨rfl, rfl, rfl, by decide +kernel, rfl, by decide +kernel, by decide +kernel⟩
abbrev s_Table_take_out : Stmt := inClass (topS 5) 5
theorem sc_Table_take_out : FnScope ["self", "key"] ["self", "key"] (defScope s_Table_take_out) := ⟨rfl, rfl, rfl, by decide +kernel, rfl, by decide +kernel, by decide +kernel⟩
abbrev s_Table_pairs : Stmt := inClass (topS 5) 6
theorem sc_Table_pairs : FnScope ["self", "at"] ["self"] (defScope s_Table_pairs) := ⟨rfl, rfl, rfl, by decide +kernel, rfl, by decide +kernel, by decide +kernel⟩
abbrev s_Table_fork : Stmt := inClass (topS 5) 7
theorem sc_Table_fork : FnScope ["self"] ["self"] (defScope s_Table_fork) := ⟨rfl, rfl, rfl, by decide +kernel, rfl, by decide +kernel, by decide +kernel⟩
abbrev s_Instance___init__ : Stmt := inClass (topS 6) 0
theorem sc_Instance___init__ : FnScope ["self", "owner"] ["self", "owner"] (defScope s_Instance___init__) := ⟨rfl, rfl, rfl, by decide +kernel, rfl, by decide +kernel, by decide +kernel⟩
abbrev s_Instance_fork : Stmt := inClass (topS 6) 1
theorem sc_Instance_fork : FnScope ["self"] ["self"] (defScope s_Instance_fork) := ⟨rfl, rfl, rfl, by decide +kernel, rfl, by decide +kernel, by decide +kernel⟩
abbrev s_Kin___init__ : Stmt := inClass (topS 7) 0
theorem sc_Kin___init__ : FnScope ["self", "name", "parent"] ["self", "name", "parent"] (defScope s_Kin___init__) := ⟨rfl, rfl, rfl, by decide +kernel, rfl, by decide +kernel, by decide +kernel⟩
abbrev s_Kin_fork : Stmt := inClass (topS 7) 1
theorem sc_Kin_fork : FnScope ["self"] ["self"] (defScope s_Kin_fork) := ⟨rfl, rfl, rfl, by decide +kernel, rfl, by decide +kernel, by decide +kernel⟩
abbrev s_Closure___init__ : Stmt := inClass (topS 8) 0
theorem sc_Closure___init__ : FnScope ["self", "number", "wanted", "scope"] ["self", "number", "wanted", "scope"] (defScope s_Closure___init__) := ⟨rfl, rfl, rfl, by decide +kernel, rfl, by decide +kernel, by decide +kernel⟩
abbrev s_Closure_fork : Stmt := inClass (topS 8) 1
theorem sc_Closure_fork : FnScope ["self"] ["self"] (defScope s_Closure_fork) := ⟨rfl, rfl, rfl, by decide +kernel, rfl, by decide +kernel, by decide +kernel⟩
abbrev s_Variable___init__ : Stmt := inClass (topS 9) 0
theorem sc_Variable___init__ : FnScope ["self", "value"] ["self", "value"] (defScope s_Variable___init__) := ⟨rfl, rfl, rfl, by decide +kernel, rfl, by decide +kernel, by decide +kernel⟩
abbrev s_Variable_fork : Stmt := inClass (topS 9) 1
theorem sc_Variable_fork : FnScope ["self"] ["self"] (defScope s_Variable_fork) := ⟨rfl, rfl, rfl, by decide +kernel, rfl, by decide +kernel, by decide +kernel⟩
abbrev s_Cursor___init__ : Stmt := inClass (topS 10) 0
theorem sc_Cursor___init__ : FnScope ["self", "rest"] ["self", "rest"] (defScope s_Cursor___init__) := ⟨rfl, rfl, rfl, by decide +kernel, rfl, by decide +kernel, by decide +kernel⟩
abbrev s_Cursor_fork : Stmt := inClass (topS 10) 1
theorem sc_Cursor_fork : FnScope ["self"] ["self"] (defScope s_Cursor_fork) := ⟨rfl, rfl, rfl, by decide +kernel, rfl, by decide +kernel, by decide +kernel⟩
abbrev s_numbers_in : Stmt := topS 12
theorem sc_numbers_in : FnScope ["values", "value"] ["values"] (defScope s_numbers_in) := ⟨rfl, rfl, rfl, by decide +kernel, rfl, by decide +kernel, by decide +kernel⟩
abbrev s_values_of : Stmt := topS 13
theorem sc_values_of : FnScope ["thing", "name", "pair"] ["thing"] (defScope s_values_of) := ⟨rfl, rfl, rfl, by decide +kernel, rfl, by decide +kernel, by decide +kernel⟩
abbrev s_children_of : Stmt := topS 14
theorem sc_children_of : FnScope ["store", "number", "thing", "name"] ["store", "number"] (defScope s_children_of) := ⟨rfl, rfl, rfl, by decide +kernel, rfl, by decide +kernel, by decide +kernel⟩
abbrev s_roots_of : Stmt := topS 15
theorem sc_roots_of : FnScope ["machine", "found", "frame", "handler"] ["machine"] (defScope s_roots_of) := ⟨rfl, rfl, rfl, by decide +kernel, rfl, by decide +kernel, by decide +kernel⟩
abbrev s_found_from : Stmt := topS 17
theorem sc_found_from : FnScope ["store", "numbers", "found", "waiting", "number", "at"] ["store", "numbers"] (defScope s_found_from) := ⟨rfl, rfl, rfl, by decide +kernel, rfl, by decide +kernel, by decide +kernel⟩
abbrev s_reached_from : Stmt := topS 18
theorem sc_reached_from : FnScope ["store", "numbers"] ["store", "numbers"] (defScope s_reached_from) := ⟨rfl, rfl, rfl, by decide +kernel, rfl, by decide +kernel, by decide +kernel⟩
abbrev s_lost_objects : Stmt := topS 19
theorem sc_lost_objects : FnScope ["machine", "found", "number"] ["machine"] (defScope s_lost_objects) := ⟨rfl, rfl, rfl, by decide +kernel, rfl, by decide +kernel, by decide +kernel⟩
abbrev s_way_to : Stmt := topS 20
theorem sc_way_to : FnScope ["machine", "number", "variables", "frame", "found", "way"] ["machine", "number"] (defScope s_way_to) := ⟨rfl, rfl, rfl, by decide +kernel, rfl, by decide +kernel, by decide +kernel⟩
abbrev s_same_value : Stmt := topS 22
theorem sc_same_value : FnScope ["x", "y"] ["x", "y"] (defScope s_same_value) := ⟨rfl, rfl, rfl, by decide +kernel, rfl, by decide +kernel, by decide +kernel⟩
abbrev s_same_row : Stmt := topS 23
theorem sc_same_row : FnScope ["row", "other", "x", "y"] ["row", "other"] (defScope s_same_row) := ⟨rfl, rfl, rfl, by decide +kernel, rfl, by decide +kernel, by decide +kernel⟩
abbrev s_Chunk___init__ : Stmt := inClass (topS 24) 0
theorem sc_Chunk___init__ : FnScope ["self", "number", "wanted", "rows", "scopes"] ["self", "number", "wanted", "rows", "scopes"] (defScope s_Chunk___init__) := ⟨rfl, rfl, rfl, by decide +kernel, rfl, by decide +kernel, by decide +kernel⟩
abbrev s_Chunk___eq__ : Stmt := inClass (topS 24) 1
theorem sc_Chunk___eq__ : FnScope ["self", "other", "row", "there"] ["self", "other"] (defScope s_Chunk___eq__) := ⟨rfl, rfl, rfl, by decide +kernel, rfl, by decide +kernel, by decide +kernel⟩
abbrev s_Frame___init__ : Stmt := inClass (topS 26) 0
theorem sc_Frame___init__ : FnScope ["self", "number", "scope"] ["self", "number", "scope"] (defScope s_Frame___init__) := ⟨rfl, rfl, rfl, by decide +kernel, rfl, by decide +kernel, by decide +kernel⟩
abbrev s_Frame_push : Stmt := inClass (topS 26) 1
theorem sc_Frame_push : FnScope ["self", "value"] ["self", "value"] (defScope s_Frame_push) := ⟨rfl, rfl, rfl, by decide +kernel, rfl, by decide +kernel, by decide +kernel⟩
abbrev s_Frame_pull : Stmt := inClass (topS 26) 2
theorem sc_Frame_pull : FnScope ["self", "count"] ["self", "count"] (defScope s_Frame_pull) := ⟨rfl, rfl, rfl, by decide +kernel, rfl, by decide +kernel, by decide +kernel⟩
abbrev s_Frame_fork : Stmt := inClass (topS 26) 3
theorem sc_Frame_fork : FnScope ["self"] ["self"] (defScope s_Frame_fork) := ⟨rfl, rfl, rfl, by decide +kernel, rfl, by decide +kernel, by decide +kernel⟩
abbrev s_offset_of : Stmt := topS 29
theorem sc_offset_of : FnScope ["row"] ["row"] (defScope s_offset_of) := ⟨rfl, rfl, rfl, by decide +kernel, rfl, by decide +kernel, by decide +kernel⟩
abbrev s_Store___init__ : Stmt := inClass (topS 32) 0
theorem sc_Store___init__ : FnScope ["self", "lines"] ["self", "lines"] (defScope s_Store___init__) := ⟨rfl, rfl, rfl, by decide +kernel, rfl, by decide +kernel, by decide +kernel⟩
abbrev s_Store_make : Stmt := inClass (topS 32) 1
theorem sc_Store_make : FnScope ["self", "thing"] ["self", "thing"] (defScope s_Store_make) := ⟨rfl, rfl, rfl, by decide +kernel, rfl, by decide +kernel, by decide +kernel⟩
abbrev s_Store_at : Stmt := inClass (topS 32) 2
theorem sc_Store_at : FnScope ["self", "ref"] ["self", "ref"] (defScope s_Store_at) := ⟨rfl, rfl, rfl, by decide +kernel, rfl, by decide +kernel, by decide +kernel⟩
abbrev s_Store_fork : Stmt := inClass (topS 32) 3
theorem sc_Store_fork : FnScope ["self"] ["self"] (defScope s_Store_fork) := ⟨rfl, rfl, rfl, by decide +kernel, rfl, by decide +kernel, by decide +kernel⟩
abbrev s_Machine___init__ : Stmt := inClass (topS 34) 0
theorem sc_Machine___init__ : FnScope ["self", "chunks", "lines", "chunk"] ["self", "chunks", "lines"] (defScope s_Machine___init__) := ⟨rfl, rfl, rfl, by decide +kernel, rfl, by decide +kernel, by decide +kernel⟩
abbrev s_Machine_chunk_of : Stmt := inClass (topS 34) 1
theorem sc_Machine_chunk_of : FnScope ["self", "number"] ["self", "number"] (defScope s_Machine_chunk_of) := ⟨rfl, rfl, rfl, by decide +kernel, rfl, by decide +kernel, by decide +kernel⟩
abbrev s_Machine_row : Stmt := inClass (topS 34) 2
theorem sc_Machine_row : FnScope ["self", "frame"] ["self"] (defScope s_Machine_row) := ⟨rfl, rfl, rfl, by decide +kernel, rfl, by decide +kernel, by decide +kernel⟩
abbrev s_Machine_waits : Stmt := inClass (topS 34) 3
theorem sc_Machine_waits : FnScope ["self"] ["self"] (defScope s_Machine_waits) := ⟨rfl, rfl, rfl, by decide +kernel, rfl, by decide +kernel, by decide +kernel⟩
abbrev s_Machine_called : Stmt := inClass (topS 34) 4
theorem sc_Machine_called : FnScope ["self"] ["self"] (defScope s_Machine_called) := ⟨rfl, rfl, rfl, by decide +kernel, rfl, by decide +kernel, by decide +kernel⟩
abbrev s_Machine_status : Stmt := inClass (topS 34) 5
theorem sc_Machine_status : FnScope ["self"] ["self"] (defScope s_Machine_status) := ⟨rfl, rfl, rfl, by decide +kernel, rfl, by decide +kernel, by decide +kernel⟩
abbrev s_Machine_step : Stmt := inClass (topS 34) 6
theorem sc_Machine_step : FnScope ["self"] ["self"] (defScope s_Machine_step) := ⟨rfl, rfl, rfl, by decide +kernel, rfl, by decide +kernel, by decide +kernel⟩
abbrev s_Machine_run : Stmt := inClass (topS 34) 7
theorem sc_Machine_run : FnScope ["self", "count"] ["self", "count"] (defScope s_Machine_run) := ⟨rfl, rfl, rfl, by decide +kernel, rfl, by decide +kernel, by decide +kernel⟩
abbrev s_Machine_execute : Stmt := inClass (topS 34) 8
theorem sc_Machine_execute : FnScope ["self", "frame", "row"] ["self", "frame", "row"] (defScope s_Machine_execute) := ⟨rfl, rfl, rfl, by decide +kernel, rfl, by decide +kernel, by decide +kernel⟩
abbrev s_Machine_leave_call : Stmt := inClass (topS 34) 9
theorem sc_Machine_leave_call : FnScope ["self", "value"] ["self", "value"] (defScope s_Machine_leave_call) := ⟨rfl, rfl, rfl, by decide +kernel, rfl, by decide +kernel, by decide +kernel⟩
abbrev s_Machine_place_of : Stmt := inClass (topS 34) 10
theorem sc_Machine_place_of : FnScope ["self", "frame", "offset"] ["self", "frame"] (defScope s_Machine_place_of) := ⟨rfl, rfl, rfl, by decide +kernel, rfl, by decide +kernel, by decide +kernel⟩
abbrev s_Machine_throw : Stmt := inClass (topS 34) 11
theorem sc_Machine_throw : FnScope ["self", "value", "places", "frame", "target", "scope"] ["self", "value"] (defScope s_Machine_throw) := ⟨rfl, rfl, rfl, by decide +kernel, rfl, by decide +kernel, by decide +kernel⟩
abbrev s_Machine_fork : Stmt := inClass (topS 34) 12
theorem sc_Machine_fork : FnScope ["self"] ["self"] (defScope s_Machine_fork) := ⟨rfl, rfl, rfl, by decide +kernel, rfl, by decide +kernel, by decide +kernel⟩
abbrev s_law_cell : Stmt := topS 36
theorem sc_law_cell : FnScope ["script", "k"] ["script", "k"] (defScope s_law_cell) := ⟨rfl, rfl, rfl, by decide +kernel, rfl, by decide +kernel, by decide +kernel⟩
abbrev s_law_begin : Stmt := topS 37
theorem sc_law_begin : FnScope ["script", "k"] ["script", "k"] (defScope s_law_begin) := ⟨rfl, rfl, rfl, by decide +kernel, rfl, by decide +kernel, by decide +kernel⟩
abbrev s_law_draw : Stmt := topS 38
theorem sc_law_draw : FnScope ["state", "many", "k", "cell", "prime", "mixed", "digit"] ["state", "many"] (defScope s_law_draw) := ⟨rfl, rfl, rfl, by decide +kernel, rfl, by decide +kernel, by decide +kernel⟩
abbrev s_law_machine : Stmt := topS 39
theorem sc_law_machine : FnScope ["state", "machine", "store", "many", "k", "refs", "kind", "j"] ["state"] (defScope s_law_machine) := ⟨rfl, rfl, rfl, by decide +kernel, rfl, by decide +kernel, by decide +kernel⟩
abbrev s_law_refs : Stmt := topS 40
theorem sc_law_refs : FnScope ["state", "many", "most", "k"] ["state", "many", "most"] (defScope s_law_refs) := ⟨rfl, rfl, rfl, by decide +kernel, rfl, by decide +kernel, by decide +kernel⟩
abbrev s_law_frames : Stmt := topS 41
theorem sc_law_frames : FnScope ["machine", "state", "many", "roots", "scopes", "frames", "k", "scope", "frame", "above", "inner", "stack", "handlers", "ref"] ["machine", "state"] (defScope s_law_frames) := ⟨rfl, rfl, rfl, by decide +kernel, rfl, by decide +kernel, by decide +kernel⟩
abbrev s_law_closed : Stmt := topS 42
theorem sc_law_closed : FnScope ["store", "numbers", "found", "number", "k", "child"] ["store", "numbers"] (defScope s_law_closed) := ⟨rfl, rfl, rfl, by decide +kernel, rfl, by decide +kernel, by decide +kernel⟩
abbrev s_law_lengths : Stmt := topS 43
theorem sc_law_lengths : FnScope ["store", "scopes", "ways", "order", "number", "k", "child"] ["store", "scopes"] (defScope s_law_lengths) := ⟨rfl, rfl, rfl, by decide +kernel, rfl, by decide +kernel, by decide +kernel⟩
abbrev s_law : Stmt := topS 44
theorem sc_law : FnScope ["script", "k", "state", "machine", "store", "roots", "scopes", "many", "told", "numbers", "due", "ways", "number", "j"] ["script"] (defScope s_law) := ⟨rfl, rfl, rfl, by decide +kernel, rfl, by decide +kernel, by decide +kernel⟩
structure Cs where
  Ref : Addr
  Parts : Addr
  Table : Addr
  Instance : Addr
  Kin : Addr
  Closure : Addr
  Variable : Addr
  Cursor : Addr
  Chunk : Addr
  Frame : Addr
  Store : Addr
  Machine : Addr
theorem keyEq : (("__eq__" : Str) == "number") = false ∧ ¬ (("__eq__" : Str) = "number") ∧ (("__eq__" : Str) == "rows") = false ∧ ¬ (("__eq__" : Str) = "rows") ∧ (("__eq__" : Str) == "scopes") = false ∧ ¬ (("__eq__" : Str) = "scopes") ∧ (("__eq__" : Str) == "wanted") = false ∧ ¬ (("__eq__" : Str) = "wanted") ∧ (("__init__" : Str) == "_code") = false ∧ ¬ (("__init__" : Str) = "_code") ∧ (("__init__" : Str) == "_rows") = false ∧ ¬ (("__init__" : Str) = "_rows") ∧ (("__init__" : Str) == "at") = false ∧ ¬ (("__init__" : Str) = "at") ∧ (("__init__" : Str) == "frames") = false ∧ ¬ (("__init__" : Str) = "frames") ∧ (("__init__" : Str) == "handlers") = false ∧ ¬ (("__init__" : Str) = "handlers") ∧ (("__init__" : Str) == "held") = false ∧ ¬ (("__init__" : Str) = "held") ∧ (("__init__" : Str) == "lines") = false ∧ ¬ (("__init__" : Str) = "lines") ∧ (("__init__" : Str) == "made") = false ∧ ¬ (("__init__" : Str) = "made") ∧ (("__init__" : Str) == "methods") = false ∧ ¬ (("__init__" : Str) = "methods") ∧ (("__init__" : Str) == "name") = false ∧ ¬ (("__init__" : Str) = "name") ∧ (("__init__" : Str) == "named") = false ∧ ¬ (("__init__" : Str) = "named") ∧ (("__init__" : Str) == "number") = false ∧ ¬ (("__init__" : Str) = "number") ∧ (("__init__" : Str) == "output") = false ∧ ¬ (("__init__" : Str) = "output") ∧ (("__init__" : Str) == "owner") = false ∧ ¬ (("__init__" : Str) = "owner") ∧ (("__init__" : Str) == "parent") = false ∧ ¬ (("__init__" : Str) = "parent") ∧ (("__init__" : Str) == "places") = false ∧ ¬ (("__init__" : Str) = "places") ∧ (("__init__" : Str) == "rest") = false ∧ ¬ (("__init__" : Str) = "rest") ∧ (("__init__" : Str) == "rows") = false ∧ ¬ (("__init__" : Str) = "rows") ∧ (("__init__" : Str) == "scope") = false ∧ ¬ (("__init__" : Str) = "scope") ∧ (("__init__" : Str) == "scopes") = false ∧ ¬ (("__init__" : Str) = "scopes") ∧ (("__init__" : Str) == "stack") = false ∧ ¬ (("__init__" : Str) = "stack") ∧ (("__init__" : Str) == "state") = false ∧ ¬ (("__init__" : Str) = "state") ∧ (("__init__" : Str) == "steps") = false ∧ ¬ (("__init__" : Str) = "steps") ∧ (("__init__" : Str) == "store") = false ∧ ¬ (("__init__" : Str) = "store") ∧ (("__init__" : Str) == "taken") = false ∧ ¬ (("__init__" : Str) = "taken") ∧ (("__init__" : Str) == "things") = false ∧ ¬ (("__init__" : Str) = "things") ∧ (("__init__" : Str) == "thrown") = false ∧ ¬ (("__init__" : Str) = "thrown") ∧ (("__init__" : Str) == "value") = false ∧ ¬ (("__init__" : Str) = "value") ∧ (("__init__" : Str) == "wanted") = false ∧ ¬ (("__init__" : Str) = "wanted") ∧ (("_code" : Str) == "frames") = false ∧ ¬ (("_code" : Str) = "frames") ∧ (("_code" : Str) == "places") = false ∧ ¬ (("_code" : Str) = "places") ∧ (("_code" : Str) == "state") = false ∧ ¬ (("_code" : Str) = "state") ∧ (("_code" : Str) == "steps") = false ∧ ¬ (("_code" : Str) = "steps") ∧ (("_code" : Str) == "store") = false ∧ ¬ (("_code" : Str) = "store") ∧ (("_code" : Str) == "thrown") = false ∧ ¬ (("_code" : Str) = "thrown") ∧ (("at" : Str) == "handlers") = false ∧ ¬ (("at" : Str) = "handlers") ∧ (("at" : Str) == "lines") = false ∧ ¬ (("at" : Str) = "lines") ∧ (("at" : Str) == "made") = false ∧ ¬ (("at" : Str) = "made") ∧ (("at" : Str) == "number") = false ∧ ¬ (("at" : Str) = "number") ∧ (("at" : Str) == "output") = false ∧ ¬ (("at" : Str) = "output") ∧ (("at" : Str) == "scope") = false ∧ ¬ (("at" : Str) = "scope") ∧ (("at" : Str) == "stack") = false ∧ ¬ (("at" : Str) = "stack") ∧ (("at" : Str) == "taken") = false ∧ ¬ (("at" : Str) = "taken") ∧ (("at" : Str) == "things") = false ∧ ¬ (("at" : Str) = "things") ∧ (("called" : Str) == "_code") = false ∧ ¬ (("called" : Str) = "_code") ∧ (("called" : Str) == "frames") = false ∧ ¬ (("called" : Str) = "frames") ∧ (("called" : Str) == "places") = false ∧ ¬ (("called" : Str) = "places") ∧ (("called" : Str) == "state") = false ∧ ¬ (("called" : Str) = "state") ∧ (("called" : Str) == "steps") = false ∧ ¬ (("called" : Str) = "steps") ∧ (("called" : Str) == "store") = false ∧ ¬ (("called" : Str) = "store") ∧ (("called" : Str) == "thrown") = false ∧ ¬ (("called" : Str) = "thrown") ∧ (("chunk_of" : Str) == "_code") = false ∧ ¬ (("chunk_of" : Str) = "_code") ∧ (("chunk_of" : Str) == "frames") = false ∧ ¬ (("chunk_of" : Str) = "frames") ∧ (("chunk_of" : Str) == "places") = false ∧ ¬ (("chunk_of" : Str) = "places") ∧ (("chunk_of" : Str) == "state") = false ∧ ¬ (("chunk_of" : Str) = "state") ∧ (("chunk_of" : Str) == "steps") = false ∧ ¬ (("chunk_of" : Str) = "steps") ∧ (("chunk_of" : Str) == "store") = false ∧ ¬ (("chunk_of" : Str) = "store") ∧ (("chunk_of" : Str) == "thrown") = false ∧ ¬ (("chunk_of" : Str) = "thrown") ∧ (("execute" : Str) == "_code") = false ∧ ¬ (("execute" : Str) = "_code") ∧ (("execute" : Str) == "frames") = false ∧ ¬ (("execute" : Str) = "frames") ∧ (("execute" : Str) == "places") = false ∧ ¬ (("execute" : Str) = "places") ∧ (("execute" : Str) == "state") = false ∧ ¬ (("execute" : Str) = "state") ∧ (("execute" : Str) == "steps") = false ∧ ¬ (("execute" : Str) = "steps") ∧ (("execute" : Str) == "store") = false ∧ ¬ (("execute" : Str) = "store") ∧ (("execute" : Str) == "thrown") = false ∧ ¬ (("execute" : Str) = "thrown") ∧ (("fork" : Str) == "_code") = false ∧ ¬ (("fork" : Str) = "_code") ∧ (("fork" : Str) == "_rows") = false ∧ ¬ (("fork" : Str) = "_rows") ∧ (("fork" : Str) == "at") = false ∧ ¬ (("fork" : Str) = "at") ∧ (("fork" : Str) == "frames") = false ∧ ¬ (("fork" : Str) = "frames") ∧ (("fork" : Str) == "handlers") = false ∧ ¬ (("fork" : Str) = "handlers") ∧ (("fork" : Str) == "held") = false ∧ ¬ (("fork" : Str) = "held") ∧ (("fork" : Str) == "lines") = false ∧ ¬ (("fork" : Str) = "lines") ∧ (("fork" : Str) == "made") = false ∧ ¬ (("fork" : Str) = "made") ∧ (("fork" : Str) == "methods") = false ∧ ¬ (("fork" : Str) = "methods") ∧ (("fork" : Str) == "name") = false ∧ ¬ (("fork" : Str) = "name") ∧ (("fork" : Str) == "named") = false ∧ ¬ (("fork" : Str) = "named") ∧ (("fork" : Str) == "number") = false ∧ ¬ (("fork" : Str) = "number") ∧ (("fork" : Str) == "output") = false ∧ ¬ (("fork" : Str) = "output") ∧ (("fork" : Str) == "owner") = false ∧ ¬ (("fork" : Str) = "owner") ∧ (("fork" : Str) == "parent") = false ∧ ¬ (("fork" : Str) = "parent") ∧ (("fork" : Str) == "places") = false ∧ ¬ (("fork" : Str) = "places") ∧ (("fork" : Str) == "rest") = false ∧ ¬ (("fork" : Str) = "rest") ∧ (("fork" : Str) == "scope") = false ∧ ¬ (("fork" : Str) = "scope") ∧ (("fork" : Str) == "stack") = false ∧ ¬ (("fork" : Str) = "stack") ∧ (("fork" : Str) == "state") = false ∧ ¬ (("fork" : Str) = "state") ∧ (("fork" : Str) == "steps") = false ∧ ¬ (("fork" : Str) = "steps") ∧ (("fork" : Str) == "store") = false ∧ ¬ (("fork" : Str) = "store") ∧ (("fork" : Str) == "taken") = false ∧ ¬ (("fork" : Str) = "taken") ∧ (("fork" : Str) == "things") = false ∧ ¬ (("fork" : Str) = "things") ∧ (("fork" : Str) == "thrown") = false ∧ ¬ (("fork" : Str) = "thrown") ∧ (("fork" : Str) == "value") = false ∧ ¬ (("fork" : Str) = "value") ∧ (("fork" : Str) == "wanted") = false ∧ ¬ (("fork" : Str) = "wanted") ∧ (("frames" : Str) == "_code") = false ∧ ¬ (("frames" : Str) = "_code") ∧ (("frames" : Str) == "places") = false ∧ ¬ (("frames" : Str) = "places") ∧ (("frames" : Str) == "state") = false ∧ ¬ (("frames" : Str) = "state") ∧ (("frames" : Str) == "steps") = false ∧ ¬ (("frames" : Str) = "steps") ∧ (("frames" : Str) == "store") = false ∧ ¬ (("frames" : Str) = "store") ∧ (("frames" : Str) == "thrown") = false ∧ ¬ (("frames" : Str) = "thrown") ∧ (("handlers" : Str) == "at") = false ∧ ¬ (("handlers" : Str) = "at") ∧ (("handlers" : Str) == "made") = false ∧ ¬ (("handlers" : Str) = "made") ∧ (("handlers" : Str) == "number") = false ∧ ¬ (("handlers" : Str) = "number") ∧ (("handlers" : Str) == "scope") = false ∧ ¬ (("handlers" : Str) = "scope") ∧ (("handlers" : Str) == "stack") = false ∧ ¬ (("handlers" : Str) = "stack") ∧ (("has" : Str) == "_rows") = false ∧ ¬ (("has" : Str) = "_rows") ∧ (("leave_call" : Str) == "_code") = false ∧ ¬ (("leave_call" : Str) = "_code") ∧ (("leave_call" : Str) == "frames") = false ∧ ¬ (("leave_call" : Str) = "frames") ∧ (("leave_call" : Str) == "places") = false ∧ ¬ (("leave_call" : Str) = "places") ∧ (("leave_call" : Str) == "state") = false ∧ ¬ (("leave_call" : Str) = "state") ∧ (("leave_call" : Str) == "steps") = false ∧ ¬ (("leave_call" : Str) = "steps") ∧ (("leave_call" : Str) == "store") = false ∧ ¬ (("leave_call" : Str) = "store") ∧ (("leave_call" : Str) == "thrown") = false ∧ ¬ (("leave_call" : Str) = "thrown") ∧ (("lines" : Str) == "output") = false ∧ ¬ (("lines" : Str) = "output") ∧ (("lines" : Str) == "taken") = false ∧ ¬ (("lines" : Str) = "taken") ∧ (("lines" : Str) == "things") = false ∧ ¬ (("lines" : Str) = "things") ∧ (("made" : Str) == "at") = false ∧ ¬ (("made" : Str) = "at") ∧ (("made" : Str) == "handlers") = false ∧ ¬ (("made" : Str) = "handlers") ∧ (("made" : Str) == "number") = false ∧ ¬ (("made" : Str) = "number") ∧ (("made" : Str) == "scope") = false ∧ ¬ (("made" : Str) = "scope") ∧ (("made" : Str) == "stack") = false ∧ ¬ (("made" : Str) = "stack") ∧ (("make" : Str) == "lines") = false ∧ ¬ (("make" : Str) = "lines") ∧ (("make" : Str) == "output") = false ∧ ¬ (("make" : Str) = "output") ∧ (("make" : Str) == "taken") = false ∧ ¬ (("make" : Str) = "taken") ∧ (("make" : Str) == "things") = false ∧ ¬ (("make" : Str) = "things") ∧ (("many" : Str) == "_rows") = false ∧ ¬ (("many" : Str) = "_rows") ∧ (("methods" : Str) == "name") = false ∧ ¬ (("methods" : Str) = "name") ∧ (("methods" : Str) == "parent") = false ∧ ¬ (("methods" : Str) = "parent") ∧ (("name" : Str) == "methods") = false ∧ ¬ (("name" : Str) = "methods") ∧ (("name" : Str) == "parent") = false ∧ ¬ (("name" : Str) = "parent") ∧ (("named" : Str) == "owner") = false ∧ ¬ (("named" : Str) = "owner") ∧ (("number" : Str) == "at") = false ∧ ¬ (("number" : Str) = "at") ∧ (("number" : Str) == "handlers") = false ∧ ¬ (("number" : Str) = "handlers") ∧ (("number" : Str) == "made") = false ∧ ¬ (("number" : Str) = "made") ∧ (("number" : Str) == "rows") = false ∧ ¬ (("number" : Str) = "rows") ∧ (("number" : Str) == "scope") = false ∧ ¬ (("number" : Str) = "scope") ∧ (("number" : Str) == "scopes") = false ∧ ¬ (("number" : Str) = "scopes") ∧ (("number" : Str) == "stack") = false ∧ ¬ (("number" : Str) = "stack") ∧ (("number" : Str) == "wanted") = false ∧ ¬ (("number" : Str) = "wanted") ∧ (("output" : Str) == "lines") = false ∧ ¬ (("output" : Str) = "lines") ∧ (("output" : Str) == "taken") = false ∧ ¬ (("output" : Str) = "taken") ∧ (("output" : Str) == "things") = false ∧ ¬ (("output" : Str) = "things") ∧ (("owner" : Str) == "named") = false ∧ ¬ (("owner" : Str) = "named") ∧ (("pairs" : Str) == "_rows") = false ∧ ¬ (("pairs" : Str) = "_rows") ∧ (("parent" : Str) == "methods") = false ∧ ¬ (("parent" : Str) = "methods") ∧ (("parent" : Str) == "name") = false ∧ ¬ (("parent" : Str) = "name") ∧ (("place_of" : Str) == "_code") = false ∧ ¬ (("place_of" : Str) = "_code") ∧ (("place_of" : Str) == "frames") = false ∧ ¬ (("place_of" : Str) = "frames") ∧ (("place_of" : Str) == "places") = false ∧ ¬ (("place_of" : Str) = "places") ∧ (("place_of" : Str) == "state") = false ∧ ¬ (("place_of" : Str) = "state") ∧ (("place_of" : Str) == "steps") = false ∧ ¬ (("place_of" : Str) = "steps") ∧ (("place_of" : Str) == "store") = false ∧ ¬ (("place_of" : Str) = "store") ∧ (("place_of" : Str) == "thrown") = false ∧ ¬ (("place_of" : Str) = "thrown") ∧ (("places" : Str) == "_code") = false ∧ ¬ (("places" : Str) = "_code") ∧ (("places" : Str) == "frames") = false ∧ ¬ (("places" : Str) = "frames") ∧ (("places" : Str) == "state") = false ∧ ¬ (("places" : Str) = "state") ∧ (("places" : Str) == "steps") = false ∧ ¬ (("places" : Str) = "steps") ∧ (("places" : Str) == "store") = false ∧ ¬ (("places" : Str) = "store") ∧ (("places" : Str) == "thrown") = false ∧ ¬ (("places" : Str) = "thrown") ∧ (("pull" : Str) == "at") = false ∧ ¬ (("pull" : Str) = "at") ∧ (("pull" : Str) == "handlers") = false ∧ ¬ (("pull" : Str) = "handlers") ∧ (("pull" : Str) == "made") = false ∧ ¬ (("pull" : Str) = "made") ∧ (("pull" : Str) == "number") = false ∧ ¬ (("pull" : Str) = "number") ∧ (("pull" : Str) == "scope") = false ∧ ¬ (("pull" : Str) = "scope") ∧ (("pull" : Str) == "stack") = false ∧ ¬ (("pull" : Str) = "stack") ∧ (("push" : Str) == "at") = false ∧ ¬ (("push" : Str) = "at") ∧ (("push" : Str) == "handlers") = false ∧ ¬ (("push" : Str) = "handlers") ∧ (("push" : Str) == "made") = false ∧ ¬ (("push" : Str) = "made") ∧ (("push" : Str) == "number") = false ∧ ¬ (("push" : Str) = "number") ∧ (("push" : Str) == "scope") = false ∧ ¬ (("push" : Str) = "scope") ∧ (("push" : Str) == "stack") = false ∧ ¬ (("push" : Str) = "stack") ∧ (("put" : Str) == "_rows") = false ∧ ¬ (("put" : Str) = "_rows") ∧ (("row" : Str) == "_code") = false ∧ ¬ (("row" : Str) = "_code") ∧ (("row" : Str) == "frames") = false ∧ ¬ (("row" : Str) = "frames") ∧ (("row" : Str) == "places") = false ∧ ¬ (("row" : Str) = "places") ∧ (("row" : Str) == "state") = false ∧ ¬ (("row" : Str) = "state") ∧ (("row" : Str) == "steps") = false ∧ ¬ (("row" : Str) = "steps") ∧ (("row" : Str) == "store") = false ∧ ¬ (("row" : Str) = "store") ∧ (("row" : Str) == "thrown") = false ∧ ¬ (("row" : Str) = "thrown") ∧ (("rows" : Str) == "number") = false ∧ ¬ (("rows" : Str) = "number") ∧ (("rows" : Str) == "scopes") = false ∧ ¬ (("rows" : Str) = "scopes") ∧ (("rows" : Str) == "wanted") = false ∧ ¬ (("rows" : Str) = "wanted") ∧ (("run" : Str) == "_code") = false ∧ ¬ (("run" : Str) = "_code") ∧ (("run" : Str) == "frames") = false ∧ ¬ (("run" : Str) = "frames") ∧ (("run" : Str) == "places") = false ∧ ¬ (("run" : Str) = "places") ∧ (("run" : Str) == "state") = false ∧ ¬ (("run" : Str) = "state") ∧ (("run" : Str) == "steps") = false ∧ ¬ (("run" : Str) = "steps") ∧ (("run" : Str) == "store") = false ∧ ¬ (("run" : Str) = "store") ∧ (("run" : Str) == "thrown") = false ∧ ¬ (("run" : Str) = "thrown") ∧ (("scope" : Str) == "at") = false ∧ ¬ (("scope" : Str) = "at") ∧ (("scope" : Str) == "handlers") = false ∧ ¬ (("scope" : Str) = "handlers") ∧ (("scope" : Str) == "made") = false ∧ ¬ (("scope" : Str) = "made") ∧ (("scope" : Str) == "number") = false ∧ ¬ (("scope" : Str) = "number") ∧ (("scope" : Str) == "stack") = false ∧ ¬ (("scope" : Str) = "stack") ∧ (("scope" : Str) == "wanted") = false ∧ ¬ (("scope" : Str) = "wanted") ∧ (("scopes" : Str) == "number") = false ∧ ¬ (("scopes" : Str) = "number") ∧ (("scopes" : Str) == "rows") = false ∧ ¬ (("scopes" : Str) = "rows") ∧ (("scopes" : Str) == "wanted") = false ∧ ¬ (("scopes" : Str) = "wanted") ∧ (("stack" : Str) == "at") = false ∧ ¬ (("stack" : Str) = "at") ∧ (("stack" : Str) == "handlers") = false ∧ ¬ (("stack" : Str) = "handlers") ∧ (("stack" : Str) == "made") = false ∧ ¬ (("stack" : Str) = "made") ∧ (("stack" : Str) == "number") = false ∧ ¬ (("stack" : Str) = "number") ∧ (("stack" : Str) == "scope") = false ∧ ¬ (("stack" : Str) = "scope") ∧ (("state" : Str) == "_code") = false ∧ ¬ (("state" : Str) = "_code") ∧ (("state" : Str) == "frames") = false ∧ ¬ (("state" : Str) = "frames") ∧ (("state" : Str) == "places") = false ∧ ¬ (("state" : Str) = "places") ∧ (("state" : Str) == "steps") = false ∧ ¬ (("state" : Str) = "steps") ∧ (("state" : Str) == "store") = false ∧ ¬ (("state" : Str) = "store") ∧ (("state" : Str) == "thrown") = false ∧ ¬ (("state" : Str) = "thrown") ∧ (("status" : Str) == "_code") = false ∧ ¬ (("status" : Str) = "_code") ∧ (("status" : Str) == "frames") = false ∧ ¬ (("status" : Str) = "frames") ∧ (("status" : Str) == "places") = false ∧ ¬ (("status" : Str) = "places") ∧ (("status" : Str) == "state") = false ∧ ¬ (("status" : Str) = "state") ∧ (("status" : Str) == "steps") = false ∧ ¬ (("status" : Str) = "steps") ∧ (("status" : Str) == "store") = false ∧ ¬ (("status" : Str) = "store") ∧ (("status" : Str) == "thrown") = false ∧ ¬ (("status" : Str) = "thrown") ∧ (("step" : Str) == "_code") = false ∧ ¬ (("step" : Str) = "_code") ∧ (("step" : Str) == "frames") = false ∧ ¬ (("step" : Str) = "frames") ∧ (("step" : Str) == "places") = false ∧ ¬ (("step" : Str) = "places") ∧ (("step" : Str) == "state") = false ∧ ¬ (("step" : Str) = "state") ∧ (("step" : Str) == "steps") = false ∧ ¬ (("step" : Str) = "steps") ∧ (("step" : Str) == "store") = false ∧ ¬ (("step" : Str) = "store") ∧ (("step" : Str) == "thrown") = false ∧ ¬ (("step" : Str) = "thrown") ∧ (("steps" : Str) == "_code") = false ∧ ¬ (("steps" : Str) = "_code") ∧ (("steps" : Str) == "frames") = false ∧ ¬ (("steps" : Str) = "frames") ∧ (("steps" : Str) == "places") = false ∧ ¬ (("steps" : Str) = "places") ∧ (("steps" : Str) == "state") = false ∧ ¬ (("steps" : Str) = "state") ∧ (("steps" : Str) == "store") = false ∧ ¬ (("steps" : Str) = "store") ∧ (("steps" : Str) == "thrown") = false ∧ ¬ (("steps" : Str) = "thrown") ∧ (("store" : Str) == "_code") = false ∧ ¬ (("store" : Str) = "_code") ∧ (("store" : Str) == "frames") = false ∧ ¬ (("store" : Str) = "frames") ∧ (("store" : Str) == "places") = false ∧ ¬ (("store" : Str) = "places") ∧ (("store" : Str) == "state") = false ∧ ¬ (("store" : Str) = "state") ∧ (("store" : Str) == "steps") = false ∧ ¬ (("store" : Str) = "steps") ∧ (("store" : Str) == "thrown") = false ∧ ¬ (("store" : Str) = "thrown") ∧ (("take_out" : Str) == "_rows") = false ∧ ¬ (("take_out" : Str) = "_rows") ∧ (("taken" : Str) == "lines") = false ∧ ¬ (("taken" : Str) = "lines") ∧ (("taken" : Str) == "output") = false ∧ ¬ (("taken" : Str) = "output") ∧ (("taken" : Str) == "things") = false ∧ ¬ (("taken" : Str) = "things") ∧ (("things" : Str) == "lines") = false ∧ ¬ (("things" : Str) = "lines") ∧ (("things" : Str) == "output") = false ∧ ¬ (("things" : Str) = "output") ∧ (("things" : Str) == "taken") = false ∧ ¬ (("things" : Str) = "taken") ∧ (("throw" : Str) == "_code") = false ∧ ¬ (("throw" : Str) = "_code") ∧ (("throw" : Str) == "frames") = false ∧ ¬ (("throw" : Str) = "frames") ∧ (("throw" : Str) == "places") = false ∧ ¬ (("throw" : Str) = "places") ∧ (("throw" : Str) == "state") = false ∧ ¬ (("throw" : Str) = "state") ∧ (("throw" : Str) == "steps") = false ∧ ¬ (("throw" : Str) = "steps") ∧ (("throw" : Str) == "store") = false ∧ ¬ (("throw" : Str) = "store") ∧ (("throw" : Str) == "thrown") = false ∧ ¬ (("throw" : Str) = "thrown") ∧ (("thrown" : Str) == "_code") = false ∧ ¬ (("thrown" : Str) = "_code") ∧ (("thrown" : Str) == "frames") = false ∧ ¬ (("thrown" : Str) = "frames") ∧ (("thrown" : Str) == "places") = false ∧ ¬ (("thrown" : Str) = "places") ∧ (("thrown" : Str) == "state") = false ∧ ¬ (("thrown" : Str) = "state") ∧ (("thrown" : Str) == "steps") = false ∧ ¬ (("thrown" : Str) = "steps") ∧ (("thrown" : Str) == "store") = false ∧ ¬ (("thrown" : Str) = "store") ∧ (("value_of" : Str) == "_rows") = false ∧ ¬ (("value_of" : Str) = "_rows") ∧ (("waits" : Str) == "_code") = false ∧ ¬ (("waits" : Str) = "_code") ∧ (("waits" : Str) == "frames") = false ∧ ¬ (("waits" : Str) = "frames") ∧ (("waits" : Str) == "places") = false ∧ ¬ (("waits" : Str) = "places") ∧ (("waits" : Str) == "state") = false ∧ ¬ (("waits" : Str) = "state") ∧ (("waits" : Str) == "steps") = false ∧ ¬ (("waits" : Str) = "steps") ∧ (("waits" : Str) == "store") = false ∧ ¬ (("waits" : Str) = "store") ∧ (("waits" : Str) == "thrown") = false ∧ ¬ (("waits" : Str) = "thrown") ∧ (("wanted" : Str) == "number") = false ∧ ¬ (("wanted" : Str) = "number") ∧ (("wanted" : Str) == "rows") = false ∧ ¬ (("wanted" : Str) = "rows") ∧ (("wanted" : Str) == "scope") = false ∧ ¬ (("wanted" : Str) = "scope") ∧ (("wanted" : Str) == "scopes") = false ∧ ¬ (("wanted" : Str) = "scopes") := by (repeat' apply And.intro) <;> decide +kernel
--!none range len int isinstance bool list tuple str abs min max dict sum sorted
section
open PySem PySem.Spec PyProof.Rows L2 Fx
set_option maxHeartbeats 0
abbrev Rw : PySem.W.OpenRow := PySem.W.OpenLaw.row PySem.Challenge.rw_livequill_k71_what_is_reached
def nm0 : List Str := [("_wall" : Str), ("Ref" : Str), ("Parts" : Str), ("Table" : Str), ("Instance" : Str), ("Kin" : Str), ("Closure" : Str), ("Variable" : Str), ("Cursor" : Str), ("numbers_in" : Str), ("values_of" : Str), ("children_of" : Str), ("roots_of" : Str), ("found_from" : Str), ("reached_from" : Str), ("lost_objects" : Str), ("way_to" : Str), ("same_value" : Str), ("same_row" : Str), ("Chunk" : Str)]
def nm1 : List Str := [("Frame" : Str), ("SIGNS" : Str), ("offset_of" : Str), ("ERROR" : Str), ("Store" : Str), ("Machine" : Str), ("_law_cell" : Str), ("_law_begin" : Str), ("_law_draw" : Str), ("_law_machine" : Str), ("_law_refs" : Str), ("_law_frames" : Str), ("_law_closed" : Str), ("_law_lengths" : Str)]
abbrev nms : List Str := nm0 ++ nm1
def fa0 : List Hd.Fh := [.glo "Ref", .glo "Parts", .glo "Table", .glo "Instance", .glo "Kin", .glo "Closure", .glo "Variable", .glo "Cursor", .glo "Chunk", .glo "Frame", .glo "Store", .glo "Machine", .cls "Ref", .cls "Parts", .cls "Table", .cls "Instance", .cls "Kin", .cls "Closure", .cls "Variable", .cls "Cursor"]
def fa1 : List Hd.Fh := [.cls "Chunk", .cls "Frame", .cls "Store", .cls "Machine", .obj, .noat "Machine" "_code", .noat "Table" "_rows", .noat "Frame" "at", .noat "Machine" "frames", .noat "Frame" "handlers", .noat "Parts" "held", .noat "Store" "lines", .noat "Frame" "made", .noat "Kin" "methods", .noat "Kin" "name", .noat "Instance" "named", .noat "Ref" "number", .noat "Closure" "number", .noat "Chunk" "number", .noat "Frame" "number"]
def fa2 : List Hd.Fh := [.noat "Store" "output", .noat "Instance" "owner", .noat "Kin" "parent", .noat "Machine" "places", .noat "Cursor" "rest", .noat "Chunk" "rows", .noat "Closure" "scope", .noat "Frame" "scope", .noat "Chunk" "scopes", .noat "Frame" "stack", .noat "Machine" "state", .noat "Machine" "steps", .noat "Machine" "store", .noat "Store" "taken", .noat "Store" "things", .noat "Machine" "thrown", .noat "Variable" "value", .noat "Closure" "wanted", .noat "Chunk" "wanted", .kio "Ref" "Table"]
def fa3 : List Hd.Fh := [.kio "Ref" "Variable", .kio "Ref" "Parts", .kio "Ref" "Cursor", .kio "Ref" "Instance", .kio "Ref" "Kin", .kio "Ref" "Closure", .kio "Ref" "Ref", .kio "Ref" "Chunk", .kio "Parts" "Table", .kio "Parts" "Variable", .kio "Parts" "Parts", .kio "Parts" "Cursor", .kio "Parts" "Instance", .kio "Parts" "Kin", .kio "Parts" "Closure", .kio "Parts" "Ref", .kio "Parts" "Chunk", .kio "Table" "Table", .kio "Table" "Variable", .kio "Table" "Parts"]
def fa4 : List Hd.Fh := [.kio "Table" "Cursor", .kio "Table" "Instance", .kio "Table" "Kin", .kio "Table" "Closure", .kio "Table" "Ref", .kio "Table" "Chunk", .kio "Instance" "Table", .kio "Instance" "Variable", .kio "Instance" "Parts", .kio "Instance" "Cursor", .kio "Instance" "Instance", .kio "Instance" "Kin", .kio "Instance" "Closure", .kio "Instance" "Ref", .kio "Instance" "Chunk", .kio "Kin" "Table", .kio "Kin" "Variable", .kio "Kin" "Parts", .kio "Kin" "Cursor", .kio "Kin" "Instance"]
def fa5 : List Hd.Fh := [.kio "Kin" "Kin", .kio "Kin" "Closure", .kio "Kin" "Ref", .kio "Kin" "Chunk", .kio "Closure" "Table", .kio "Closure" "Variable", .kio "Closure" "Parts", .kio "Closure" "Cursor", .kio "Closure" "Instance", .kio "Closure" "Kin", .kio "Closure" "Closure", .kio "Closure" "Ref", .kio "Closure" "Chunk", .kio "Variable" "Table", .kio "Variable" "Variable", .kio "Variable" "Parts", .kio "Variable" "Cursor", .kio "Variable" "Instance", .kio "Variable" "Kin", .kio "Variable" "Closure"]
def fa6 : List Hd.Fh := [.kio "Variable" "Ref", .kio "Variable" "Chunk", .kio "Cursor" "Table", .kio "Cursor" "Variable", .kio "Cursor" "Parts", .kio "Cursor" "Cursor", .kio "Cursor" "Instance", .kio "Cursor" "Kin", .kio "Cursor" "Closure", .kio "Cursor" "Ref", .kio "Cursor" "Chunk", .kio "Chunk" "Table", .kio "Chunk" "Variable", .kio "Chunk" "Parts", .kio "Chunk" "Cursor", .kio "Chunk" "Instance", .kio "Chunk" "Kin", .kio "Chunk" "Closure", .kio "Chunk" "Ref", .kio "Chunk" "Chunk"]
def fa7 : List Hd.Fh := [.kio "Frame" "Table", .kio "Frame" "Variable", .kio "Frame" "Parts", .kio "Frame" "Cursor", .kio "Frame" "Instance", .kio "Frame" "Kin", .kio "Frame" "Closure", .kio "Frame" "Ref", .kio "Frame" "Chunk", .kio "Store" "Table", .kio "Store" "Variable", .kio "Store" "Parts", .kio "Store" "Cursor", .kio "Store" "Instance", .kio "Store" "Kin", .kio "Store" "Closure", .kio "Store" "Ref", .kio "Store" "Chunk", .kio "Machine" "Table", .kio "Machine" "Variable"]
def fa8 : List Hd.Fh := [.kio "Machine" "Parts", .kio "Machine" "Cursor", .kio "Machine" "Instance", .kio "Machine" "Kin", .kio "Machine" "Closure", .kio "Machine" "Ref", .kio "Machine" "Chunk", .kib "NoneType" "Table", .kib "NoneType" "Variable", .kib "NoneType" "Parts", .kib "NoneType" "Cursor", .kib "NoneType" "Instance", .kib "NoneType" "Kin", .kib "NoneType" "Closure", .kib "NoneType" "Ref", .kib "NoneType" "Chunk", .kib "bool" "Table", .kib "bool" "Variable", .kib "bool" "Parts", .kib "bool" "Cursor"]
def fa9 : List Hd.Fh := [.kib "bool" "Instance", .kib "bool" "Kin", .kib "bool" "Closure", .kib "bool" "Ref", .kib "bool" "Chunk", .kib "int" "Table", .kib "int" "Variable", .kib "int" "Parts", .kib "int" "Cursor", .kib "int" "Instance", .kib "int" "Kin", .kib "int" "Closure", .kib "int" "Ref", .kib "int" "Chunk", .kib "str" "Table", .kib "str" "Variable", .kib "str" "Parts", .kib "str" "Cursor", .kib "str" "Instance", .kib "str" "Kin"]
def fa10 : List Hd.Fh := [.kib "str" "Closure", .kib "str" "Ref", .kib "str" "Chunk", .kib "list" "Table", .kib "list" "Variable", .kib "list" "Parts", .kib "list" "Cursor", .kib "list" "Instance", .kib "list" "Kin", .kib "list" "Closure", .kib "list" "Ref", .kib "list" "Chunk", .kib "tuple" "Table", .kib "tuple" "Variable", .kib "tuple" "Parts", .kib "tuple" "Cursor", .kib "tuple" "Instance", .kib "tuple" "Kin", .kib "tuple" "Closure", .kib "tuple" "Ref"]
def fa11 : List Hd.Fh := [.kib "tuple" "Chunk", .kib "dict" "Table", .kib "dict" "Variable", .kib "dict" "Parts", .kib "dict" "Cursor", .kib "dict" "Instance", .kib "dict" "Kin", .kib "dict" "Closure", .kib "dict" "Ref", .kib "dict" "Chunk", .kob "Ref" "bool", .kob "Ref" "int", .kob "Ref" "str", .kob "Ref" "list", .kob "Ref" "tuple", .kob "Ref" "dict", .kob "Parts" "bool", .kob "Parts" "int", .kob "Parts" "str", .kob "Parts" "list"]
def fa12 : List Hd.Fh := [.kob "Parts" "tuple", .kob "Parts" "dict", .kob "Table" "bool", .kob "Table" "int", .kob "Table" "str", .kob "Table" "list", .kob "Table" "tuple", .kob "Table" "dict", .kob "Instance" "bool", .kob "Instance" "int", .kob "Instance" "str", .kob "Instance" "list", .kob "Instance" "tuple", .kob "Instance" "dict", .kob "Kin" "bool", .kob "Kin" "int", .kob "Kin" "str", .kob "Kin" "list", .kob "Kin" "tuple", .kob "Kin" "dict"]
def fa13 : List Hd.Fh := [.kob "Closure" "bool", .kob "Closure" "int", .kob "Closure" "str", .kob "Closure" "list", .kob "Closure" "tuple", .kob "Closure" "dict", .kob "Variable" "bool", .kob "Variable" "int", .kob "Variable" "str", .kob "Variable" "list", .kob "Variable" "tuple", .kob "Variable" "dict", .kob "Cursor" "bool", .kob "Cursor" "int", .kob "Cursor" "str", .kob "Cursor" "list", .kob "Cursor" "tuple", .kob "Cursor" "dict", .kob "Chunk" "bool", .kob "Chunk" "int"]
def fa14 : List Hd.Fh := [.kob "Chunk" "str", .kob "Chunk" "list", .kob "Chunk" "tuple", .kob "Chunk" "dict", .kob "Frame" "bool", .kob "Frame" "int", .kob "Frame" "str", .kob "Frame" "list", .kob "Frame" "tuple", .kob "Frame" "dict", .kob "Store" "bool", .kob "Store" "int", .kob "Store" "str", .kob "Store" "list", .kob "Store" "tuple", .kob "Store" "dict", .kob "Machine" "bool", .kob "Machine" "int", .kob "Machine" "str", .kob "Machine" "list"]
def fa15 : List Hd.Fh := [.kob "Machine" "tuple", .kob "Machine" "dict", .ne "Ref" "Parts", .ne "Ref" "Table", .ne "Ref" "Instance", .ne "Ref" "Kin", .ne "Ref" "Closure", .ne "Ref" "Variable", .ne "Ref" "Cursor", .ne "Ref" "Chunk", .ne "Ref" "Frame", .ne "Ref" "Store", .ne "Ref" "Machine", .ne "Parts" "Table", .ne "Parts" "Instance", .ne "Parts" "Kin", .ne "Parts" "Closure", .ne "Parts" "Variable", .ne "Parts" "Cursor", .ne "Parts" "Chunk"]
def fa16 : List Hd.Fh := [.ne "Parts" "Frame", .ne "Parts" "Store", .ne "Parts" "Machine", .ne "Table" "Instance", .ne "Table" "Kin", .ne "Table" "Closure", .ne "Table" "Variable", .ne "Table" "Cursor", .ne "Table" "Chunk", .ne "Table" "Frame", .ne "Table" "Store", .ne "Table" "Machine", .ne "Instance" "Kin", .ne "Instance" "Closure", .ne "Instance" "Variable", .ne "Instance" "Cursor", .ne "Instance" "Chunk", .ne "Instance" "Frame", .ne "Instance" "Store", .ne "Instance" "Machine"]
def fa17 : List Hd.Fh := [.ne "Kin" "Closure", .ne "Kin" "Variable", .ne "Kin" "Cursor", .ne "Kin" "Chunk", .ne "Kin" "Frame", .ne "Kin" "Store", .ne "Kin" "Machine", .ne "Closure" "Variable", .ne "Closure" "Cursor", .ne "Closure" "Chunk", .ne "Closure" "Frame", .ne "Closure" "Store", .ne "Closure" "Machine", .ne "Variable" "Cursor", .ne "Variable" "Chunk", .ne "Variable" "Frame", .ne "Variable" "Store", .ne "Variable" "Machine", .ne "Cursor" "Chunk", .ne "Cursor" "Frame"]
def fa18 : List Hd.Fh := [.ne "Cursor" "Store", .ne "Cursor" "Machine", .ne "Chunk" "Frame", .ne "Chunk" "Store", .ne "Chunk" "Machine", .ne "Frame" "Store", .ne "Frame" "Machine", .ne "Store" "Machine", .glo "_law_cell", .keep "_law_cell", .glo "_law_begin", .keep "_law_begin", .glo "_law_draw", .keep "_law_draw", .meth "Ref" "__init__", .meth "Instance" "__init__", .meth "Kin" "__init__", .meth "Parts" "__init__", .meth "Closure" "__init__", .meth "Variable" "__init__"]
def fa19 : List Hd.Fh := [.meth "Frame" "__init__", .meth "Chunk" "__init__", .meth "Table" "pairs", .meth "Store" "__init__", .meth "Store" "make", .glo "numbers_in", .keep "numbers_in", .glo "values_of", .keep "values_of", .glo "children_of", .keep "children_of", .glo "found_from", .keep "found_from", .glo "roots_of", .keep "roots_of", .glo "reached_from", .keep "reached_from", .glo "lost_objects", .keep "lost_objects", .glo "way_to"]
def fa20 : List Hd.Fh := [.keep "way_to", .meth "Machine" "__init__", .glo "_law_closed", .keep "_law_closed", .glo "_law_lengths", .keep "_law_lengths", .glo "_law_refs", .keep "_law_refs", .glo "_law_machine", .keep "_law_machine", .glo "_law_frames", .keep "_law_frames", .glo "law", .keep "law", .free "abs", .free "bool", .free "dict", .free "int", .free "isinstance", .free "len"]
def fa21 : List Hd.Fh := [.free "list", .free "max", .free "min", .free "range", .free "sorted", .free "str", .free "sum", .free "tuple", .str "ERROR" "Error"]
abbrev fas : List Hd.Fh := fa0 ++ (fa1 ++ (fa2 ++ (fa3 ++ (fa4 ++ (fa5 ++ (fa6 ++ (fa7 ++ (fa8 ++ (fa9 ++ (fa10 ++ (fa11 ++ (fa12 ++ (fa13 ++ (fa14 ++ (fa15 ++ (fa16 ++ (fa17 ++ (fa18 ++ (fa19 ++ (fa20 ++ (fa21)))))))))))))))))))))
def fns : List Hd.Df := [⟨.glo "_law_cell", "_law_cell", "_law_cell", s_law_cell, false⟩,
  ⟨.glo "_law_begin", "_law_begin", "_law_begin", s_law_begin, false⟩,
  ⟨.glo "_law_draw", "_law_draw", "_law_draw", s_law_draw, false⟩,
  ⟨.meth "Ref" "__init__", "__init__", "Ref.__init__", s_Ref___init__, false⟩,
  ⟨.meth "Instance" "__init__", "__init__", "Instance.__init__", s_Instance___init__, false⟩,
  ⟨.meth "Kin" "__init__", "__init__", "Kin.__init__", s_Kin___init__, false⟩,
  ⟨.meth "Parts" "__init__", "__init__", "Parts.__init__", s_Parts___init__, false⟩,
  ⟨.meth "Closure" "__init__", "__init__", "Closure.__init__", s_Closure___init__, false⟩,
  ⟨.meth "Variable" "__init__", "__init__", "Variable.__init__", s_Variable___init__, false⟩,
  ⟨.meth "Frame" "__init__", "__init__", "Frame.__init__", s_Frame___init__, false⟩,
  ⟨.meth "Chunk" "__init__", "__init__", "Chunk.__init__", s_Chunk___init__, true⟩,
  ⟨.meth "Table" "pairs", "pairs", "Table.pairs", s_Table_pairs, false⟩,
  ⟨.meth "Store" "__init__", "__init__", "Store.__init__", s_Store___init__, false⟩,
  ⟨.meth "Store" "make", "make", "Store.make", s_Store_make, false⟩,
  ⟨.glo "numbers_in", "numbers_in", "numbers_in", s_numbers_in, false⟩,
  ⟨.glo "values_of", "values_of", "values_of", s_values_of, false⟩,
  ⟨.glo "children_of", "children_of", "children_of", s_children_of, false⟩,
  ⟨.glo "found_from", "found_from", "found_from", s_found_from, false⟩,
  ⟨.glo "roots_of", "roots_of", "roots_of", s_roots_of, false⟩,
  ⟨.glo "reached_from", "reached_from", "reached_from", s_reached_from, false⟩,
  ⟨.glo "lost_objects", "lost_objects", "lost_objects", s_lost_objects, false⟩,
  ⟨.glo "way_to", "way_to", "way_to", s_way_to, false⟩,
  ⟨.meth "Machine" "__init__", "__init__", "Machine.__init__", s_Machine___init__, false⟩,
  ⟨.glo "_law_closed", "_law_closed", "_law_closed", s_law_closed, false⟩,
  ⟨.glo "_law_lengths", "_law_lengths", "_law_lengths", s_law_lengths, false⟩,
  ⟨.glo "_law_refs", "_law_refs", "_law_refs", s_law_refs, false⟩,
  ⟨.glo "_law_machine", "_law_machine", "_law_machine", s_law_machine, false⟩,
  ⟨.glo "_law_frames", "_law_frames", "_law_frames", s_law_frames, false⟩,
  ⟨.glo "law", "law", "law", s_law, false⟩]
def dcs : List (Str × List Str) := []
def rt0 : List Str := [("Ref" : Str), ("Parts" : Str), ("Table" : Str), ("Instance" : Str), ("Kin" : Str), ("Closure" : Str), ("Variable" : Str), ("Cursor" : Str), ("Chunk" : Str), ("Frame" : Str), ("Store" : Str), ("Machine" : Str), ("_law_cell" : Str), ("_law_begin" : Str), ("_law_draw" : Str), ("numbers_in" : Str), ("values_of" : Str), ("children_of" : Str), ("found_from" : Str), ("roots_of" : Str)]
def rt1 : List Str := [("reached_from" : Str), ("lost_objects" : Str), ("way_to" : Str), ("_law_closed" : Str), ("_law_lengths" : Str), ("_law_refs" : Str), ("_law_machine" : Str), ("_law_frames" : Str), ("law" : Str)]
abbrev rts : List Str := rt0 ++ rt1
abbrev hk : PySem.W.Hook := Hd.hook 5 rts fas fns dcs
def ob (s : PySem.W.SharedT) : Hd.Al := Hd.obsG 5 rts fas fns dcs (HandSHeadRun.getT s)
theorem ob_eq (s : PySem.W.SharedT) : ob s = hk.obs s.abs := Hd.obsG_eq (HandSHeadRun.getT_eq s)
def Run (w : World) : Prop := HandSHeadRun.RunEq Rw (PySem.W.view Rw.prog [44]) hk ob 300000 nms w
theorem run_f (w : World) : Run (w.withFollow "special-get-raises" false) := fun os => by kernel_rfl
theorem run_t (w : World) : Run (w.withFollow "special-get-raises" true) := fun os => by kernel_rfl
theorem run (w : World) : Run w := PySem.W.byRow2 "special-get-raises" (P := Run) run_f run_t w
end
structure Txt (K : PySem.W.Frag) (mg : Str → Option Value) (c : Cs) : Prop where
  no_abs : mg "abs" = none
  no_bool : mg "bool" = none
  no_dict : mg "dict" = none
  no_int : mg "int" = none
  no_isinstance : mg "isinstance" = none
  no_len : mg "len" = none
  no_list : mg "list" = none
  no_max : mg "max" = none
  no_min : mg "min" = none
  no_range : mg "range" = none
  no_sorted : mg "sorted" = none
  no_str : mg "str" = none
  no_sum : mg "sum" = none
  no_tuple : mg "tuple" = none
  g_ERROR : ∃ t, mg "ERROR" = some (.str "Error" t)
  mg_Ref : mg "Ref" = some (.ref c.Ref)
  cl_Ref : Cls K c.Ref
  mk_Ref : MkAt K mg "Ref" c.Ref
  mg_Parts : mg "Parts" = some (.ref c.Parts)
  cl_Parts : Cls K c.Parts
  mk_Parts : MkAt K mg "Parts" c.Parts
  mg_Table : mg "Table" = some (.ref c.Table)
  cl_Table : Cls K c.Table
  mk_Table : MkAt K mg "Table" c.Table
  mg_Instance : mg "Instance" = some (.ref c.Instance)
  cl_Instance : Cls K c.Instance
  mk_Instance : MkAt K mg "Instance" c.Instance
  mg_Kin : mg "Kin" = some (.ref c.Kin)
  cl_Kin : Cls K c.Kin
  mk_Kin : MkAt K mg "Kin" c.Kin
  mg_Closure : mg "Closure" = some (.ref c.Closure)
  cl_Closure : Cls K c.Closure
  mk_Closure : MkAt K mg "Closure" c.Closure
  mg_Variable : mg "Variable" = some (.ref c.Variable)
  cl_Variable : Cls K c.Variable
  mk_Variable : MkAt K mg "Variable" c.Variable
  mg_Cursor : mg "Cursor" = some (.ref c.Cursor)
  cl_Cursor : Cls K c.Cursor
  mk_Cursor : MkAt K mg "Cursor" c.Cursor
  mg_Chunk : mg "Chunk" = some (.ref c.Chunk)
  cl_Chunk : Cls K c.Chunk
  mk_Chunk : MkAt K mg "Chunk" c.Chunk
  mg_Frame : mg "Frame" = some (.ref c.Frame)
  cl_Frame : Cls K c.Frame
  mk_Frame : MkAt K mg "Frame" c.Frame
  mg_Store : mg "Store" = some (.ref c.Store)
  cl_Store : Cls K c.Store
  mk_Store : MkAt K mg "Store" c.Store
  mg_Machine : mg "Machine" = some (.ref c.Machine)
  cl_Machine : Cls K c.Machine
  mk_Machine : MkAt K mg "Machine" c.Machine
  pl__code : Plain K [c.Machine] "_code"
  pl__rows : Plain K [c.Table] "_rows"
  pl_at : Plain K [c.Frame] "at"
  pl_frames : Plain K [c.Machine] "frames"
  pl_function : Plain K [] "function"
  pl_handlers : Plain K [c.Frame] "handlers"
  pl_held : Plain K [c.Parts] "held"
  pl_lines : Plain K [c.Store] "lines"
  pl_made : Plain K [c.Frame] "made"
  pl_methods : Plain K [c.Kin] "methods"
  pl_name : Plain K [c.Kin] "name"
  pl_named : Plain K [c.Instance] "named"
  pl_number : Plain K [c.Ref, c.Closure, c.Chunk, c.Frame] "number"
  pl_output : Plain K [c.Store] "output"
  pl_owner : Plain K [c.Instance] "owner"
  pl_parent : Plain K [c.Kin] "parent"
  pl_places : Plain K [c.Machine] "places"
  pl_rest : Plain K [c.Cursor] "rest"
  pl_rows : Plain K [c.Chunk] "rows"
  pl_scope : Plain K [c.Closure, c.Frame] "scope"
  pl_scopes : Plain K [c.Chunk] "scopes"
  pl_stack : Plain K [c.Frame] "stack"
  pl_state : Plain K [c.Machine] "state"
  pl_steps : Plain K [c.Machine] "steps"
  pl_store : Plain K [c.Machine] "store"
  pl_taken : Plain K [c.Store] "taken"
  pl_things : Plain K [c.Store] "things"
  pl_thrown : Plain K [c.Machine] "thrown"
  pl_value : Plain K [c.Variable] "value"
  pl_wanted : Plain K [c.Closure, c.Chunk] "wanted"
  ob : ObjFact K
  kit : Kit K [c.Ref, c.Parts, c.Table, c.Instance, c.Kin, c.Closure, c.Variable, c.Cursor, c.Chunk, c.Frame, c.Store, c.Machine] [c.Table, c.Variable, c.Parts, c.Cursor, c.Instance, c.Kin, c.Closure, c.Ref, c.Chunk]
  ne : (c.Ref = c.Parts) = False ∧ (c.Ref = c.Table) = False ∧ (c.Ref = c.Instance) = False ∧ (c.Ref = c.Kin) = False ∧ (c.Ref = c.Closure) = False ∧ (c.Ref = c.Variable) = False ∧ (c.Ref = c.Cursor) = False ∧ (c.Ref = c.Chunk) = False ∧ (c.Ref = c.Frame) = False ∧ (c.Ref = c.Store) = False ∧ (c.Ref = c.Machine) = False ∧ (c.Parts = c.Ref) = False ∧ (c.Parts = c.Table) = False ∧ (c.Parts = c.Instance) = False ∧ (c.Parts = c.Kin) = False ∧ (c.Parts = c.Closure) = False ∧ (c.Parts = c.Variable) = False ∧ (c.Parts = c.Cursor) = False ∧ (c.Parts = c.Chunk) = False ∧ (c.Parts = c.Frame) = False ∧ (c.Parts = c.Store) = False ∧ (c.Parts = c.Machine) = False ∧ (c.Table = c.Ref) = False ∧ (c.Table = c.Parts) = False ∧ (c.Table = c.Instance) = False ∧ (c.Table = c.Kin) = False ∧ (c.Table = c.Closure) = False ∧ (c.Table = c.Variable) = False ∧ (c.Table = c.Cursor) = False ∧ (c.Table = c.Chunk) = False ∧ (c.Table = c.Frame) = False ∧ (c.Table = c.Store) = False ∧ (c.Table = c.Machine) = False ∧ (c.Instance = c.Ref) = False ∧ (c.Instance = c.Parts) = False ∧ (c.Instance = c.Table) = False ∧ (c.Instance = c.Kin) = False ∧ (c.Instance = c.Closure) = False ∧ (c.Instance = c.Variable) = False ∧ (c.Instance = c.Cursor) = False ∧ (c.Instance = c.Chunk) = False ∧ (c.Instance = c.Frame) = False ∧ (c.Instance = c.Store) = False ∧ (c.Instance = c.Machine) = False ∧ (c.Kin = c.Ref) = False ∧ (c.Kin = c.Parts) = False ∧ (c.Kin = c.Table) = False ∧ (c.Kin = c.Instance) = False ∧ (c.Kin = c.Closure) = False ∧ (c.Kin = c.Variable) = False ∧ (c.Kin = c.Cursor) = False ∧ (c.Kin = c.Chunk) = False ∧ (c.Kin = c.Frame) = False ∧ (c.Kin = c.Store) = False ∧ (c.Kin = c.Machine) = False ∧ (c.Closure = c.Ref) = False ∧ (c.Closure = c.Parts) = False ∧ (c.Closure = c.Table) = False ∧ (c.Closure = c.Instance) = False ∧ (c.Closure = c.Kin) = False ∧ (c.Closure = c.Variable) = False ∧ (c.Closure = c.Cursor) = False ∧ (c.Closure = c.Chunk) = False ∧ (c.Closure = c.Frame) = False ∧ (c.Closure = c.Store) = False ∧ (c.Closure = c.Machine) = False ∧ (c.Variable = c.Ref) = False ∧ (c.Variable = c.Parts) = False ∧ (c.Variable = c.Table) = False ∧ (c.Variable = c.Instance) = False ∧ (c.Variable = c.Kin) = False ∧ (c.Variable = c.Closure) = False ∧ (c.Variable = c.Cursor) = False ∧ (c.Variable = c.Chunk) = False ∧ (c.Variable = c.Frame) = False ∧ (c.Variable = c.Store) = False ∧ (c.Variable = c.Machine) = False ∧ (c.Cursor = c.Ref) = False ∧ (c.Cursor = c.Parts) = False ∧ (c.Cursor = c.Table) = False ∧ (c.Cursor = c.Instance) = False ∧ (c.Cursor = c.Kin) = False ∧ (c.Cursor = c.Closure) = False ∧ (c.Cursor = c.Variable) = False ∧ (c.Cursor = c.Chunk) = False ∧ (c.Cursor = c.Frame) = False ∧ (c.Cursor = c.Store) = False ∧ (c.Cursor = c.Machine) = False ∧ (c.Chunk = c.Ref) = False ∧ (c.Chunk = c.Parts) = False ∧ (c.Chunk = c.Table) = False ∧ (c.Chunk = c.Instance) = False ∧ (c.Chunk = c.Kin) = False ∧ (c.Chunk = c.Closure) = False ∧ (c.Chunk = c.Variable) = False ∧ (c.Chunk = c.Cursor) = False ∧ (c.Chunk = c.Frame) = False ∧ (c.Chunk = c.Store) = False ∧ (c.Chunk = c.Machine) = False ∧ (c.Frame = c.Ref) = False ∧ (c.Frame = c.Parts) = False ∧ (c.Frame = c.Table) = False ∧ (c.Frame = c.Instance) = False ∧ (c.Frame = c.Kin) = False ∧ (c.Frame = c.Closure) = False ∧ (c.Frame = c.Variable) = False ∧ (c.Frame = c.Cursor) = False ∧ (c.Frame = c.Chunk) = False ∧ (c.Frame = c.Store) = False ∧ (c.Frame = c.Machine) = False ∧ (c.Store = c.Ref) = False ∧ (c.Store = c.Parts) = False ∧ (c.Store = c.Table) = False ∧ (c.Store = c.Instance) = False ∧ (c.Store = c.Kin) = False ∧ (c.Store = c.Closure) = False ∧ (c.Store = c.Variable) = False ∧ (c.Store = c.Cursor) = False ∧ (c.Store = c.Chunk) = False ∧ (c.Store = c.Frame) = False ∧ (c.Store = c.Machine) = False ∧ (c.Machine = c.Ref) = False ∧ (c.Machine = c.Parts) = False ∧ (c.Machine = c.Table) = False ∧ (c.Machine = c.Instance) = False ∧ (c.Machine = c.Kin) = False ∧ (c.Machine = c.Closure) = False ∧ (c.Machine = c.Variable) = False ∧ (c.Machine = c.Cursor) = False ∧ (c.Machine = c.Chunk) = False ∧ (c.Machine = c.Frame) = False ∧ (c.Machine = c.Store) = False
section
variable {P : Program} {w : World} {K : PySem.W.Frag} {mg : Str → Option Value} {base : Heap} {c : Cs}
/-- the law's own state: a number, a place, the script; H0: the heap at the law's start -/
structure Dr (K : PySem.W.Frag) (H0 : Hp) (s sc : Addr) (ns : List Int) (H : Hp) : Prop where
  st : ∃ a k : Int, H s = some (.lst [.int a, .int k, .ref sc]) ∧ 0 ≤ a ∧ 0 ≤ k
  sq : SqL K H0 sc (ns.map V.int)
  sm : Same H0 H
  nw : H0 s = none
  le : ns.length ≤ 63
theorem same_keep {H0 H H' : Hp} {ps : List Addr} (s : Same H0 H) (k : Keep ps H H') (n : ∀ q ∈ ps, H0 q = none) : Same H0 H' := fun a o e => k a o (fun m => by rw [n a m] at e; cases e) (s a o e)
theorem Dr.keep {H0 : Hp} {s sc : Addr} {ns : List Int} {ps : List Addr} {H H' : Hp} (d : Dr K H0 s sc ns H) (k : Keep ps H H') (n1 : s ∉ ps) (n2 : ∀ q ∈ ps, H0 q = none) : Dr K H0 s sc ns H' := by
  obtain ⟨a, j, e, h1, h2⟩ := d.st
  exact ⟨⟨a, j, k _ _ n1 e, h1, h2⟩, d.sq, same_keep d.sm k n2, d.nw, d.le⟩
theorem Dr.same {H0 : Hp} {s sc : Addr} {ns : List Int} {H H' : Hp} (d : Dr K H0 s sc ns H) (k : Same H H') : Dr K H0 s sc ns H' := d.keep (Keep.of (ps := []) k) (by simp) (fun _ h => by cases h)
def spCell (K : PySem.W.Frag) : Sp := fun vs H Q _ => match vs with
  | [.ref a, .int k] => ∃ ns : List Int, SqL K H a (ns.map V.int) ∧ ns.length ≤ 63 ∧ 0 ≤ k ∧ ∀ v : Int, Q (.int v) H
  | _ => False
theorem ok_cell (A : At K mg "_law_cell" "_law_cell" s_law_cell ["script", "k"]) (T : Txt K mg c) : Has P w K mg base CX0 "_law_cell" 1 ["script", "k"] (spCell K) := by
  have Sc := sc_law_cell
  refine has_of A Sc (fun vs H Q E h => ?_) (fun cdv f A outer s H vs Q E hr h => ?_)
  · unfold spCell at h; split at h; rfl; cases h
  · unfold spCell at h
    split at h
    · rename_i a k
      obtain ⟨ns, hS, hn, h0, kk⟩ := h
      refine ⟨_, (pss_cons (ps_if (pt_cmpR op_fLt (fe_var 1) (pe_callB call_fLen (by rfl) T.no_len (by decide +kernel) (pa_cons (fe_var 0) pa_nil)) (nomark _)) (pss_one (ps_ret (pe_ix ix_fx (fe_var 0) (fe_var 1) (fun _ _ => rfl)))) pss_nil)
      (pss_one (ps_ret pe_int))), ?_⟩
      walk_at "fx0"
      walk_at "fx"
      refine ifs_ ?_
      walk_at "fx"
      refine ⟨_, .inl hS, ?_⟩
      rw [List.length_map]
      split
      · rename_i hlt
        obtain ⟨z, ez⟩ := at_ints (ns := ns) (i := k) h0 hlt
        exact ⟨_, .inl hS, _, ez, kk z⟩
      · exact kk 0
    · cases h
def spBegin (K : PySem.W.Frag) : Sp := fun vs H Q _ => match vs with
  | [.ref a, .int k] => 0 ≤ k ∧ ∀ s H1, H s = none → Same H H1 → H1 s = some (.lst [.int 0, .int k, .ref a]) → Q (.ref s) H1
  | _ => False
theorem ok_begin (A : At K mg "_law_begin" "_law_begin" s_law_begin ["script", "k"]) (T : Txt K mg c) : Has P w K mg base CX0 "_law_begin" 1 ["script", "k"] (spBegin K) := by
  have Sc := sc_law_begin
  refine has_of A Sc (fun vs H Q E h => ?_) (fun cdv f A outer s H vs Q E hr h => ?_)
  · unfold spBegin at h; split at h; rfl; cases h
  · unfold spBegin at h
    split at h
    · rename_i a k
      obtain ⟨h0, kk⟩ := h
      refine ⟨_, (pss_one (ps_ret (fe_lst (pa_cons pe_int (pa_cons (fe_var 1) (pa_cons (fe_var 0) pa_nil)))))), ?_⟩
      walk_at "fx0"
      walk_at "fx"
      exact kk
    · cases h
def spDraw (K : PySem.W.Frag) : Sp := fun vs H Q _ => match vs with
  | [.ref s, .int m] => ∃ H0 sc ns, Dr K H0 s sc ns H ∧ 0 < m ∧ m < 1000000000000000000000000000000 ∧ ∀ H1 (d : Int), Keep [s] H H1 → Dr K H0 s sc ns H1 → 0 ≤ d → d < m → Q (.int d) H1
  | _ => False
theorem big_mul {i : Int} (h0 : 0 ≤ i) (h : i < 2 ^ 100) : IntMulOk i i := by
  have b : Builtin.Int.intBits i ≤ 128 := by
    unfold Builtin.Int.intBits
    by_cases hz : i = 0
    · subst hz; decide
    · rw [if_neg (by simpa using hz)]
      have : i.natAbs.log2 < 100 := (Nat.log2_lt (by omega)).mpr (by omega)
      omega
  exact IntMulOk.of_le b b (by decide)
theorem ok_draw (A : At K mg "_law_draw" "_law_draw" s_law_draw ["state", "many"]) (T : Txt K mg c) (H_law_cell : Has P w K mg base CX0 "_law_cell" 1 ["script", "k"] (spCell K)) : Has P w K mg base CX0 "_law_draw" 2 ["state", "many"] (spDraw K) := by
  have Sc := sc_law_draw
  refine has_of A Sc (fun vs H Q E h => ?_) (fun cdv f A outer s H vs Q E hr h => ?_)
  · unfold spDraw at h; split at h; rfl; cases h
  · unfold spDraw at h
    split at h
    · rename_i st m
      obtain ⟨H0, sc, ns, D, h0, h1, kk⟩ := h
      obtain ⟨x, k, es, hx, hk⟩ := D.st
      refine ⟨_, (pss_cons (ps_if (pt_cmpR op_fLt (pe_ix ix_fx (fe_var 0) pe_int (fun _ _ => rfl)) (fe_var 1) (nomark _)) (pss_cons (ps_set (i := 2) Sc.nd rfl (.inl rfl) (pe_ix ix_fx (fe_var 0) pe_int (fun _ _ => rfl)))
      (pss_cons (ps_set (i := 3) Sc.nd rfl (.inl rfl) (fe_call H_law_cell (hr.mono (by walk_at "rm")) (by rfl) pass0 (pa_cons (pe_ix ix_fx (fe_var 0) pe_int (fun _ _ => rfl)) (pa_cons (fe_var 2) pa_nil))))
      (pss_cons (ps_set (i := 4) Sc.nd rfl (.inl rfl) pe_int)
      (pss_cons (ps_asg (pe_op op_fAdd (fe_var 2) pe_int) (pg_sub (fe_var 0) pe_int set_fx))
      (pss_cons (ps_asg (pe_callB call_fAbs (by rfl) T.no_abs (by decide +kernel) (pa_cons (fe_var 3) pa_nil)) (pg_sub (fe_var 0) pe_int set_fx))
      (pss_one (ps_if (pt_chain op_fLt op_fLt (pe_un un_fNeg pe_int) (fe_var 3) pe_int) (pss_cons (ps_set (i := 5) Sc.nd rfl (.inl rfl) (pe_op op_fMod (pe_callTy call_fInt (by rfl) T.no_int (by decide +kernel) (pa_cons (pe_op op_fAdd (pe_op op_fMul (fe_var 3) pe_int) (pe_op op_fMul (pe_op op_fAdd (fe_var 2) pe_int) pe_int)) pa_nil)) (fe_var 4)))
      (pss_one (ps_asg (pe_op op_fAdd (pe_op op_fMod (pe_callTy call_fInt (by rfl) T.no_int (by decide +kernel) (pa_cons (pe_op op_fAdd (pe_op op_fAdd (pe_op op_fMul (fe_var 5) (fe_var 5)) (pe_op op_fMul pe_int (fe_var 5))) (fe_var 2)) pa_nil)) (fe_var 4)) (fe_var 4)) (pg_sub (fe_var 0) pe_int set_fx)))) pss_nil))))))) pss_nil)
      (pss_cons (ps_set (i := 6) Sc.nd rfl (.inl rfl) (pe_op op_fMod (pe_callTy call_fInt (by rfl) T.no_int (by decide +kernel) (pa_cons (pe_ix ix_fx (fe_var 0) pe_int (fun _ _ => rfl)) pa_nil)) (fe_var 1)))
      (pss_cons (ps_asg (pe_op op_fDiv (pe_ix ix_fx (fe_var 0) pe_int (fun _ _ => rfl)) (fe_var 1)) (pg_sub (fe_var 0) pe_int set_fx))
      (pss_one (ps_ret (fe_var 6)))))), ?_⟩
      walk_at "fx0"
      walk_at "fx"
      refine cut_ fun N hN => ifs_ ?_
      walk_at "fx"
      refine ⟨_, rl_l es, _, atI_nat (j := 0) rfl, ?_⟩
      walk_at "fx"
      have fin : ∀ (y : Int) (k' : Int) (v2 v3 v4 v5 : Option V) (H1 : Hp), Keep [st] H H1 → H1 st = some (.lst [.int y, .int k', .ref sc]) → 0 ≤ y → 0 ≤ k' → N [some (.ref st), some (.int m), v2, v3, v4, v5, none] H1 := by
        intro y k' v3 v4 v5 v6 H1 kp e1 g0 g1
        refine hN _ _ ?_
        walk_at "fx"
        refine ⟨_, rl_l e1, _, atI_nat (j := 0) rfl, h0, _, rl_l e1, _, atI_nat (j := 0) rfl, wide_div (b := 100) h0 (by omega) (by decide) (by decide), ?_⟩
        rw [e1]
        refine ⟨0, rfl, ?_⟩
        have kp2 : Keep [st] H (upd H1 st (.lst ([V.int y, .int k', .ref sc].set 0 (.int (y / m))))) := kp.upd (by simp)
        exact kk _ _ kp2 ⟨⟨y / m, k', upd_same, Int.ediv_nonneg g0 (by omega), g1⟩, D.sq, same_keep D.sm kp2 (by intro q hq; rw [List.mem_singleton.mp hq]; exact D.nw), D.nw, D.le⟩ (emod_lo y h0) (emod_hi y h0)
      split
      · refine ⟨_, rl_l es, _, atI_nat (j := 1) rfl, _, rl_l es, _, atI_nat (j := 2) rfl, ?_⟩
        unfold spCell
        refine ⟨ns, D.sm.seq D.sq, D.le, hk, fun v => ?_⟩
        walk_at "fx"
        simp only [es]
        walk_at "fx"
        refine ⟨1, rfl, 0, rfl, ?_⟩
        refine ifs_ ?_
        walk_at "fx"
        have kp : Keep [st] H (upd (upd H st (.lst [.int x, .int (k + 1), .ref sc])) st (.lst [.int (if v < 0 then -v else v), .int (k + 1), .ref sc])) := (Keep.refl.upd (by simp)).upd (by simp)
        have ha : 0 ≤ (if v < 0 then -v else v) := by split <;> omega
        split
        · split
          · have g0 := emod_lo (v * 2654435761 + (k + 1) * 6700417) (m := 618970019642690137449562111) (by decide)
            have g1 := emod_hi (v * 2654435761 + (k + 1) * 6700417) (m := 618970019642690137449562111) (by decide)
            generalize (v * 2654435761 + (k + 1) * 6700417) % 618970019642690137449562111 = y at g0 g1
            have g2 := emod_lo (y * y + 7 * y + k) (m := 618970019642690137449562111) (by decide)
            refine ⟨by walk_at "mul", by walk_at "mul", big_mul g0 (by omega), by walk_at "mul", 0, rfl, ?_⟩
            exact fin _ (k + 1) _ _ _ _ _ (kp.upd (by simp)) upd_same (by omega) (by omega)
          · exact fin _ (k + 1) _ _ _ _ _ kp upd_same ha (by omega)
        · exact fin _ (k + 1) _ _ _ _ _ kp upd_same ha (by omega)
      · exact fin x k _ _ _ _ H Keep.refl es hx hk
    · cases h
end

section
variable {P : Program} {w : World} {K : PySem.W.Frag} {mg : Str → Option Value} {base : Heap} {c : Cs}
def spMk_Ref (K : PySem.W.Frag) (c : Cs) : Sp := fun vs H Q _ => match vs with
  | [v_number] => ∀ y dx H1, H y = none → Same H H1 → H1 y = some (.ins c.Ref dx [("number", v_number)]) → Q (.ref y) H1
  | _ => False
theorem mk_Ref (A : AtM K c.Ref "__init__" "Ref.__init__" s_Ref___init__ ["self", "number"]) (T : Txt K mg c) : HasC P w K mg base CX0 c.Ref "Ref" 1 ["self", "number"] (spMk_Ref K c) := by
  have Sc := sc_Ref___init__
  refine hasC_of T.mk_Ref A Sc (fun vs H Q E h => ?_) (fun cdv f A outer s H vs Q E y dx H0 hr h hy hs h0 => ?_)
  · unfold spMk_Ref at h; split at h; rfl; cases h
  · unfold spMk_Ref at h
    split at h
    · rename_i v_number
      refine ⟨_, (pss_one (fs_fld (fe_var 0) (fe_var 1) T.pl_number rfl)), ?_⟩
      walk_at "fx0"
      walk_at "ox"
      simp only [h0]
      walk_at "ox"
      first
        | exact h y dx _ hy (mk_same hs hy) upd_same
        | exact ⟨by decide, h y dx _ hy (mk_same hs hy) upd_same⟩
    · cases h
def spMk_Instance (K : PySem.W.Frag) (c : Cs) : Sp := fun vs H Q _ => match vs with
  | [v_owner] => ∀ y dx p_named H1, H y = none → Same H H1 → H1 y = some (.ins c.Instance dx [("owner", v_owner), ("named", (.ref p_named))]) → H p_named = none → H1 p_named = some (.dK []) → p_named ≠ y → Q (.ref y) H1
  | _ => False
theorem mk_Instance (A : AtM K c.Instance "__init__" "Instance.__init__" s_Instance___init__ ["self", "owner"]) (T : Txt K mg c) : HasC P w K mg base CX0 c.Instance "Instance" 1 ["self", "owner"] (spMk_Instance K c) := by
  have Sc := sc_Instance___init__
  refine hasC_of T.mk_Instance A Sc (fun vs H Q E h => ?_) (fun cdv f A outer s H vs Q E y dx H0 hr h hy hs h0 => ?_)
  · unfold spMk_Instance at h; split at h; rfl; cases h
  · unfold spMk_Instance at h
    split at h
    · rename_i v_owner
      refine ⟨_, (pss_cons (fs_fld (fe_var 0) (fe_var 1) T.pl_owner rfl)
      (pss_one (fs_fld (fe_var 0) fe_dnew T.pl_named rfl))), ?_⟩
      walk_at "fx0"
      walk_at "ox"
      simp only [h0]
      walk_at "ox"
      intro p_named G_named n_named s_named e_named
      have ny_named : p_named ≠ y := fun q => by rw [q, upd_same] at n_named; cases n_named
      have y_named := s_named _ _ (upd_same)
      have t_named := (mk_same hs hy).trans s_named
      have f_named := Same.free (mk_same hs hy) n_named
      simp only [y_named]
      walk_at "ox"
      first
        | exact h y dx p_named _ hy (mk_same t_named hy) upd_same f_named ((upd_ne ny_named).trans e_named) ny_named
        | exact ⟨by decide, h y dx p_named _ hy (mk_same t_named hy) upd_same f_named ((upd_ne ny_named).trans e_named) ny_named⟩
    · cases h
def spMk_Kin (K : PySem.W.Frag) (c : Cs) : Sp := fun vs H Q _ => match vs with
  | [v_name, v_parent] => ∀ y dx p_methods H1, H y = none → Same H H1 → H1 y = some (.ins c.Kin dx [("name", v_name), ("parent", v_parent), ("methods", (.ref p_methods))]) → H p_methods = none → H1 p_methods = some (.dK []) → p_methods ≠ y → Q (.ref y) H1
  | _ => False
theorem mk_Kin (A : AtM K c.Kin "__init__" "Kin.__init__" s_Kin___init__ ["self", "name", "parent"]) (T : Txt K mg c) : HasC P w K mg base CX0 c.Kin "Kin" 1 ["self", "name", "parent"] (spMk_Kin K c) := by
  have Sc := sc_Kin___init__
  refine hasC_of T.mk_Kin A Sc (fun vs H Q E h => ?_) (fun cdv f A outer s H vs Q E y dx H0 hr h hy hs h0 => ?_)
  · unfold spMk_Kin at h; split at h; rfl; cases h
  · unfold spMk_Kin at h
    split at h
    · rename_i v_name v_parent
      refine ⟨_, (pss_cons (fs_fld (fe_var 0) (fe_var 1) T.pl_name rfl)
      (pss_cons (fs_fld (fe_var 0) (fe_var 2) T.pl_parent rfl)
      (pss_one (fs_fld (fe_var 0) fe_dnew T.pl_methods rfl)))), ?_⟩
      walk_at "fx0"
      walk_at "ox"
      simp only [h0]
      walk_at "ox"
      intro p_methods G_methods n_methods s_methods e_methods
      have ny_methods : p_methods ≠ y := fun q => by rw [q, upd_same] at n_methods; cases n_methods
      have y_methods := s_methods _ _ (upd_same)
      have t_methods := (mk_same hs hy).trans s_methods
      have f_methods := Same.free (mk_same hs hy) n_methods
      simp only [y_methods]
      walk_at "ox"
      first
        | exact h y dx p_methods _ hy (mk_same t_methods hy) upd_same f_methods ((upd_ne ny_methods).trans e_methods) ny_methods
        | exact ⟨by decide, h y dx p_methods _ hy (mk_same t_methods hy) upd_same f_methods ((upd_ne ny_methods).trans e_methods) ny_methods⟩
    · cases h
def spMk_Parts (K : PySem.W.Frag) (c : Cs) : Sp := fun vs H Q _ => match vs with
  | [.ref v_held] => ∃ xs_held, Rl K H v_held xs_held ∧ ∀ y dx p_held H1, H y = none → Same H H1 → H1 y = some (.ins c.Parts dx [("held", (.ref p_held))]) → H p_held = none → H1 p_held = some (.lst xs_held) → p_held ≠ y → Q (.ref y) H1
  | _ => False
theorem mk_Parts (A : AtM K c.Parts "__init__" "Parts.__init__" s_Parts___init__ ["self", "held"]) (T : Txt K mg c) : HasC P w K mg base CX0 c.Parts "Parts" 1 ["self", "held"] (spMk_Parts K c) := by
  have Sc := sc_Parts___init__
  refine hasC_of T.mk_Parts A Sc (fun vs H Q E h => ?_) (fun cdv f A outer s H vs Q E y dx H0 hr h hy hs h0 => ?_)
  · unfold spMk_Parts at h; split at h; rfl; cases h
  · unfold spMk_Parts at h
    split at h
    · rename_i v_held
      obtain ⟨xs_held, r_held, h⟩ := h
      refine ⟨_, (pss_one (fs_fld (fe_var 0) (pe_callTy call_fListOf (by rfl) T.no_list (by decide +kernel) (pa_cons (fe_var 1) pa_nil)) T.pl_held rfl)), ?_⟩
      walk_at "fx0"
      walk_at "ox"
      refine ⟨_, rl_keep (hs) r_held, ?_⟩
      intro p_held G_held n_held s_held e_held
      have ny_held : p_held ≠ y := fun q => by rw [q, h0] at n_held; cases n_held
      have y_held := s_held _ _ (h0)
      have t_held := (hs).trans s_held
      have f_held := Same.free (hs) n_held
      simp only [y_held]
      walk_at "ox"
      first
        | exact h y dx p_held _ hy (mk_same t_held hy) upd_same f_held ((upd_ne ny_held).trans e_held) ny_held
        | exact ⟨by decide, h y dx p_held _ hy (mk_same t_held hy) upd_same f_held ((upd_ne ny_held).trans e_held) ny_held⟩
    · cases h
def spMk_Closure (K : PySem.W.Frag) (c : Cs) : Sp := fun vs H Q _ => match vs with
  | [v_number, v_wanted, v_scope] => ∀ y dx H1, H y = none → Same H H1 → H1 y = some (.ins c.Closure dx [("number", v_number), ("wanted", v_wanted), ("scope", v_scope)]) → Q (.ref y) H1
  | _ => False
theorem mk_Closure (A : AtM K c.Closure "__init__" "Closure.__init__" s_Closure___init__ ["self", "number", "wanted", "scope"]) (T : Txt K mg c) : HasC P w K mg base CX0 c.Closure "Closure" 1 ["self", "number", "wanted", "scope"] (spMk_Closure K c) := by
  have Sc := sc_Closure___init__
  refine hasC_of T.mk_Closure A Sc (fun vs H Q E h => ?_) (fun cdv f A outer s H vs Q E y dx H0 hr h hy hs h0 => ?_)
  · unfold spMk_Closure at h; split at h; rfl; cases h
  · unfold spMk_Closure at h
    split at h
    · rename_i v_number v_wanted v_scope
      refine ⟨_, (pss_cons (fs_fld (fe_var 0) (fe_var 1) T.pl_number rfl)
      (pss_cons (fs_fld (fe_var 0) (fe_var 2) T.pl_wanted rfl)
      (pss_one (fs_fld (fe_var 0) (fe_var 3) T.pl_scope rfl)))), ?_⟩
      walk_at "fx0"
      walk_at "ox"
      simp only [h0]
      walk_at "ox"
      first
        | exact h y dx _ hy (mk_same hs hy) upd_same
        | exact ⟨by decide, h y dx _ hy (mk_same hs hy) upd_same⟩
    · cases h
def spMk_Variable (K : PySem.W.Frag) (c : Cs) : Sp := fun vs H Q _ => match vs with
  | [v_value] => ∀ y dx H1, H y = none → Same H H1 → H1 y = some (.ins c.Variable dx [("value", v_value)]) → Q (.ref y) H1
  | _ => False
theorem mk_Variable (A : AtM K c.Variable "__init__" "Variable.__init__" s_Variable___init__ ["self", "value"]) (T : Txt K mg c) : HasC P w K mg base CX0 c.Variable "Variable" 1 ["self", "value"] (spMk_Variable K c) := by
  have Sc := sc_Variable___init__
  refine hasC_of T.mk_Variable A Sc (fun vs H Q E h => ?_) (fun cdv f A outer s H vs Q E y dx H0 hr h hy hs h0 => ?_)
  · unfold spMk_Variable at h; split at h; rfl; cases h
  · unfold spMk_Variable at h
    split at h
    · rename_i v_value
      refine ⟨_, (pss_one (fs_fld (fe_var 0) (fe_var 1) T.pl_value rfl)), ?_⟩
      walk_at "fx0"
      walk_at "ox"
      simp only [h0]
      walk_at "ox"
      first
        | exact h y dx _ hy (mk_same hs hy) upd_same
        | exact ⟨by decide, h y dx _ hy (mk_same hs hy) upd_same⟩
    · cases h
def spMk_Frame (K : PySem.W.Frag) (c : Cs) : Sp := fun vs H Q _ => match vs with
  | [v_number, v_scope] => ∀ y dx p_stack p_handlers H1, H y = none → Same H H1 → H1 y = some (.ins c.Frame dx [("number", v_number), ("at", (.int 0)), ("scope", v_scope), ("stack", (.ref p_stack)), ("handlers", (.ref p_handlers)), ("made", (.non))]) → H p_stack = none → H1 p_stack = some (.lst []) → H p_handlers = none → H1 p_handlers = some (.lst []) → p_stack ≠ y → p_handlers ≠ y → p_handlers ≠ p_stack → Q (.ref y) H1
  | _ => False
theorem mk_Frame (A : AtM K c.Frame "__init__" "Frame.__init__" s_Frame___init__ ["self", "number", "scope"]) (T : Txt K mg c) : HasC P w K mg base CX0 c.Frame "Frame" 1 ["self", "number", "scope"] (spMk_Frame K c) := by
  have Sc := sc_Frame___init__
  refine hasC_of T.mk_Frame A Sc (fun vs H Q E h => ?_) (fun cdv f A outer s H vs Q E y dx H0 hr h hy hs h0 => ?_)
  · unfold spMk_Frame at h; split at h; rfl; cases h
  · unfold spMk_Frame at h
    split at h
    · rename_i v_number v_scope
      refine ⟨_, (pss_cons (fs_fld (fe_var 0) (fe_var 1) T.pl_number rfl)
      (pss_cons (fs_fld (fe_var 0) pe_int T.pl_at rfl)
      (pss_cons (fs_fld (fe_var 0) (fe_var 2) T.pl_scope rfl)
      (pss_cons (fs_fld (fe_var 0) (fe_lst pa_nil) T.pl_stack rfl)
      (pss_cons (fs_fld (fe_var 0) (fe_lst pa_nil) T.pl_handlers rfl)
      (pss_one (fs_fld (fe_var 0) pe_non T.pl_made rfl))))))), ?_⟩
      walk_at "fx0"
      walk_at "ox"
      simp only [h0]
      walk_at "ox"
      intro p_stack G_stack n_stack s_stack e_stack
      have ny_stack : p_stack ≠ y := fun q => by rw [q, upd_same] at n_stack; cases n_stack
      have y_stack := s_stack _ _ (upd_same)
      have t_stack := (mk_same hs hy).trans s_stack
      have f_stack := Same.free (mk_same hs hy) n_stack
      simp only [y_stack]
      walk_at "ox"
      intro p_handlers G_handlers n_handlers s_handlers e_handlers
      have ny_handlers : p_handlers ≠ y := fun q => by rw [q, upd_same] at n_handlers; cases n_handlers
      have y_handlers := s_handlers _ _ (upd_same)
      have t_handlers := (mk_same t_stack hy).trans s_handlers
      have f_handlers := Same.free (mk_same t_stack hy) n_handlers
      simp only [y_handlers]
      walk_at "ox"
      have q_1_0 : p_handlers ≠ p_stack := fun q => by rw [q, (upd_ne ny_stack).trans e_stack] at n_handlers; cases n_handlers
      first
        | exact h y dx p_stack p_handlers _ hy (mk_same t_handlers hy) upd_same f_stack ((upd_ne ny_stack).trans (s_handlers _ _ ((upd_ne ny_stack).trans e_stack))) f_handlers ((upd_ne ny_handlers).trans e_handlers) ny_stack ny_handlers q_1_0
        | exact ⟨by decide, h y dx p_stack p_handlers _ hy (mk_same t_handlers hy) upd_same f_stack ((upd_ne ny_stack).trans (s_handlers _ _ ((upd_ne ny_stack).trans e_stack))) f_handlers ((upd_ne ny_handlers).trans e_handlers) ny_stack ny_handlers q_1_0⟩
    · cases h
end
section
variable {P : Program} {w : World} {K : PySem.W.Frag} {mg : Str → Option Value} {base : Heap} {c : Cs}
/-- the content of a key's tuple -/
def kxs (v : V) : List V := match v with
  | .bl _ => [.str "boolean", v]
  | _ => [.str "key", v]
def kN (v : V) : NestedKey := tupK (kxs v)
theorem kxs_sc {v : V} (h : scV v = true) : (kxs v).all scV = true := by cases v <;> first | rfl | cases h
theorem leaf_bl {p q : Bool} (h : leafK (.bl p) = leafK (.bl q)) : p = q := by
  have h' := NestedKey.num.inj (show NestedKey.num (if p = true then 1 else 0) = .num (if q = true then 1 else 0) from h)
  cases p <;> cases q <;> first
    | rfl
    | exact absurd h' (by decide)
theorem leafK_inj {x y : V} (hx : scV x = true) (hy : scV y = true) (b : (∃ p, x = .bl p) ↔ ∃ p, y = .bl p) (h : leafK x = leafK y) : x = y := by
  cases x <;> cases y <;> first
    | rfl
    | (exact congrArg V.bl (leaf_bl h))
    | (cases hx; done)
    | (cases hy; done)
    | (exact absurd (b.mp ⟨_, rfl⟩) (fun ⟨_, z⟩ => by cases z))
    | (exact absurd (b.mpr ⟨_, rfl⟩) (fun ⟨_, z⟩ => by cases z))
    | (cases h; done)
    | (cases h; rfl)
def tagV : V → Str
  | .bl _ => "boolean"
  | _ => "key"
theorem kN_inj {x y : V} (hx : scV x = true) (hy : scV y = true) (h : kN x = kN y) : x = y := by
  have h' := NestedKey.tup.inj (show NestedKey.tup ((kxs x).map leafK) = .tup ((kxs y).map leafK) from h)
  have e : ∀ v : V, (kxs v).map leafK = [.text (tagV v), leafK v] := fun v => by cases v <;> rfl
  rw [e, e] at h'
  have ht := NestedKey.text.inj (List.cons.inj h').1
  have hl := (List.cons.inj (List.cons.inj h').2).1
  refine leafK_inj hx hy ?_ hl
  have n1 : ¬ ((Str.ofString "boolean") = Str.ofString "key") := by decide +kernel
  have n2 : ¬ ((Str.ofString "key") = Str.ofString "boolean") := by decide +kernel
  cases x <;> cases y <;> first
    | (exact absurd ht n1)
    | (exact absurd ht n2)
    | (simp; done)
/-- the entries of a table: keys and values in order -/
def RowE (H : Hp) (e : NEnt) (r : V × V) : Prop := e.1 = kN r.1 ∧ scV r.1 = true ∧ ∃ tp, e.2.2 = .ref tp ∧ H tp = some (.tup [r.1, r.2])
structure TabR (w : World) (H : Hp) (d : Addr) (rows : List (V × V)) : Prop where
  ex : ∃ es, DN w H d es ∧ H d = some (nkO w d es) ∧ Paired (RowE H) es rows
  nd : (rows.map (·.1)).Nodup
def IsTab (c : Cs) (H : Hp) (a d : Addr) : Prop := ∃ dx, H a = some (.ins c.Table dx [("_rows", .ref d)])
theorem IsTab.same {H H' : Hp} {a d : Addr} (h : IsTab c H a d) (s : Same H H') : IsTab c H' a d := h.imp fun _ e => s _ _ e
theorem RowE.mono {H H' : Hp} {e : NEnt} {r : V × V} (h : RowE H e r) (s : ∀ b xs, H b = some (.tup xs) → H' b = some (.tup xs)) : RowE H' e r := ⟨h.1, h.2.1, h.2.2.imp fun _ ⟨x, y⟩ => ⟨x, s _ _ y⟩⟩
theorem TabR.mono {H H' : Hp} {d : Addr} {rows : List (V × V)} (h : TabR w H d rows) (hd : ∀ o, H d = some o → H' d = some o) (s : ∀ b xs, H b = some (.tup xs) → H' b = some (.tup xs)) : TabR w H' d rows := by
  obtain ⟨⟨es, D, e0, r⟩, nd⟩ := h
  exact ⟨⟨es, ⟨.inl (hd _ e0), fun e he => (D.ks e he).mono s⟩, hd _ e0, Paired.mapP r fun _ _ q => q.mono s⟩, nd⟩
theorem TabR.same {H H' : Hp} {d : Addr} {rows : List (V × V)} (h : TabR w H d rows) (s : Same H H') : TabR w H' d rows := h.mono (fun _ e => s _ _ e) fun _ _ e => s _ _ e
/-- behind a change of something that is no tuple, elsewhere -/
theorem TabR.keep {H H' : Hp} {d : Addr} {rows : List (V × V)} {ps : List Addr} (h : TabR w H d rows) (k : Keep ps H H') (n : d ∉ ps) (nt : ∀ p ∈ ps, ∀ xs, H p ≠ some (.tup xs)) : TabR w H' d rows :=
  h.mono (fun _ e => k _ _ n e) fun b xs e => k _ _ (fun m => nt b m xs e) e
def rowAt (rows : List (V × V)) (k : V) : Option V := (rows.find? fun r => decide (r.1 = k)).map (·.2)
def putR (rows : List (V × V)) (k v : V) : List (V × V) := if (rowAt rows k).isSome = true then rows.map (fun r => if r.1 = k then (k, v) else r) else rows ++ [(k, v)]
def dropR (rows : List (V × V)) (k : V) : List (V × V) := rows.filter fun r => decide (r.1 ≠ k)
theorem rows_at {H : Hp} {k : V} (hk : scV k = true) : ∀ {es : List NEnt} {rows : List (V × V)}, Paired (RowE H) es rows → match atN es (kN k), rowAt rows k with
    | some (.ref tp), some v => H tp = some (.tup [k, v])
    | none, none => True
    | _, _ => False := by
  intro es rows h
  induction h with
  | nil => exact trivial
  | @cons e r es rows h t ih =>
    obtain ⟨h1, h2, tp, h3, h4⟩ := h
    by_cases q : r.1 = k
    · have a : atN (e :: es) (kN k) = some e.2.2 := by simp [atN, List.find?_cons, h1, q]
      have b : rowAt (r :: rows) k = some r.2 := by simp [rowAt, List.find?_cons, q]
      rw [a, b, h3]
      rw [q] at h4
      exact h4
    · have nq : ¬ e.1 = kN k := fun z => q (kN_inj h2 hk (h1.symm.trans z))
      have a : atN (e :: es) (kN k) = atN es (kN k) := by simp [atN, List.find?_cons, nq]
      have b : rowAt (r :: rows) k = rowAt rows k := by simp [rowAt, List.find?_cons, q]
      rw [a, b]
      exact ih
theorem rows_some {H : Hp} {k : V} (hk : scV k = true) {es : List NEnt} {rows : List (V × V)} (h : Paired (RowE H) es rows) : (atN es (kN k)).isSome = (rowAt rows k).isSome := by
  have := rows_at hk h
  split at this
  · rename_i e1 e2; rw [e1, e2]; rfl
  · rename_i e1 e2; rw [e1, e2]
  · exact this.elim
theorem rows_put {H : Hp} {k v : V} {q tp : Addr} (hk : scV k = true) (ht : H tp = some (.tup [k, v])) {es : List NEnt} {rows : List (V × V)} (h : Paired (RowE H) es rows) : Paired (RowE H) (putN es (kN k) q (.ref tp)) (putR rows k v) := by
  unfold putN putR
  rw [rows_some hk h]
  split
  · rename_i hs
    clear hs
    induction h with
    | nil => exact .nil
    | @cons e r es rows h t ih =>
      rw [List.map_cons, List.map_cons]
      refine .cons ?_ ih
      obtain ⟨h1, h2, h3⟩ := h
      by_cases z : r.1 = k
      · rw [if_pos z, if_pos (by rw [h1, z])]
        exact ⟨by rw [h1, z], hk, tp, rfl, ht⟩
      · rw [if_neg z, if_neg (fun w => z (kN_inj h2 hk (h1.symm.trans w)))]
        exact ⟨h1, h2, h3⟩
  · exact Paired.snoc h ⟨rfl, hk, tp, rfl, ht⟩
theorem rows_drop {H : Hp} {k : V} (hk : scV k = true) {es : List NEnt} {rows : List (V × V)} (h : Paired (RowE H) es rows) : Paired (RowE H) (dropN es (kN k)) (dropR rows k) := by
  unfold dropN dropR
  induction h with
  | nil => exact .nil
  | @cons e r es rows h t ih =>
    obtain ⟨h1, h2, h3⟩ := h
    rw [List.filter_cons, List.filter_cons]
    by_cases z : r.1 = k
    · rw [if_neg (by simp [h1, z]), if_neg (by simp [z])]
      exact ih
    · rw [if_pos (by simpa using fun w => z (kN_inj h2 hk (h1.symm.trans w))), if_pos (by simp [z])]
      exact .cons ⟨h1, h2, h3⟩ ih
theorem rowAt_mem {rows : List (V × V)} {k : V} : (rowAt rows k).isSome = true ↔ k ∈ rows.map (·.1) := by
  unfold rowAt
  rw [Option.isSome_map, List.find?_isSome]
  simp
theorem putR_nd {rows : List (V × V)} {k v : V} (h : (rows.map (·.1)).Nodup) : ((putR rows k v).map (·.1)).Nodup := by
  unfold putR
  split
  · have e : (rows.map fun r => if r.1 = k then (k, v) else r).map (·.1) = rows.map (·.1) := by
      rw [List.map_map]
      refine List.map_congr_left fun r _ => ?_
      show (if r.1 = k then (k, v) else r).1 = r.1
      split
      · rename_i z; exact z.symm
      · rfl
    rw [e]; exact h
  · rename_i z
    rw [rowAt_mem] at z
    rw [List.map_append, List.nodup_append]
    refine ⟨h, by simp, fun a ha b hb e => ?_⟩
    simp at hb
    subst hb
    subst e
    exact z ha
theorem dropR_nd {rows : List (V × V)} {k : V} (h : (rows.map (·.1)).Nodup) : ((dropR rows k).map (·.1)).Nodup := (List.filter_sublist.map _).nodup h
theorem rows_get {H : Hp} : ∀ {es : List NEnt} {rows : List (V × V)}, Paired (RowE H) es rows → (rows.map (·.1)).Nodup → ∀ {i : Nat} {x : NEnt}, es[i]? = some x → atN es x.1 = some x.2.2 := by
  intro es rows h
  induction h with
  | nil => intro _ i x hx; simp at hx
  | @cons e r es rows h t ih =>
    intro nd i x hx
    obtain ⟨h1, h2, h3⟩ := h
    rw [List.map_cons, List.nodup_cons] at nd
    cases i with
    | zero =>
      simp at hx
      subst hx
      simp [atN, List.find?_cons]
    | succ j =>
      simp at hx
      obtain ⟨r', hr', k1, k2, k3⟩ := paired_get t hx
      have ne : ¬ e.1 = x.1 := fun z => by
        rw [h1, k1] at z
        have := kN_inj h2 k2 z
        exact nd.1 (by rw [this]; exact List.mem_map_of_mem (List.mem_of_getElem? hr'))
      have a : atN (e :: es) x.1 = atN es x.1 := by simp [atN, List.find?_cons, ne]
      rw [a]
      exact ih nd.2 hx
theorem rowAt_get : ∀ {rows : List (V × V)}, (rows.map (·.1)).Nodup → ∀ {i : Nat} {r : V × V}, rows[i]? = some r → rowAt rows r.1 = some r.2
  | [], _, i, r, h => by simp at h
  | q :: rows, nd, 0, r, h => by
    simp at h
    subst h
    simp [rowAt, List.find?_cons]
  | q :: rows, nd, i + 1, r, h => by
    simp at h
    rw [List.map_cons, List.nodup_cons] at nd
    have ne : ¬ q.1 = r.1 := fun z => nd.1 (by rw [z]; exact List.mem_map_of_mem (List.mem_of_getElem? h))
    have a : rowAt (q :: rows) r.1 = rowAt rows r.1 := by simp [rowAt, List.find?_cons, ne]
    rw [a]
    exact rowAt_get nd.2 h
theorem map_off {rows : List (V × V)} {k v : V} (h : k ∉ rows.map (·.1)) : (rows.map fun r => if r.1 = k then (k, v) else r) = rows := by
  induction rows with
  | nil => rfl
  | cons r rows ih =>
    rw [List.map_cons, List.mem_cons, not_or] at h
    rw [List.map_cons, if_neg (Ne.symm h.1), ih h.2]
theorem drop_off {rows : List (V × V)} {k : V} (h : k ∉ rows.map (·.1)) : dropR rows k = rows := by
  unfold dropR
  rw [List.filter_eq_self]
  intro r hr
  exact decide_eq_true fun e => h (by rw [← e]; exact List.mem_map_of_mem hr)
/-- where a key stands -/
theorem row_cases (k : V) : ∀ {rows : List (V × V)}, (rows.map (·.1)).Nodup → (∃ i r, rows[i]? = some r ∧ r.1 = k ∧ rows.findIdx? (fun r => decide (r.1 = k)) = some i ∧ (rowAt rows k).isSome = true ∧ dropR rows k = rows.eraseIdx i ∧ ∀ v, putR rows k v = rows.set i (k, v)) ∨
    (rows.findIdx? (fun r => decide (r.1 = k)) = none ∧ (rowAt rows k).isSome = false ∧ k ∉ rows.map (·.1) ∧ ∀ v, putR rows k v = rows ++ [(k, v)])
  | [], _ => .inr ⟨rfl, rfl, by simp, fun v => rfl⟩
  | r :: rows, nd => by
    rw [List.map_cons, List.nodup_cons] at nd
    by_cases e : r.1 = k
    · have hno : k ∉ rows.map (·.1) := by rw [← e]; exact nd.1
      have hs : (rowAt (r :: rows) k).isSome = true := by simp [rowAt, List.find?_cons, e]
      refine .inl ⟨0, r, rfl, e, by simp [List.findIdx?_cons, e], hs, ?_, fun v => ?_⟩
      · have : dropR (r :: rows) k = dropR rows k := by
          unfold dropR
          rw [List.filter_cons, if_neg (by simp [e])]
        rw [this, drop_off hno]
        rfl
      · unfold putR
        rw [if_pos hs, List.map_cons, if_pos e, map_off hno]
        rfl
    · have hs : (rowAt (r :: rows) k) = rowAt rows k := by simp [rowAt, List.find?_cons, e]
      rcases row_cases k nd.2 with ⟨i, r', h1, h2, h3, h4, h5, h6⟩ | ⟨h3, h4, hno, h6⟩
      · refine .inl ⟨i + 1, r', h1, h2, by simp [List.findIdx?_cons, e, h3], by rw [hs]; exact h4, ?_, fun v => ?_⟩
        · have : dropR (r :: rows) k = r :: dropR rows k := by
            unfold dropR
            rw [List.filter_cons, if_pos (by simp [e])]
          rw [this, h5]
          first | rfl | skip
        · have := h6 v
          unfold putR at this ⊢
          rw [if_pos h4] at this
          rw [hs, if_pos h4, List.map_cons, if_neg e, this]
          try rfl
      · refine .inr ⟨by simp [List.findIdx?_cons, e, h3], by rw [hs]; exact h4, by rw [List.map_cons, List.mem_cons, not_or]; exact ⟨Ne.symm e, hno⟩, fun v => ?_⟩
        unfold putR
        rw [hs, if_neg (by rw [h4]; decide)]
        try rfl
theorem paired_erase {α β : Type} {F : α → β → Prop} {xs : List α} {ys : List β} (h : Paired F xs ys) : ∀ i : Nat, Paired F (xs.eraseIdx i) (ys.eraseIdx i) := by
  induction h with
  | nil => intro i; exact .nil
  | cons r t ih =>
    intro i
    cases i with
    | zero => exact t
    | succ j => exact .cons r (ih j)
theorem paired_set {α β : Type} {F : α → β → Prop} {xs : List α} {ys : List β} {a : α} {b : β} (h : Paired F xs ys) (hab : F a b) : ∀ i : Nat, Paired F (xs.set i a) (ys.set i b) := by
  induction h with
  | nil => intro i; exact .nil
  | cons r t ih =>
    intro i
    cases i with
    | zero => exact .cons hab t
    | succ j => exact .cons r (ih j)
theorem putR_len (rows : List (V × V)) (k v : V) : (putR rows k v).length ≤ rows.length + 1 := by
  unfold putR
  split
  · rw [List.length_map]; omega
  · rw [List.length_append]; exact Nat.le_refl _
end

section
variable {P : Program} {w : World} {K : PySem.W.Frag} {mg : Str → Option Value} {base : Heap} {c : Cs}
def spMkTab (w : World) (c : Cs) : Sp := fun vs H Q _ => match vs with
  | [] => ∀ y d H1, H y = none → H d = none → Same H H1 → IsTab c H1 y d → TabR w H1 d [] → Q (.ref y) H1
  | _ => False
theorem ok_mktab (A : AtM K c.Table "__init__" "Table.__init__" s_Table___init__ ["self"]) (T : Txt K mg c) : HasC P w K mg base CX0 c.Table "Table" 1 ["self"] (spMkTab w c) := by
  have Sc := sc_Table___init__
  refine hasC_of T.mk_Table A Sc (fun vs H Q E h => ?_) (fun cdv f A outer s H vs Q E y dx H0 hr h hy hs h0 => ?_)
  · unfold spMkTab at h; split at h; rfl; cases h
  · unfold spMkTab at h
    split at h
    · refine ⟨_, (pss_one (fs_fld (fe_var 0) (pe_newN (w := w) rfl) T.pl__rows rfl)), ?_⟩
      walk_at "fx0"
      walk_at "ox"
      intro d H1 nd s1 e1
      have ny : d ≠ y := fun q => by rw [q, h0] at nd; cases nd
      have ey := s1 _ _ h0
      simp only [ey]
      walk_at "ox"
      first
        | exact h y d _ hy (hs.free nd) (mk_same (hs.trans s1) hy) ⟨dx, upd_same⟩ ⟨⟨[], ⟨.inl ((upd_ne ny).trans e1), fun _ z => by cases z⟩, (upd_ne ny).trans e1, .nil⟩, List.nodup_nil⟩
        | exact ⟨by decide, h y d _ hy (hs.free nd) (mk_same (hs.trans s1) hy) ⟨dx, upd_same⟩ ⟨⟨[], ⟨.inl ((upd_ne ny).trans e1), fun _ z => by cases z⟩, (upd_ne ny).trans e1, .nil⟩, List.nodup_nil⟩⟩
    · cases h
def spKeyOf : Sp := fun vs H Q _ => match vs with
  | [v] => scV v = true ∧ ∀ q H1, H q = none → Same H H1 → isKey H1 q (kxs v) → Q (.ref q) H1
  | _ => False

def spHas (w : World) (c : Cs) : Sp := fun vs H Q _ => match vs with
  | [.ref a, v] => ∃ d rows, IsTab c H a d ∧ TabR w H d rows ∧ scV v = true ∧ ∀ H1, Same H H1 → Q (.bl (rowAt rows v).isSome) H1
  | _ => False

def spValOf (w : World) (c : Cs) : Sp := fun vs H Q _ => match vs with
  | [.ref a, v] => ∃ d rows x, IsTab c H a d ∧ TabR w H d rows ∧ scV v = true ∧ rowAt rows v = some x ∧ ∀ H1, Same H H1 → Q x H1
  | _ => False

def spPut (w : World) (c : Cs) : Sp := fun vs H Q _ => match vs with
  | [.ref a, k, v] => ∃ d rows, IsTab c H a d ∧ TabR w H d rows ∧ scV k = true ∧ rows.length < 100000 ∧ ∀ H1, Keep [d] H H1 → TabR w H1 d (putR rows k v) → Q .non H1
  | _ => False
theorem DN.upd {H : Hp} {d : Addr} {es es' : List NEnt} (D : DN w H d es) (e0 : H d = some (nkO w d es)) (sub : ∀ e ∈ es', KeyT H e.1 e.2.1) : DN w (upd H d (nkO w d es')) d es' :=
  ⟨.inl upd_same, fun e he => (sub e he).mono fun b xs eb => by rw [upd_ne (ne_of eb e0 (Ne.symm nkO_ne_tup))]; exact eb⟩
theorem putN_mem {es : List NEnt} {k : NestedKey} {q : Addr} {v : V} {e : NEnt} (h : e ∈ putN es k q v) : (∃ e0 ∈ es, e.1 = e0.1 ∧ e.2.1 = e0.2.1) ∨ (e.1 = k ∧ e.2.1 = q) := by
  unfold putN at h
  split at h
  · obtain ⟨e0, he, rfl⟩ := List.mem_map.mp h
    refine .inl ⟨e0, he, ?_⟩
    split <;> exact ⟨rfl, rfl⟩
  · rcases List.mem_append.mp h with h | h
    · exact .inl ⟨e, h, rfl, rfl⟩
    · rw [List.mem_singleton.mp h]; exact .inr ⟨rfl, rfl⟩

def spTake (w : World) (c : Cs) : Sp := fun vs H Q _ => match vs with
  | [.ref a, k] => ∃ d rows, IsTab c H a d ∧ TabR w H d rows ∧ scV k = true ∧ (rowAt rows k).isSome = true ∧ ∀ H1, Keep [d] H H1 → TabR w H1 d (dropR rows k) → Q .non H1
  | _ => False

def spMany (w : World) (c : Cs) : Sp := fun vs H Q _ => match vs with
  | [.ref a] => ∃ d rows, IsTab c H a d ∧ TabR w H d rows ∧ Q (.int rows.length) H
  | _ => False
theorem ok_many (A : AtP K c.Table "many" "Table.many" s_Table_many ["self"]) (T : Txt K mg c) : HasP P w K mg base CX0 c.Table "many" 1 ["self"] (spMany w c) := by
  have Sc := sc_Table_many
  refine hasP_of A Sc (fun vs H Q E h => ?_) (fun cdv f A outer s H vs Q E hr h => ?_)
  · unfold spMany at h; split at h; rfl; cases h
  · unfold spMany at h
    split at h
    · rename_i a
      obtain ⟨d, rows, ⟨dx, ea⟩, ⟨⟨es, D, e0, r⟩, nd⟩, h⟩ := h
      refine ⟨_, (pss_one (ps_ret (pe_callB (call_fLenN (w := w) rfl) (by rfl) T.no_len (by decide +kernel) (pa_cons (fe_fld (fe_var 0) T.pl__rows rfl) pa_nil)))), ?_⟩
      walk_at "fx0"
      walk_at "ox"
      simp only [ea]
      walk_at "ox"
      refine ⟨es, D, ?_⟩
      rw [show es.length = rows.length from Paired.length r]
      exact h
    · cases h
/-- the entries as tuples -/
def RowsT (H : Hp) (ts : List Addr) (rows : List (V × V)) : Prop := Paired (fun t r => H t = some (.tup [r.1, r.2])) ts rows
def spPairs (w : World) (c : Cs) : Sp := fun vs H Q _ => match vs with
  | [.ref a] => ∃ d rows, IsTab c H a d ∧ TabR w H d rows ∧ rows.length ≤ 100000 ∧ ∀ p ts H1, H p = none → Same H H1 → H1 p = some (.lst (ts.map V.ref)) → RowsT H1 ts rows → Q (.ref p) H1
  | _ => False
theorem paired_take {α β : Type} {F : α → β → Prop} {xs : List α} {ys : List β} (h : Paired F xs ys) {i : Nat} {x : α} (e : xs[i]? = some x) : ∃ y, ys[i]? = some y ∧ F x y := paired_get h e
theorem ok_pairs (A : AtM K c.Table "pairs" "Table.pairs" s_Table_pairs ["self"]) (T : Txt K mg c) : HasM P w K mg base CX0 c.Table "pairs" 1 ["self"] (spPairs w c) := by
  have Sc := sc_Table_pairs
  refine hasM_of A Sc (fun vs H Q E h => ?_) (fun cdv f A outer s H vs Q E hr h => ?_)
  · unfold spPairs at h; split at h; rfl; cases h
  · unfold spPairs at h
    split at h
    · rename_i a
      obtain ⟨d, rows, ⟨dx, ea⟩, ⟨⟨es, D, e0, r⟩, nd⟩, hl, h⟩ := h
      refine ⟨_, (pss_one (ps_ret (pe_lock (pe_lc (own := [("at", 1)]) (by rfl) Sc.nd (pi_keysN (w := w) rfl (fe_fld (fe_var 0) T.pl__rows rfl)) (blkOk_by (own := [("at", 1)]) (N := ["self", "at"]) (sc := defScope s_Table_pairs) (by decide +kernel)) (fun _ _ _ _ _ => (pg_name (i := 1) Sc.nd rfl (.inl rfl))) (fun _ _ _ _ _ => pts_nil) (fun _ _ _ _ _ => (pe_getN (w := w) rfl hr.units (fe_fld (fe_var 0) T.pl__rows rfl) (fe_var 1) (fun _ _ => rfl))))))), ?_⟩
      walk_at "fx0"
      refine ⟨d, _, e0, trivial, fun od => ?_⟩
      have nad : a ≠ d := fun q => by
        rw [q, e0] at ea
        have z' : HO.ext _ = HO.ins _ _ _ := Option.some.inj ea
        cases z'
      have ea1 : upd H d (.frz od (nkO w d es)) a = some (.ins c.Table dx [("_rows", .ref d)]) := (upd_ne nad).trans ea
      refine lc_ ?_
      repeat (first | walk_at "oxs" | simp only [ea1])
      refine ⟨od, es, rfl, fun D0 nD => ?_⟩
      have nDd : D0 ≠ d := fun q => by rw [q, upd_same] at nD; cases nD
      have nDH : H D0 = none := by rw [upd_ne nDd] at nD; exact nD
      have hle : es.length = rows.length := Paired.length r
      refine lcx_keysN (fun i H1 => H1 d = some (.frz od (nkO w d es)) ∧ (∀ b o, b ≠ d → H b = some o → H1 b = some o) ∧ ∃ ts : List Addr, H1 D0 = some (.lst (ts.map V.ref)) ∧ RowsT H ts (rows.take i)) ⟨?_, ?_, [], upd_same, .nil⟩ ?_ ?_ ?_
      · rw [upd_ne (Ne.symm nDd)]; exact upd_same
      · intro b o nb eb
        rw [upd_ne (ne_of_none eb nDH), upd_ne nb]
        exact eb
      · rintro i H1 _ ⟨h1, _⟩
        exact h1
      · rintro i x H1 hx ⟨h1, h2, ts, h3, h4⟩
        obtain ⟨row, hr1, k1, k2, tp, k3, k4⟩ := paired_get r hx
        obtain ⟨kxs', g1, g2, g3⟩ := D.ks x (List.mem_of_getElem? hx)
        have nx : x.2.1 ≠ d := fun q => by rw [q, e0] at g1; exact nkO_ne_tup (Option.some.inj g1)
        have ea2 := h2 _ _ nad ea
        repeat (first | walk_at "oxs" | simp only [ea2])
        refine ⟨es, ⟨.inr ⟨od, h1⟩, fun e he => ?_⟩, kxs', ⟨h2 _ _ nx g1, g2⟩, x.2.2, ?_, ?_⟩
        · obtain ⟨ys, y1, y2, y3⟩ := D.ks e he
          exact ⟨ys, h2 _ _ (fun q => by rw [q, e0] at y1; exact nkO_ne_tup (Option.some.inj y1)) y1, y2, y3⟩
        · rw [← g3]
          exact rows_get r nd hx
        · rw [k3]
          refine ⟨_, h3, len_line' ?_, ?_, ?_, ts ++ [tp], ?_, ?_⟩
          · have := Paired.length h4
            have hi := (List.getElem?_eq_some_iff.mp hx).1
            rw [List.length_take] at this
            rw [List.length_map]
            omega
          · rw [upd_ne (Ne.symm nDd)]; exact h1
          · intro b o nb eb
            rw [upd_ne (ne_of_none eb nDH)]
            exact h2 b o nb eb
          · rw [List.map_append]; rfl
          · have et : rows.take (i + 1) = rows.take i ++ [row] := by rw [List.take_add_one, hr1]; rfl
            rw [et]
            exact Paired.snoc h4 k4
      · rintro H1 ⟨h1, h2, ts, h3, h4⟩
        refine ⟨h1, ?_⟩
        have et : rows.take es.length = rows := by rw [hle]; exact List.take_length
        rw [et] at h4
        have sm : Same H (upd H1 d (nkO w d es)) := fun b o eb => by
          by_cases q : b = d
          · rw [q, upd_same, ← e0, ← q]; exact eb
          · rw [upd_ne q]; exact h2 b o q eb
        exact h D0 ts _ nDH sm (by rw [upd_ne nDd]; exact h3) (Paired.mapP h4 fun _ _ z => sm _ _ z)
    · cases h
end

section
variable {P : Program} {w : World} {K : PySem.W.Frag} {mg : Str → Option Value} {base : Heap} {c : Cs}
/-! ### the store as a model -/
theorem take_get {α : Type} {xs : List α} {i : Nat} {x : α} (h : xs[i]? = some x) : xs.take (i + 1) = xs.take i ++ [x] := by rw [List.take_succ, h]; rfl
/-- a value of the language: null, a boolean, an integer, a text, a built-in function, an object's number -/
inductive RV where
  | nul
  | boo (b : Bool)
  | num (n : Int)
  | txt (z : Str)
  | bt (z : Str)
  | ob (n : Nat)
  deriving DecidableEq
inductive Th where
  | parts (xs : List RV)
  | table (rows : List (RV × RV))
  | inst (owner : Nat) (fs : List (Str × RV))
  | kin (name : Str) (parent : Option Nat) (ms : List (Str × Nat))
  | clo (number wanted : Int) (scope : List Nat)
  | bound (owner fn : Nat)
  | var (v : RV)
  | cur (xs : List RV)
def IsRef (c : Cs) (H : Hp) (a : Addr) (n : Int) : Prop := ∃ dx, H a = some (.ins c.Ref dx [("number", .int n)])
def IsRefV (c : Cs) (H : Hp) (v : V) (n : Nat) : Prop := ∃ a, v = .ref a ∧ IsRef c H a (n : Nat)

def IsBt (c : Cs) (H : Hp) (a : Addr) (n : Str) : Prop := False
def IsVal (c : Cs) (H : Hp) (v : V) : RV → Prop
  | .nul => v = .non
  | .boo b => v = .bl b
  | .num n => v = .int n
  | .txt z => v = .str z
  | .bt n => ∃ a, v = .ref a ∧ IsBt c H a n
  | .ob n => IsRefV c H v n
/-- what never changes: tuples, references, built-in functions -/
def Hard (c : Cs) (o : HO) : Prop := (∃ xs, o = .tup xs) ∨ (∃ dx fs, o = .ins c.Ref dx fs)

def Soft (c : Cs) (H : Hp) (p : Addr) : Prop := ∀ o, H p = some o → ¬ Hard c o
theorem Hard.t (xs : List V) : Hard c (.tup xs) := .inl ⟨xs, rfl⟩
theorem Hard.r {dx : Addr} {fs : List (Str × V)} : Hard c (.ins c.Ref dx fs) := .inr ⟨dx, fs, rfl⟩

/-- the hard things stay -/
def HardStay (c : Cs) (H H' : Hp) : Prop := ∀ a o, H a = some o → Hard c o → H' a = some o
theorem HardStay.same {H H' : Hp} (s : Same H H') : HardStay c H H' := fun a o e _ => s a o e
theorem HardStay.keep {H H' : Hp} {ps : List Addr} (k : Keep ps H H') (s : ∀ p ∈ ps, Soft c H p) : HardStay c H H' := fun a o e hd => k a o (fun m => s a m o e hd) e
theorem HardStay.trans {H H1 H2 : Hp} (h : HardStay c H H1) (g : HardStay c H1 H2) : HardStay c H H2 := fun a o e hd => g a o (h a o e hd) hd
theorem IsRef.hs {H H' : Hp} {a : Addr} {n : Int} (h : IsRef c H a n) (s : HardStay c H H') : IsRef c H' a n := h.imp fun _ e => s _ _ e Hard.r
theorem IsRef.same {H H' : Hp} {a : Addr} {n : Int} (h : IsRef c H a n) (s : Same H H') : IsRef c H' a n := h.imp fun _ e => s _ _ e
theorem IsRefV.hs {H H' : Hp} {v : V} {n : Nat} (h : IsRefV c H v n) (s : HardStay c H H') : IsRefV c H' v n := h.imp fun _ ⟨e, r⟩ => ⟨e, r.hs s⟩
theorem IsVal.hs {H H' : Hp} {v : V} {r : RV} (h : IsVal c H v r) (s : HardStay c H H') : IsVal c H' v r := by
  cases r <;> first
    | exact h
    | exact IsRefV.hs h s

    | (obtain ⟨a, e, h⟩ := h; exact h.elim)
theorem IsVal.same {H H' : Hp} {v : V} {r : RV} (h : IsVal c H v r) (s : Same H H') : IsVal c H' v r := h.hs (.same s)
abbrev VsAt (c : Cs) (H : Hp) : List V → List RV → Prop := Paired (IsVal c H)
theorem VsAt.hs {H H' : Hp} {xs : List V} {rs : List RV} (h : VsAt c H xs rs) (s : HardStay c H H') : VsAt c H' xs rs := Paired.mapP h fun _ _ z => z.hs s
abbrev RefsAt (c : Cs) (H : Hp) : List V → List Nat → Prop := Paired (IsRefV c H)
/-- an object of the store at a, its content at b -/
def ThAt (w : World) (c : Cs) (H : Hp) (a : Addr) (b : Option Addr) : Th → Prop
  | .parts rs => ∃ dx l xs, b = some l ∧ H a = some (.ins c.Parts dx [("held", .ref l)]) ∧ H l = some (.lst xs) ∧ VsAt c H xs rs
  | .table rows => ∃ d rws, b = some d ∧ IsTab c H a d ∧ TabR w H d rws ∧ Paired (fun x r => IsVal c H x.1 r.1 ∧ IsVal c H x.2 r.2) rws rows
  | .inst o fs => ∃ dx ra nd kvs, b = some nd ∧ H a = some (.ins c.Instance dx [("owner", .ref ra), ("named", .ref nd)]) ∧ IsRef c H ra (o : Nat) ∧ H nd = some (.dK kvs) ∧ Paired (fun (kv : Key × V) (f : Str × RV) => kv.1 = .inr f.1 ∧ IsVal c H kv.2 f.2) kvs fs
  | .kin n p ms => ∃ dx pv md kvs, b = some md ∧ H a = some (.ins c.Kin dx [("name", .str n), ("parent", pv), ("methods", .ref md)]) ∧ (match p with | none => pv = .non | some k => IsRefV c H pv k) ∧ H md = some (.dK kvs) ∧ Paired (fun (kv : Key × V) (f : Str × Nat) => kv.1 = .inr f.1 ∧ IsRefV c H kv.2 f.2) kvs ms
  | .clo n k sc => ∃ dx t xs, b = none ∧ H a = some (.ins c.Closure dx [("number", .int n), ("wanted", .int k), ("scope", .ref t)]) ∧ H t = some (.tup xs) ∧ RefsAt c H xs sc

  | .var v => ∃ dx x, b = none ∧ H a = some (.ins c.Variable dx [("value", x)]) ∧ IsVal c H x v
  | .cur rs => ∃ dx l xs, b = some l ∧ H a = some (.ins c.Cursor dx [("rest", .ref l)]) ∧ H l = some (.lst xs) ∧ VsAt c H xs rs

  | .bound _ _ => False

def footT (a : Addr) (b : Option Addr) : List Addr := a :: b.toList
theorem TabR.soft {H : Hp} {d : Addr} {rows : List (V × V)} (h : TabR w H d rows) : Soft c H d := by
  obtain ⟨⟨es, D, e0, r⟩, _⟩ := h
  intro o e hd
  rw [e0] at e
  cases e
  have tw : ∀ {C dx : Addr} {fs : List (Str × V)}, nkO w d es = HO.ins C dx fs → False := fun z => by
    have z' : HO.ext _ = HO.ins _ _ _ := z
    cases z'
  rcases hd with ⟨_, z⟩ | hd
  · exact nkO_ne_tup z
  · first
      | exact hd.elim (fun ⟨_, _, z⟩ => tw z) fun ⟨_, _, z⟩ => tw z
      | exact (fun ⟨_, _, z⟩ => tw z) hd
theorem putR_new {rows : List (V × V)} {k v : V} (h : k ∉ rows.map (·.1)) : putR rows k v = rows ++ [(k, v)] := by
  unfold putR
  rw [if_neg (by rw [rowAt_mem]; exact h)]
theorem ThAt.mono {H H' : Hp} {a : Addr} {b : Option Addr} {t : Th} (h : ThAt w c H a b t) (s : HardStay c H H') (ka : ∀ o, H a = some o → H' a = some o) (kb : ∀ q o, b = some q → H q = some o → H' q = some o) : ThAt w c H' a b t := by
  cases t with
  | parts rs => obtain ⟨dx, l, xs, rfl, e1, e2, e3⟩ := h; exact ⟨dx, l, xs, rfl, ka _ e1, kb _ _ rfl e2, e3.hs s⟩
  | table rows => obtain ⟨d, rws, rfl, ⟨dx, e1⟩, e2, e3⟩ := h; exact ⟨d, rws, rfl, ⟨dx, ka _ e1⟩, e2.mono (fun o e => kb _ _ rfl e) (fun q xs e => s _ _ e (Hard.t xs)), Paired.mapP e3 fun _ _ z => ⟨z.1.hs s, z.2.hs s⟩⟩
  | inst o fs => obtain ⟨dx, ra, nd, kvs, rfl, e1, e2, e3, e4⟩ := h; exact ⟨dx, ra, nd, kvs, rfl, ka _ e1, e2.hs s, kb _ _ rfl e3, Paired.mapP e4 fun _ _ z => ⟨z.1, z.2.hs s⟩⟩
  | kin n p ms => obtain ⟨dx, pv, md, kvs, rfl, e1, e2, e3, e4⟩ := h; exact ⟨dx, pv, md, kvs, rfl, ka _ e1, (by cases p with | none => exact e2 | some k => exact IsRefV.hs e2 s), kb _ _ rfl e3, Paired.mapP e4 fun _ _ z => ⟨z.1, z.2.hs s⟩⟩
  | clo n k sc => obtain ⟨dx, t, xs, rfl, e1, e2, e3⟩ := h; exact ⟨dx, t, xs, rfl, ka _ e1, s _ _ e2 (Hard.t xs), Paired.mapP e3 fun _ _ z => z.hs s⟩

  | var v => obtain ⟨dx, x, rfl, e1, e2⟩ := h; exact ⟨dx, x, rfl, ka _ e1, e2.hs s⟩
  | cur rs => obtain ⟨dx, l, xs, rfl, e1, e2, e3⟩ := h; exact ⟨dx, l, xs, rfl, ka _ e1, kb _ _ rfl e2, e3.hs s⟩

  | bound _ _ => exact h.elim

theorem ThAt.same {H H' : Hp} {a : Addr} {b : Option Addr} {t : Th} (h : ThAt w c H a b t) (s : Same H H') : ThAt w c H' a b t := h.mono (.same s) (fun _ e => s _ _ e) fun _ _ _ e => s _ _ e
theorem ThAt.keep {H H' : Hp} {a : Addr} {b : Option Addr} {t : Th} {ps : List Addr} (h : ThAt w c H a b t) (k : Keep ps H H') (s : ∀ p ∈ ps, Soft c H p) (n : ∀ q ∈ footT a b, q ∉ ps) : ThAt w c H' a b t :=
  h.mono (.keep k s) (fun _ e => k _ _ (n _ (by simp [footT])) e) fun q _ hb e => k _ _ (n _ (by simp [footT, hb])) e
/-- the addresses of a store's objects; the store as a model -/
structure SA where
  (y tl ol ll : Addr)
  L : List (Addr × Option Addr)
def footL (L : List (Addr × Option Addr)) : List Addr := L.flatMap fun p => footT p.1 p.2
def SA.foot (x : SA) : List Addr := x.y :: x.tl :: x.ol :: x.ll :: footL x.L
structure SV where
  things : List Th
  out : List Str
  lines : List Str
  taken : Nat
def StR (c : Cs) (H : Hp) (y tl ol ll : Addr) (tk : V) : Prop := ∃ dx, H y = some (.ins c.Store dx [("things", .ref tl), ("output", .ref ol), ("lines", .ref ll), ("taken", tk)])
theorem StR.same {H H' : Hp} {y tl ol ll : Addr} {tk : V} (h : StR c H y tl ol ll tk) (s : Same H H') : StR c H' y tl ol ll tk := h.imp fun _ e => s _ _ e
structure Sto (w : World) (c : Cs) (H : Hp) (x : SA) (S : SV) : Prop where
  st : StR c H x.y x.tl x.ol x.ll (.int (S.taken : Nat))
  et : H x.tl = some (.lst (x.L.map fun p => V.ref p.1))
  eo : H x.ol = some (.lst (S.out.map V.str))
  el : H x.ll = some (.lst (S.lines.map V.str))
  th : Paired (fun p t => ThAt w c H p.1 p.2 t) x.L S.things
  nd : x.foot.Nodup
theorem Sto.same {H H' : Hp} {x : SA} {S : SV} (h : Sto w c H x S) (s : Same H H') : Sto w c H' x S := ⟨h.st.same s, s _ _ h.et, s _ _ h.eo, s _ _ h.el, Paired.mapP h.th fun _ _ z => z.same s, h.nd⟩
theorem paired_mem {α β : Type} {F : α → β → Prop} {xs : List α} {ys : List β} (h : Paired F xs ys) : Paired (fun a b => a ∈ xs ∧ F a b) xs ys := by
  induction h with
  | nil => exact .nil
  | cons r t ih => exact .cons ⟨List.mem_cons_self .., r⟩ (Paired.mapP ih fun _ _ z => ⟨List.mem_cons_of_mem _ z.1, z.2⟩)
theorem mem_footL {L : List (Addr × Option Addr)} {p : Addr × Option Addr} {q : Addr} (h : p ∈ L) (hq : q ∈ footT p.1 p.2) : q ∈ footL L := List.mem_flatMap.mpr ⟨p, h, hq⟩
/-- behind a change elsewhere -/
theorem Sto.keep {H H' : Hp} {x : SA} {S : SV} {ps : List Addr} (h : Sto w c H x S) (k : Keep ps H H') (s : ∀ p ∈ ps, Soft c H p) (n : ∀ q ∈ x.foot, q ∉ ps) : Sto w c H' x S := by
  have m1 : x.y ∈ x.foot := by simp [SA.foot]
  have m2 : x.tl ∈ x.foot := by simp [SA.foot]
  have m3 : x.ol ∈ x.foot := by simp [SA.foot]
  have m4 : x.ll ∈ x.foot := by simp [SA.foot]
  obtain ⟨dx, e⟩ := h.st
  exact ⟨⟨dx, k _ _ (n _ m1) e⟩, k _ _ (n _ m2) h.et, k _ _ (n _ m3) h.eo, k _ _ (n _ m4) h.el,
    Paired.mapP (paired_mem h.th) fun p t z => z.2.keep k s fun q hq => n q (by simp only [SA.foot, List.mem_cons]; exact .inr (.inr (.inr (.inr (mem_footL z.1 hq))))), h.nd⟩
theorem Sto.at {H : Hp} {x : SA} {S : SV} (h : Sto w c H x S) {n : Nat} {t : Th} (e : S.things[n]? = some t) : ∃ a b, x.L[n]? = some (a, b) ∧ ThAt w c H a b t := by
  have hl : x.L.length = S.things.length := Paired.length h.th
  obtain ⟨hi, _⟩ := List.getElem?_eq_some_iff.mp e
  have e1 : x.L[n]? = some x.L[n] := List.getElem?_eq_getElem (by omega)
  obtain ⟨t', h1, h2⟩ := paired_get h.th e1
  rw [e] at h1
  cases h1
  exact ⟨x.L[n].1, x.L[n].2, e1, h2⟩
/-! ### Store(..), its methods -/
def st0 (lines : List Str) : SV := ⟨[.kin "Error" none []], [], lines, 0⟩
def spStore (w : World) (K : PySem.W.Frag) (c : Cs) : Sp := fun vs H Q _ => match vs with
  | [.ref l] => ∃ zs : List Str, Rl K H l (zs.map V.str) ∧ ∀ x H1, Sto w c H1 x (st0 zs) → Same H H1 → (∀ q ∈ x.foot, H q = none) → Q (.ref x.y) H1
  | _ => False
theorem ok_store (A : AtM K c.Store "__init__" "Store.__init__" s_Store___init__ ["self", "lines"]) (T : Txt K mg c) (M_Kin : HasC P w K mg base CX0 c.Kin "Kin" 1 ["self", "name", "parent"] (spMk_Kin K c)) : HasC P w K mg base CX0 c.Store "Store" 3 ["self", "lines"] (spStore w K c) := by
  have Sc := sc_Store___init__
  refine hasC_of T.mk_Store A Sc (fun vs H Q E h => ?_) (fun cdv f A outer s H vs Q E y dx H0 hr h hy hs h0 => ?_)
  · unfold spStore at h; split at h; rfl; cases h
  · unfold spStore at h
    split at h
    · rename_i l
      obtain ⟨zs, r, h⟩ := h
      refine ⟨_, (pss_cons (fs_fld (fe_var 0) (fe_lst (pa_cons (fe_make (k := _) M_Kin (hr.mono (by walk_at "rm")) (by rfl) pass0 (pa_cons (fe_gstr (by rfl) T.g_ERROR) (pa_cons pe_non pa_nil))) pa_nil)) T.pl_things rfl)
      (pss_cons (fs_fld (fe_var 0) (fe_lst pa_nil) T.pl_output rfl)
      (pss_cons (fs_fld (fe_var 0) (pe_callTy call_fListOf (by rfl) T.no_list (by decide +kernel) (pa_cons (fe_var 1) pa_nil)) T.pl_lines rfl)
      (pss_one (fs_fld (fe_var 0) pe_int T.pl_taken rfl))))), ?_⟩
      walk_at "fx0"
      walk_at "ox"
      unfold spMk_Kin
      intro k kdx md H1 nk s1 e1 nmd emd hne
      walk_at "ox"
      intro tl H2 ntl s2 etl
      have ey2 := s2 _ _ (s1 _ _ h0)
      simp only [ey2]
      walk_at "ox"
      have ny2 : tl ≠ y := fun q => by rw [q, s1 _ _ h0] at ntl; cases ntl
      have nky : k ≠ y := fun q => by rw [q, h0] at nk; cases nk
      have nmy : md ≠ y := fun q => by rw [q, h0] at nmd; cases nmd
      intro ol H3 nol s3 eol
      have noy : ol ≠ y := fun q => by rw [q, upd_same] at nol; cases nol
      have not_ : tl ≠ ol := fun q => by rw [← q, upd_ne ny2, etl] at nol; cases nol
      have nolH : H2 ol = none := by rw [upd_ne noy] at nol; exact nol
      have ey3 := s3 _ _ upd_same
      simp only [ey3]
      walk_at "ox"
      refine ⟨_, rl_keep (mk_same ((mk_same ((hs.trans s1).trans s2) hy).trans s3) hy) r, ?_⟩
      intro ll H4 nll s4 ell
      have nly : ll ≠ y := fun q => by rw [q, upd_same] at nll; cases nll
      have nllH : H3 ll = none := by rw [upd_ne nly] at nll; exact nll
      have nlt : tl ≠ ll := fun q => by rw [← q, s3 _ _ ((upd_ne ny2).trans etl)] at nllH; cases nllH
      have nlo : ol ≠ ll := fun q => by rw [← q, eol] at nllH; cases nllH
      have ey4 := s4 _ _ upd_same
      simp only [ey4]
      walk_at "ox"
      have S2 : Same H H2 := (hs.trans s1).trans s2
      have S3 : Same H H3 := (mk_same S2 hy).trans s3
      have S4 : Same H H4 := (mk_same S3 hy).trans s4
      have up : ∀ {q : Addr} {o : HO}, q ≠ y → H2 q = some o → upd H4 y (.ins c.Store dx [("things", .ref tl), ("output", .ref ol), ("lines", .ref ll), ("taken", .int 0)]) q = some o := fun nq e =>
        (upd_ne nq).trans (s4 _ _ ((upd_ne nq).trans (s3 _ _ ((upd_ne nq).trans e))))
      have ek2 := s2 _ _ e1
      have em2 := s2 _ _ emd
      have nkt : k ≠ tl := fun q => by rw [q, etl] at ek2; cases ek2
      have nmt : md ≠ tl := fun q => by rw [q, etl] at em2; cases em2
      have nko : k ≠ ol := fun q => by rw [← q, ek2] at nolH; cases nolH
      have nmo : md ≠ ol := fun q => by rw [← q, em2] at nolH; cases nolH
      have nkl : k ≠ ll := fun q => by rw [← q, s3 _ _ ((upd_ne nky).trans ek2)] at nllH; cases nllH
      have nml : md ≠ ll := fun q => by rw [← q, s3 _ _ ((upd_ne nmy).trans em2)] at nllH; cases nllH
      refine h ⟨y, tl, ol, ll, [(k, some md)]⟩ _ ⟨⟨dx, upd_same⟩, up ny2 etl, (upd_ne noy).trans (s4 _ _ ((upd_ne noy).trans eol)), (upd_ne nly).trans ell, .cons ⟨kdx, .non, md, [], rfl, up nky ek2, rfl, up nmy em2, .nil⟩ .nil, ?_⟩ (mk_same S4 hy) ?_
      · simp only [SA.foot, footL, footT, List.flatMap_cons, List.flatMap_nil, Option.toList_some, List.cons_append, List.nil_append, List.append_nil, List.nodup_cons, List.mem_cons, List.not_mem_nil, or_false, not_or, List.nodup_nil, and_true, not_false_eq_true]
        exact ⟨⟨Ne.symm ny2, Ne.symm noy, Ne.symm nly, Ne.symm nky, Ne.symm nmy⟩, ⟨not_, nlt, Ne.symm nkt, Ne.symm nmt⟩, ⟨nlo, Ne.symm nko, Ne.symm nmo⟩, ⟨Ne.symm nkl, Ne.symm nml⟩, Ne.symm hne⟩
      · intro q hq
        simp only [SA.foot, footL, footT, List.flatMap_cons, List.flatMap_nil, Option.toList_some, List.cons_append, List.nil_append, List.append_nil, List.mem_cons, List.not_mem_nil, or_false] at hq
        rcases hq with rfl | rfl | rfl | rfl | rfl | rfl
        · exact hy
        · exact (hs.trans s1).free ntl
        · exact S2.free nolH
        · exact S3.free nllH
        · exact hs.free nk
        · exact hs.free nmd
    · cases h
end

section
variable {P : Program} {w : World} {K : PySem.W.Frag} {mg : Str → Option Value} {base : Heap} {c : Cs}
/-! ### objects of a store, by their classes -/
def clsT (c : Cs) : Th → Addr
  | .parts _ => c.Parts
  | .table _ => c.Table
  | .inst _ _ => c.Instance
  | .kin _ _ _ => c.Kin
  | .clo _ _ _ => c.Closure

  | .var _ => c.Variable
  | .cur _ => c.Cursor
  | .bound _ _ => c.Store

theorem ThAt.ins {H : Hp} {a : Addr} {b : Option Addr} {t : Th} (h : ThAt w c H a b t) : ∃ dx fs, H a = some (.ins (clsT c t) dx fs) := by
  cases t <;> first
    | (obtain ⟨dx, l, xs, _, e, _⟩ := h; exact ⟨_, _, e⟩)
    | (obtain ⟨d, rws, _, ⟨dx, e⟩, _⟩ := h; exact ⟨_, _, e⟩)
    | (obtain ⟨dx, ra, nd, kvs, _, e, _⟩ := h; exact ⟨_, _, e⟩)
    | (obtain ⟨dx, e⟩ := h; exact ⟨_, _, e⟩)
    | (obtain ⟨dx, x, _, e, _⟩ := h; exact ⟨_, _, e⟩)
    | exact h.elim
def tyR (c : Cs) (S : SV) : RV → Value
  | .ob n => match S.things[n]? with
    | some t => .ref (clsT c t)
    | none => .type "NoneType"
  | _ => .type "NoneType"
def WfR (S : SV) (r : RV) : Prop := ∀ n, r = .ob n → n < S.things.length
theorem WfR.num {S : SV} {n : Int} : WfR S (.num n) := fun _ h => by cases h
def kindT : Th → Str
  | .parts _ => "list"
  | .table _ => "map"
  | .inst _ _ => "instance"
  | .kin _ _ _ => "class"
  | _ => "function"
def kindR (S : SV) : RV → Str
  | .nul => "null"
  | .boo _ => "boolean"
  | .num _ => "integer"
  | .txt _ => "text"
  | .bt _ => "function"
  | .ob n => match S.things[n]? with
    | some t => kindT t
    | none => "function"
def SA.add (x : SA) (a : Addr) (b : Option Addr) : SA := { x with L := x.L ++ [(a, b)] }
def SV.add (S : SV) (t : Th) : SV := { S with things := S.things ++ [t] }
theorem foot_add {x : SA} {a : Addr} {b : Option Addr} : (x.add a b).foot = x.foot ++ footT a b := by
  simp [SA.foot, SA.add, footL]
/-- a new object of the store -/
def NewTh (w : World) (c : Cs) (H : Hp) (x : SA) (S : SV) (t : Th) (Q : VK) : Prop := ∀ r a b H1, H r = none → (∀ q ∈ footT a b, H q = none) → Keep [x.tl] H H1 → Sto w c H1 (x.add a b) (S.add t) → IsRef c H1 r (S.things.length : Nat) → Q (.ref r) H1
theorem soft_lst {H : Hp} {p : Addr} {xs : List V} (e : H p = some (.lst xs)) : Soft c H p := fun o h hd => by
  rw [e] at h
  cases h
  rcases hd with ⟨_, h⟩ | hd
  · cases h

  · obtain ⟨_, _, h⟩ := hd; cases h
theorem soft_dk {H : Hp} {p : Addr} {xs : List (Key × V)} (e : H p = some (.dK xs)) : Soft c H p := fun o h hd => by
  rw [e] at h
  cases h
  rcases hd with ⟨_, h⟩ | hd
  · cases h

  · obtain ⟨_, _, h⟩ := hd; cases h
theorem Sto.soft_tl {H : Hp} {x : SA} {S : SV} (h : Sto w c H x S) : ∀ p ∈ [x.tl], Soft c H p := fun p m => by
  rw [List.mem_singleton.mp m]; exact soft_lst h.et
theorem mem_add {x : SA} {p : Addr × Option Addr} {q : Addr} (hp : p ∈ x.L) (hq : q ∈ footT p.1 p.2) : q ∈ x.foot := by
  simp only [SA.foot, List.mem_cons]; exact .inr (.inr (.inr (.inr (mem_footL hp hq))))
/-- an object that stands already is put into the store's list -/
theorem Sto.push {H H1 : Hp} {x : SA} {S : SV} {a : Addr} {b : Option Addr} {t : Th} (h : Sto w c H x S) (k : Keep [x.tl] H H1) (e : H1 x.tl = some (.lst ((x.L.map fun p => V.ref p.1) ++ [.ref a]))) (ht : ThAt w c H a b t) (hn : (footT a b).Nodup) (hd : ∀ q ∈ footT a b, q ∉ x.foot) : Sto w c H1 (x.add a b) (S.add t) := by
  have nd := h.nd
  have m2 : x.tl ∈ x.foot := by simp [SA.foot]
  simp only [SA.foot, List.nodup_cons, List.mem_cons, not_or] at nd
  obtain ⟨⟨n1, n2, n3, n4⟩, ⟨n5, n6, n7⟩, ⟨n8, n9⟩, n10, n11⟩ := nd
  obtain ⟨dx, ey⟩ := h.st
  refine ⟨⟨dx, k _ _ (by show x.y ∉ [x.tl]; simpa using n1) ey⟩, by rw [show (x.add a b).tl = x.tl from rfl, e]; simp [SA.add], k _ _ (by show x.ol ∉ [x.tl]; simpa using Ne.symm n5) h.eo, k _ _ (by show x.ll ∉ [x.tl]; simpa using Ne.symm n6) h.el, ?_, ?_⟩
  · refine Paired.snoc (Paired.mapP (paired_mem h.th) fun p t' z => z.2.keep k h.soft_tl fun q hq hm => ?_) (ht.keep k h.soft_tl fun q hq hm => ?_)
    · rw [List.mem_singleton.mp hm] at hq
      exact n7 (mem_footL z.1 hq)
    · rw [List.mem_singleton.mp hm] at hq
      exact hd _ hq m2
  · rw [foot_add, List.nodup_append]
    exact ⟨h.nd, hn, fun p hp q hq e => hd q hq (by rw [← e]; exact hp)⟩
def spMake (w : World) (c : Cs) : Sp := fun vs H Q _ => match vs with
  | [.ref y, .ref a] => ∃ x S b t, y = x.y ∧ Sto w c H x S ∧ ThAt w c H a b t ∧ (footT a b).Nodup ∧ (∀ q ∈ footT a b, q ∉ x.foot) ∧ S.things.length < 99999 ∧
    ∀ r H1, H r = none → Keep [x.tl] H H1 → Sto w c H1 (x.add a b) (S.add t) → IsRef c H1 r (S.things.length : Nat) → Q (.ref r) H1
  | _ => False
theorem ok_make (A : AtM K c.Store "make" "Store.make" s_Store_make ["self", "thing"]) (T : Txt K mg c) (M_Ref : HasC P w K mg base CX0 c.Ref "Ref" 1 ["self", "number"] (spMk_Ref K c)) : HasM P w K mg base CX0 c.Store "make" 3 ["self", "thing"] (spMake w c) := by
  have Sc := sc_Store_make
  refine hasM_of A Sc (fun vs H Q E h => ?_) (fun cdv f A outer s H vs Q E hr h => ?_)
  · unfold spMake at h; split at h; rfl; cases h
  · unfold spMake at h
    split at h
    · rename_i y a
      obtain ⟨x, S, b, t, rfl, hS, ht, hn, hd, hl, h⟩ := h
      have hlen : x.L.length = S.things.length := Paired.length hS.th
      obtain ⟨dx, e0⟩ := hS.st
      have e1 := hS.et
      have ne : x.y ≠ x.tl := fun q => by rw [q, e1] at e0; cases e0
      refine ⟨_, (pss_cons (ps_expr (fe_bm PySem.F.plainAttrs_list PySem.F.slot_list_append PySem.F.type_list_append isLst_ty mt_fAppend (fe_fld (fe_var 0) T.pl_things rfl) (pa_cons (fe_var 1) pa_nil)))
      (pss_one (ps_ret (fe_make (k := _) M_Ref (hr.mono (by walk_at "rm")) (by rfl) pass0 (pa_cons (pe_op op_fSub (pe_callB call_fLen (by rfl) T.no_len (by decide +kernel) (pa_cons (fe_fld (fe_var 0) T.pl_things rfl) pa_nil)) pe_int) pa_nil))))), ?_⟩
      walk_at "fx0"
      walk_at "ox"
      simp only [e0]
      walk_at "ox"
      simp only [e1]
      walk_at "ox"
      have e0' : ∀ o, upd H x.tl o x.y = some (.ins c.Store dx [("things", .ref x.tl), ("output", .ref x.ol), ("lines", .ref x.ll), ("taken", .int (S.taken : Nat))]) := fun o => by rw [upd_ne ne]; exact e0
      refine ⟨len_line' (by rw [List.length_map]; omega), ?_⟩
      simp only [e0']
      walk_at "ox"
      refine ⟨_, rl_l upd_same, ?_⟩
      unfold spMk_Ref
      intro r rdx H1 nr s1 er
      have k1 : Keep [x.tl] H H1 := (Keep.refl.upd (by simp)).trans (Keep.of s1)
      refine h r H1 ?_ k1 (hS.push k1 (s1 _ _ upd_same) ht hn hd) ⟨rdx, ?_⟩
      · by_cases q : r = x.tl
        · rw [q, upd_same] at nr; cases nr
        · rw [upd_ne q] at nr; exact nr
      · rw [er, List.length_append, List.length_map, List.length_cons, List.length_nil]
        have : (((x.L.length + (0 + 1) : Nat) : Int) - 1) = ((S.things.length : Nat) : Int) := by omega
        rw [this]
    · cases h
def spAt (w : World) (c : Cs) : Sp := fun vs H Q _ => match vs with
  | [.ref y, .ref r] => ∃ x S n t, y = x.y ∧ Sto w c H x S ∧ IsRef c H r (n : Nat) ∧ S.things[n]? = some t ∧ ∀ a b, x.L[n]? = some (a, b) → ThAt w c H a b t → Q (.ref a) H
  | _ => False
theorem Sto.num {H : Hp} {x : SA} {S : SV} (h : Sto w c H x S) {n : Nat} {t : Th} (e : S.things[n]? = some t) : ∃ a b, x.L[n]? = some (a, b) ∧ ThAt w c H a b t ∧ atI (x.L.map fun p => V.ref p.1) (n : Nat) = some (.ref a) := by
  obtain ⟨a, b, h1, h2⟩ := h.at e
  exact ⟨a, b, h1, h2, atI_nat (by rw [List.getElem?_map, h1]; rfl)⟩
theorem ok_at (A : AtM K c.Store "at" "Store.at" s_Store_at ["self", "ref"]) (T : Txt K mg c) : HasM P w K mg base CX0 c.Store "at" 1 ["self", "ref"] (spAt w c) := by
  have Sc := sc_Store_at
  refine hasM_of A Sc (fun vs H Q E h => ?_) (fun cdv f A outer s H vs Q E hr h => ?_)
  · unfold spAt at h; split at h; rfl; cases h
  · unfold spAt at h
    split at h
    · rename_i y r
      obtain ⟨x, S, n, t, rfl, hS, ⟨rdx, er⟩, et, h⟩ := h
      obtain ⟨dx, e0⟩ := hS.st
      obtain ⟨a, b, h1, h2, h3⟩ := hS.num et
      refine ⟨_, (pss_one (ps_ret (pe_ix ix_fx (fe_fld (fe_var 0) T.pl_things rfl) (fe_fld (fe_var 1) T.pl_number rfl) (fun _ _ => rfl)))), ?_⟩
      walk_at "fx0"
      walk_at "ox"
      simp only [e0]
      walk_at "ox"
      simp only [er]
      walk_at "ox"
      exact ⟨_, rl_l hS.et, _, h3, h a b h1 h2⟩
    · cases h
def spThing (w : World) (c : Cs) : Sp := fun vs H Q _ => match vs with
  | [.ref y, v] => ∃ x S r, y = x.y ∧ Sto w c H x S ∧ IsVal c H v r ∧ WfR S r ∧
    ∀ tv, tyV2 H tv = some (tyR c S r) → (∀ n t, r = .ob n → S.things[n]? = some t → ∃ a b, tv = .ref a ∧ x.L[n]? = some (a, b) ∧ ThAt w c H a b t) → ((∀ n, r ≠ .ob n) → tv = .non) → Q tv H
  | _ => False

def spKind (w : World) (c : Cs) : Sp := fun vs H Q _ => match vs with
  | [.ref y, v] => ∃ x S r, y = x.y ∧ Sto w c H x S ∧ IsVal c H v r ∧ WfR S r ∧ Q (.str (kindR S r)) H
  | _ => False

theorem kindR_len {S : SV} {r : RV} : (kindR S r).length ≤ 8 := by
  have ht : ∀ t, (kindT t).length ≤ 8 := fun t => by cases t <;> simp only [kindT] <;> decide
  cases r with
  | ob n =>
    show Str.length (match S.things[n]? with | some t => kindT t | none => "function") ≤ 8
    split
    · exact ht _
    · decide
  | _ => show Str.length _ ≤ 8; simp only [kindR]; decide
theorem keys_vs {H : Hp} {rws : List (V × V)} {rows : List (RV × RV)} (h : Paired (fun x r => IsVal c H x.1 r.1 ∧ IsVal c H x.2 r.2) rws rows) : VsAt c H (rws.map fun z => z.1) (rows.map fun z => z.1) := by
  induction h with
  | nil => exact .nil
  | cons a b ih => exact .cons a.1 ih
def rvOf : V → RV
  | .bl b => .boo b
  | .int n => .num n
  | .str z => .txt z
  | _ => .nul
theorem rvOf_is {H : Hp} {v : V} (h : scV v = true) : IsVal c H v (rvOf v) := by cases v <;> first | rfl | cases h
theorem rvOf_nb {v : V} {z : Str} : rvOf v ≠ .bt z := by cases v <;> (intro h; cases h)
theorem vs_rvOf {H : Hp} : ∀ {ks : List V}, (∀ v ∈ ks, scV v = true) → VsAt c H ks (ks.map rvOf)
  | [], _ => .nil
  | a :: t, h => .cons (rvOf_is (h a (List.mem_cons_self ..))) (vs_rvOf fun v m => h v (List.mem_cons_of_mem _ m))
end

section
variable {P : Program} {w : World} {K : PySem.W.Frag} {mg : Str → Option Value} {base : Heap} {c : Cs}

/-! ### new objects -/
theorem ThAt.live {H : Hp} {a : Addr} {b : Option Addr} {t : Th} (h : ThAt w c H a b t) : ∀ q ∈ footT a b, ∃ o, H q = some o := by
  have two_ : ∀ {l : Addr} {o1 o2 : HO}, H a = some o1 → H l = some o2 → ∀ q ∈ footT a (some l), ∃ o, H q = some o := by
    intro l o1 o2 e1 e2 q hq
    simp only [footT, Option.toList_some, List.mem_cons, List.not_mem_nil, or_false] at hq
    rcases hq with rfl | rfl
    · exact ⟨_, e1⟩
    · exact ⟨_, e2⟩
  have one_ : ∀ {o1 : HO}, H a = some o1 → ∀ q ∈ footT a none, ∃ o, H q = some o := by
    intro o1 e1 q hq
    simp only [footT, Option.toList_none, List.mem_cons, List.not_mem_nil, or_false] at hq
    rw [hq]; exact ⟨_, e1⟩
  cases t with
  | parts rs => obtain ⟨dx, l, xs, rfl, e1, e2, e3⟩ := h; exact two_ e1 e2
  | table rows => obtain ⟨d, rws, rfl, ⟨dx, e1⟩, e2, e3⟩ := h; obtain ⟨⟨es, D, e0, r⟩, nd⟩ := e2; exact two_ e1 e0
  | inst o fs => obtain ⟨dx, ra, nd, kvs, rfl, e1, e2, e3, e4⟩ := h; exact two_ e1 e3
  | kin n p ms => obtain ⟨dx, pv, md, kvs, rfl, e1, e2, e3, e4⟩ := h; exact two_ e1 e3
  | clo n k sc => obtain ⟨dx, t, xs, rfl, e1, e2, e3⟩ := h; exact one_ e1

  | var v => obtain ⟨dx, x, rfl, e1, e2⟩ := h; exact one_ e1
  | cur rs => obtain ⟨dx, l, xs, rfl, e1, e2, e3⟩ := h; exact two_ e1 e2

  | bound _ _ => exact h.elim

theorem Sto.live {H : Hp} {x : SA} {S : SV} (h : Sto w c H x S) : ∀ q ∈ x.foot, ∃ o, H q = some o := by
  intro q hq
  simp only [SA.foot, List.mem_cons] at hq
  rcases hq with rfl | rfl | rfl | rfl | hq
  · obtain ⟨dx, e⟩ := h.st; exact ⟨_, e⟩
  · exact ⟨_, h.et⟩
  · exact ⟨_, h.eo⟩
  · exact ⟨_, h.el⟩
  · obtain ⟨p, hp, hq⟩ := List.mem_flatMap.mp hq
    obtain ⟨i, hi, rfl⟩ := List.getElem_of_mem hp
    obtain ⟨t, _, ht⟩ := paired_get h.th (List.getElem?_eq_getElem hi)
    exact ht.live q hq
theorem new_make {H H1 : Hp} {x : SA} {S : SV} {a : Addr} {b : Option Addr} {t : Th} {Q : VK} {E : XK} (hS : Sto w c H x S) (s1 : Same H H1) (ht : ThAt w c H1 a b t) (hn : (footT a b).Nodup) (hf : ∀ q ∈ footT a b, H q = none) (hl : S.things.length < 99999) (h : NewTh w c H x S t Q) : spMake w c [.ref x.y, .ref a] H1 Q E :=
  ⟨x, S, b, t, rfl, hS.same s1, ht, hn, (fun q hq m => by
    obtain ⟨o, e⟩ := hS.live q m
    rw [hf q hq] at e
    cases e), hl, fun r H2 nr k st hr => h r a b H2 (s1.free nr) hf ((Keep.of s1).trans k) st hr⟩
theorem foot_two {a l : Addr} (h : l ≠ a) : (footT a (some l)).Nodup := by simp [footT, Ne.symm h]
theorem free_two {H : Hp} {a l : Addr} (h1 : H a = none) (h2 : H l = none) : ∀ q ∈ footT a (some l), H q = none := by
  intro q hq
  simp only [footT, Option.toList_some, List.mem_cons, List.not_mem_nil, or_false] at hq
  rcases hq with rfl | rfl <;> assumption
theorem foot_one {a : Addr} : (footT a none).Nodup := by simp [footT]
theorem free_one {H : Hp} {a : Addr} (h1 : H a = none) : ∀ q ∈ footT a none, H q = none := by
  intro q hq
  simp only [footT, Option.toList_none, List.mem_cons, List.not_mem_nil, or_false] at hq
  rw [hq]; exact h1

def spMkList (w : World) (c : Cs) : Sp := fun vs H Q _ => match vs with
  | [.ref y, .ref l] => ∃ x S xs rs, y = x.y ∧ Sto w c H x S ∧ H l = some (.lst xs) ∧ VsAt c H xs rs ∧ xs.length ≤ 1000 ∧ S.things.length < 99999 ∧ NewTh w c H x S (.parts rs) Q
  | _ => False

end

section
variable {P : Program} {w : World} {K : PySem.W.Frag} {mg : Str → Option Value} {base : Heap} {c : Cs}
/-! ### an object of the store changed -/
theorem paired_mk {α β : Type} {F : α → β → Prop} : ∀ {xs : List α} {ys : List β}, xs.length = ys.length → (∀ (i : Nat) (a : α) (b : β), xs[i]? = some a → ys[i]? = some b → F a b) → Paired F xs ys
  | [], [], _, _ => .nil
  | a :: xs, b :: ys, hl, h => .cons (h 0 a b rfl rfl) (paired_mk (by simpa using hl) fun i a b ha hb => h (i + 1) a b ha hb)
  | [], _ :: _, hl, _ => by cases hl
  | _ :: _, [], hl, _ => by cases hl
theorem footL_disj : ∀ {L : List (Addr × Option Addr)} {i j : Nat} {p p' : Addr × Option Addr} {q : Addr}, (footL L).Nodup → L[i]? = some p → L[j]? = some p' → q ∈ footT p.1 p.2 → q ∈ footT p'.1 p'.2 → i = j
  | [], i, _, _, _, _, _, h, _, _, _ => by cases i <;> cases h
  | r :: L, i, j, p, p', q, hn, h1, h2, m1, m2 => by
    have e : footL (r :: L) = footT r.1 r.2 ++ footL L := rfl
    rw [e, List.nodup_append] at hn
    cases i with
    | zero =>
      cases j with
      | zero => rfl
      | succ j =>
        cases h1
        exact absurd rfl (hn.2.2 q m1 q (mem_footL (List.mem_of_getElem? h2) m2))
    | succ i =>
      cases j with
      | zero =>
        cases h2
        exact absurd rfl (hn.2.2 q m2 q (mem_footL (List.mem_of_getElem? h1) m1))
      | succ j => rw [footL_disj hn.2.1 h1 h2 m1 m2]
def SV.setT (S : SV) (n : Nat) (t : Th) : SV := { S with things := S.things.set n t }
theorem Sto.setT {H H1 : Hp} {x : SA} {S : SV} {n : Nat} {a q : Addr} {t : Th} (h : Sto w c H x S) (hx : x.L[n]? = some (a, some q)) (k : Keep [q] H H1) (so : Soft c H q) (ht : ThAt w c H1 a (some q) t) : Sto w c H1 x (S.setT n t) := by
  have nd := h.nd
  have hl : x.L.length = S.things.length := Paired.length h.th
  have mq : q ∈ footL x.L := mem_footL (List.mem_of_getElem? hx) (by simp [footT])
  simp only [SA.foot, List.nodup_cons, List.mem_cons, not_or] at nd
  obtain ⟨⟨n1, n2, n3, n4⟩, ⟨n5, n6, n7⟩, ⟨n8, n9⟩, n10, n11⟩ := nd
  obtain ⟨dx, ey⟩ := h.st
  have no : ∀ {p : Addr}, p ∉ footL x.L → p ∉ [q] := fun hp m => hp (by rw [List.mem_singleton.mp m]; exact mq)
  have so' : ∀ p ∈ [q], Soft c H p := fun p m => by rw [List.mem_singleton.mp m]; exact so
  refine ⟨⟨dx, k _ _ (no n4) ey⟩, k _ _ (no n7) h.et, k _ _ (no n9) h.eo, k _ _ (no n10) h.el, ?_, h.nd⟩
  refine paired_mk (by rw [hl]; exact (List.length_set ..).symm) fun i p t' hp ht' => ?_
  have ht2 : (S.things.set n t)[i]? = some t' := ht'
  rw [List.getElem?_set] at ht2
  by_cases e : n = i
  · subst e
    rw [if_pos rfl] at ht2
    rw [hx] at hp
    cases hp
    split at ht2
    · cases ht2; exact ht
    · cases ht2
  · rw [if_neg e] at ht2
    obtain ⟨t2, e2, h2⟩ := paired_get h.th hp
    rw [ht2] at e2
    cases e2
    refine h2.keep k so' fun z hz m => ?_
    rw [List.mem_singleton.mp m] at hz
    exact e (footL_disj n11 hx hp (by simp [footT]) hz)
theorem footL_mem_set : ∀ {L : List (Addr × Option Addr)} {n : Nat} {p : Addr × Option Addr} {q : Addr}, q ∈ footL (L.set n p) → q ∈ footL L ∨ q ∈ footT p.1 p.2
  | [], _, _, _, h => by simp [footL] at h
  | r :: L, 0, p, q, h => by
    have h : q ∈ footT p.1 p.2 ++ footL L := h
    rcases List.mem_append.mp h with h | h
    · exact .inr h
    · exact .inl (List.mem_append_right _ h)
  | r :: L, n + 1, p, q, h => by
    have h : q ∈ footT r.1 r.2 ++ footL (L.set n p) := h
    rcases List.mem_append.mp h with h | h
    · exact .inl (List.mem_append_left _ h)
    · exact (footL_mem_set h).imp (fun z => List.mem_append_right _ z) id
theorem footL_set : ∀ {L : List (Addr × Option Addr)} {n : Nat} {p p' : Addr × Option Addr}, (footL L).Nodup → L[n]? = some p → (footT p'.1 p'.2).Nodup → (∀ q ∈ footT p'.1 p'.2, q ∈ footT p.1 p.2 ∨ q ∉ footL L) → (footL (L.set n p')).Nodup
  | [], _, _, _, _, h, _, _ => by cases h
  | r :: L, 0, p, p', h, e, hn, hf => by
    cases e
    have h : (footT r.1 r.2 ++ footL L).Nodup := h
    show (footT p'.1 p'.2 ++ footL L).Nodup
    rw [List.nodup_append] at h ⊢
    refine ⟨hn, h.2.1, fun a ha b hb z => ?_⟩
    rcases hf a ha with g | g
    · exact h.2.2 a g b hb z
    · exact g (List.mem_append_right _ (by rw [z]; exact hb))
  | r :: L, n + 1, p, p', h, e, hn, hf => by
    have h : (footT r.1 r.2 ++ footL L).Nodup := h
    have e : L[n]? = some p := e
    show (footT r.1 r.2 ++ footL (L.set n p')).Nodup
    rw [List.nodup_append] at h ⊢
    refine ⟨h.1, footL_set h.2.1 e hn (fun q m => (hf q m).imp id fun g z => g (List.mem_append_right _ z)), fun a ha b hb z => ?_⟩
    rcases footL_mem_set hb with g | g
    · exact h.2.2 a ha b g z
    · rcases hf b g with g | g
      · exact h.2.2 a ha b (mem_footL (List.mem_of_getElem? e) g) z
      · exact g (List.mem_append_left _ (by rw [← z]; exact ha))
def SA.setL (x : SA) (n : Nat) (a : Addr) (b : Option Addr) : SA := { x with L := x.L.set n (a, b) }
/-- an object of the store is changed at its own places, and may get a new second place -/
theorem Sto.mvT {H H1 : Hp} {x : SA} {S : SV} {n : Nat} {a : Addr} {b b' : Option Addr} {t : Th} {ps : List Addr} (h : Sto w c H x S) (hx : x.L[n]? = some (a, b)) (k : Keep ps H H1) (hps : ∀ p ∈ ps, p ∈ footT a b) (so : ∀ p ∈ ps, Soft c H p) (ht : ThAt w c H1 a b' t) (hn : (footT a b').Nodup) (hf : ∀ q ∈ footT a b', q ∈ footT a b ∨ H q = none) :
    Sto w c H1 (x.setL n a b') (S.setT n t) ∧ ∀ q ∈ (x.setL n a b').foot, q ∈ x.foot ∨ H q = none := by
  have nd := h.nd
  have lv := h.live
  have hl : x.L.length = S.things.length := Paired.length h.th
  have mq : ∀ p ∈ ps, p ∈ footL x.L := fun p m => mem_footL (List.mem_of_getElem? hx) (hps p m)
  simp only [SA.foot, List.nodup_cons, List.mem_cons, not_or] at nd
  obtain ⟨⟨n1, n2, n3, n4⟩, ⟨n5, n6, n7⟩, ⟨n8, n9⟩, n10, n11⟩ := nd
  obtain ⟨dx, ey⟩ := h.st
  have no : ∀ {p : Addr}, p ∉ footL x.L → p ∉ ps := fun hp m => hp (mq _ m)
  have hfx : ∀ q ∈ footL (x.L.set n (a, b')), q ∈ footL x.L ∨ H q = none := fun q m => by
    rcases footL_mem_set m with g | g
    · exact .inl g
    · exact (hf q g).imp (fun z => mem_footL (List.mem_of_getElem? hx) z) id
  have off : ∀ {q : Addr} {o : HO}, q ∉ footL x.L → H q = some o → q ∉ footL (x.L.set n (a, b')) := fun g e m => by
    rcases hfx _ m with z | z
    · exact g z
    · rw [e] at z; cases z
  have em : (x.L.set n (a, b')).map (fun p => V.ref p.1) = x.L.map fun p => V.ref p.1 := by
    rw [List.map_set]
    refine List.ext_getElem? fun i => ?_
    rw [List.getElem?_set]
    split
    · rename_i q
      subst q
      rw [List.getElem?_map, hx]
      rw [List.length_map, if_pos (List.getElem?_eq_some_iff.mp hx).1]; rfl
    · rfl
  refine ⟨⟨⟨dx, k _ _ (no n4) ey⟩, ?_, k _ _ (no n9) h.eo, k _ _ (no n10) h.el, ?_, ?_⟩, fun q m => ?_⟩
  · show H1 x.tl = some (.lst ((x.L.set n (a, b')).map fun p => V.ref p.1))
    rw [em]; exact k _ _ (no n7) h.et
  · refine paired_mk (by show (x.L.set n (a, b')).length = (S.things.set n t).length; rw [List.length_set, List.length_set, hl]) fun i p t' hp ht' => ?_
    have ht2 : (S.things.set n t)[i]? = some t' := ht'
    have hp2 : (x.L.set n (a, b'))[i]? = some p := hp
    rw [List.getElem?_set] at ht2 hp2
    by_cases e : n = i
    · subst e
      rw [if_pos rfl] at ht2 hp2
      split at ht2
      · split at hp2
        · cases ht2; cases hp2; exact ht
        · cases hp2
      · cases ht2
    · rw [if_neg e] at ht2 hp2
      obtain ⟨t2, e2, h2⟩ := paired_get h.th hp2
      rw [ht2] at e2
      cases e2
      exact h2.keep k so fun z hz m => e (footL_disj n11 hx hp2 (hps z m) hz)
  · obtain ⟨_, ey1⟩ := lv x.y (by simp [SA.foot])
    simp only [SA.foot, SA.setL, List.nodup_cons, List.mem_cons, not_or]
    exact ⟨⟨n1, n2, n3, off n4 ey⟩, ⟨n5, n6, off n7 h.et⟩, ⟨n8, off n9 h.eo⟩, off n10 h.el, footL_set n11 hx hn fun q m => (hf q m).imp id fun z g => by
      obtain ⟨o, eo⟩ := lv q (by simp [SA.foot, g])
      rw [z] at eo; cases eo⟩
  · simp only [SA.foot, SA.setL, List.mem_cons] at m ⊢
    rcases m with m | m | m | m | m
    · exact .inl (.inl m)
    · exact .inl (.inr (.inl m))
    · exact .inl (.inr (.inr (.inl m)))
    · exact .inl (.inr (.inr (.inr (.inl m))))
    · exact (hfx q m).imp (fun z => .inr (.inr (.inr (.inr z)))) id
theorem setL_foot {x : SA} {n : Nat} {a q : Addr} {b : Option Addr} (h : q ∈ (x.setL n a b).foot) : q ∈ x.foot ∨ q ∈ footT a b := by
  simp only [SA.foot, SA.setL, List.mem_cons] at h ⊢
  rcases h with m | m | m | m | m
  · exact .inl (.inl m)
  · exact .inl (.inr (.inl m))
  · exact .inl (.inr (.inr (.inl m)))
  · exact .inl (.inr (.inr (.inr (.inl m))))
  · exact (footL_mem_set m).imp (fun z => .inr (.inr (.inr (.inr z)))) id
end

section
variable {P : Program} {w : World} {K : PySem.W.Frag} {mg : Str → Option Value} {base : Heap} {c : Cs}
/-! ### the law's state, the store and the law's own things, apart from each other -/
structure Wd (K : PySem.W.Frag) (w : World) (c : Cs) (H0 : Hp) (s sc : Addr) (ns : List Int) (x : SA) (S : SV) (G : Hp → Prop) (gf : List Addr) (H : Hp) : Prop where
  dr : Dr K H0 s sc ns H
  st : Sto w c H x S
  g : G H
  gm : ∀ H H', G H → HardStay c H H' → (∀ q ∈ gf, ∀ o, H q = some o → H' q = some o) → G H'
  gl : ∀ q ∈ gf, ∃ o, H q = some o
  nd : (s :: (x.foot ++ gf)).Nodup
  fr : ∀ q ∈ s :: (x.foot ++ gf), H0 q = none
section
variable {H0 : Hp} {s sc : Addr} {ns : List Int} {x : SA} {S : SV} {G : Hp → Prop} {gf : List Addr} {H H1 : Hp}
theorem Wd.s_foot (W : Wd K w c H0 s sc ns x S G gf H) : ∀ {q : Addr}, q ∈ x.foot → s ≠ q := fun {q} m e => (List.nodup_cons.mp W.nd).1 (by rw [e]; exact List.mem_append_left _ m)
theorem Wd.s_gf (W : Wd K w c H0 s sc ns x S G gf H) : ∀ {q : Addr}, q ∈ gf → s ≠ q := fun {q} m e => (List.nodup_cons.mp W.nd).1 (by rw [e]; exact List.mem_append_right _ m)
theorem Wd.f_gf (W : Wd K w c H0 s sc ns x S G gf H) : ∀ {p q : Addr}, p ∈ x.foot → q ∈ gf → p ≠ q := fun {p q} m n e => (List.nodup_append.mp (List.nodup_cons.mp W.nd).2).2.2 p m q n e
theorem Wd.f0 (W : Wd K w c H0 s sc ns x S G gf H) : ∀ {q : Addr}, q ∈ x.foot → H0 q = none := fun m => W.fr _ (List.mem_cons_of_mem _ (List.mem_append_left _ m))
theorem Wd.g0 (W : Wd K w c H0 s sc ns x S G gf H) : ∀ {q : Addr}, q ∈ gf → H0 q = none := fun m => W.fr _ (List.mem_cons_of_mem _ (List.mem_append_right _ m))
theorem Wd.s_soft (W : Wd K w c H0 s sc ns x S G gf H) : ∀ p ∈ [s], Soft c H p := fun p m => by
  obtain ⟨a, k, e, _⟩ := W.dr.st
  rw [List.mem_singleton.mp m]; exact soft_lst e
theorem Wd.live (W : Wd K w c H0 s sc ns x S G gf H) : ∀ {q : Addr}, q ∈ s :: (x.foot ++ gf) → ∃ o, H q = some o := fun {q} m => by
  rcases List.mem_cons.mp m with rfl | m
  · obtain ⟨a, k, e, _⟩ := W.dr.st; exact ⟨_, e⟩
  · rcases List.mem_append.mp m with m | m
    · exact W.st.live q m
    · exact W.gl q m
theorem Wd.gkeep (W : Wd K w c H0 s sc ns x S G gf H) {ps : List Addr} (k : Keep ps H H1) (so : ∀ p ∈ ps, Soft c H p) (n : ∀ q ∈ gf, q ∉ ps) : G H1 ∧ ∀ q ∈ gf, ∃ o, H1 q = some o :=
  ⟨W.gm _ _ W.g (.keep k so) fun q m o e => k _ _ (n q m) e, fun q m => (W.gl q m).imp fun o e => k _ _ (n q m) e⟩
theorem Wd.draw (W : Wd K w c H0 s sc ns x S G gf H) (k : Keep [s] H H1) (d : Dr K H0 s sc ns H1) : Wd K w c H0 s sc ns x S G gf H1 := by
  obtain ⟨g1, g2⟩ := W.gkeep k W.s_soft fun q m n => W.s_gf m (List.mem_singleton.mp n).symm
  exact ⟨d, W.st.keep k W.s_soft fun q m n => W.s_foot m (List.mem_singleton.mp n).symm, g1, W.gm, g2, W.nd, W.fr⟩
theorem Wd.same (W : Wd K w c H0 s sc ns x S G gf H) (k : Same H H1) : Wd K w c H0 s sc ns x S G gf H1 :=
  ⟨W.dr.same k, W.st.same k, W.gm _ _ W.g (.same k) fun q _ o e => k _ _ e, W.gm, fun q m => (W.gl q m).imp fun o e => k _ _ e, W.nd, W.fr⟩
theorem Wd.make (W : Wd K w c H0 s sc ns x S G gf H) {a : Addr} {b : Option Addr} {t : Th} (hf : ∀ q ∈ footT a b, H q = none) (k : Keep [x.tl] H H1) (st : Sto w c H1 (x.add a b) (S.add t)) : Wd K w c H0 s sc ns (x.add a b) (S.add t) G gf H1 := by
  have mt : x.tl ∈ x.foot := by simp [SA.foot]
  have n0 : ∀ q ∈ footT a b, q ∉ s :: (x.foot ++ gf) := fun q hq m => by obtain ⟨o, e⟩ := W.live m; rw [hf q hq] at e; cases e
  obtain ⟨g1, g2⟩ := W.gkeep k W.st.soft_tl fun q m n => W.f_gf mt m (List.mem_singleton.mp n).symm
  refine ⟨W.dr.keep k (fun n => W.s_foot mt (List.mem_singleton.mp n)) fun q n => by rw [List.mem_singleton.mp n]; exact W.f0 mt, st, g1, W.gm, g2, ?_, ?_⟩
  · have nd2 := st.nd
    rw [foot_add] at nd2 ⊢
    rw [List.nodup_cons, List.nodup_append]
    refine ⟨fun m => ?_, nd2, (List.nodup_append.mp (List.nodup_cons.mp W.nd).2).2.1, fun p hp q hq e => ?_⟩
    · rcases List.mem_append.mp m with m | m
      · rcases List.mem_append.mp m with m | m
        · exact W.s_foot m rfl
        · exact n0 s m (List.mem_cons_self ..)
      · exact W.s_gf m rfl
    · rcases List.mem_append.mp hp with hp | hp
      · exact W.f_gf hp hq e
      · exact n0 p hp (by rw [e]; exact List.mem_cons_of_mem _ (List.mem_append_right _ hq))
  · intro q m
    rw [foot_add] at m
    rcases List.mem_cons.mp m with rfl | m
    · exact W.fr _ (List.mem_cons_self ..)
    · rcases List.mem_append.mp m with m | m
      · rcases List.mem_append.mp m with m | m
        · exact W.f0 m
        · exact W.dr.sm.free (hf q m)
      · exact W.g0 m
theorem Wd.set (W : Wd K w c H0 s sc ns x S G gf H) {S' : SV} {q : Addr} (hq : q ∈ x.foot) (k : Keep [q] H H1) (so : Soft c H q) (st : Sto w c H1 x S') : Wd K w c H0 s sc ns x S' G gf H1 := by
  obtain ⟨g1, g2⟩ := W.gkeep k (fun p m => by rw [List.mem_singleton.mp m]; exact so) fun p m n => W.f_gf hq m (List.mem_singleton.mp n).symm
  exact ⟨W.dr.keep k (fun n => W.s_foot hq (List.mem_singleton.mp n)) fun p n => by rw [List.mem_singleton.mp n]; exact W.f0 hq, st, g1, W.gm, g2, W.nd, W.fr⟩
/-- the law's own things are changed at q, its own -/
theorem Wd.own (W : Wd K w c H0 s sc ns x S G gf H) {G' : Hp → Prop} {q : Addr} (hq : q ∈ gf) (k : Keep [q] H H1) (so : Soft c H q) (l : ∃ o, H1 q = some o) (g : G' H1) (gm : ∀ H H', G' H → HardStay c H H' → (∀ q ∈ gf, ∀ o, H q = some o → H' q = some o) → G' H') : Wd K w c H0 s sc ns x S G' gf H1 := by
  refine ⟨W.dr.keep k (fun n => W.s_gf hq (List.mem_singleton.mp n)) fun p n => by rw [List.mem_singleton.mp n]; exact W.g0 hq, W.st.keep k (fun p m => by rw [List.mem_singleton.mp m]; exact so) fun p m n => W.f_gf m hq (List.mem_singleton.mp n), g, gm, fun p m => ?_, W.nd, W.fr⟩
  by_cases e : p = q
  · rw [e]; exact l
  · exact (W.gl p m).imp fun o z => k _ _ (by simpa using e) z
/-- the law's own things grow by new ones -/
theorem Wd.grow (W : Wd K w c H0 s sc ns x S G gf H) {G' : Hp → Prop} {qs : List Addr} (k : Same H H1) (nq : ∀ q ∈ qs, H q = none) (hn : qs.Nodup) (l : ∀ q ∈ qs, ∃ o, H1 q = some o) (g : G' H1) (gm : ∀ H H', G' H → HardStay c H H' → (∀ q ∈ gf ++ qs, ∀ o, H q = some o → H' q = some o) → G' H') : Wd K w c H0 s sc ns x S G' (gf ++ qs) H1 := by
  have n0 : ∀ q ∈ qs, q ∉ s :: (x.foot ++ gf) := fun q hq m => by obtain ⟨o, e⟩ := W.live m; rw [nq q hq] at e; cases e
  refine ⟨W.dr.same k, W.st.same k, g, gm, fun q m => ?_, ?_, fun q m => ?_⟩
  · rcases List.mem_append.mp m with m | m
    · exact (W.gl q m).imp fun o e => k _ _ e
    · exact l q m
  · have e : s :: (x.foot ++ (gf ++ qs)) = (s :: (x.foot ++ gf)) ++ qs := by simp
    rw [e, List.nodup_append]
    exact ⟨W.nd, hn, fun p hp q hq z => n0 q hq (by rw [← z]; exact hp)⟩
  · have e : s :: (x.foot ++ (gf ++ qs)) = (s :: (x.foot ++ gf)) ++ qs := by simp
    rw [e] at m
    rcases List.mem_append.mp m with m | m
    · exact W.fr q m
    · exact W.dr.sm.free (nq q m)
/-- the store is changed at its own places, and may get new ones -/
theorem Wd.mv (W : Wd K w c H0 s sc ns x S G gf H) {x' : SA} {S' : SV} {ps : List Addr} (k : Keep ps H H1) (hps : ∀ p ∈ ps, p ∈ x.foot) (so : ∀ p ∈ ps, Soft c H p) (st : Sto w c H1 x' S') (hf : ∀ q ∈ x'.foot, q ∈ x.foot ∨ H q = none) : Wd K w c H0 s sc ns x' S' G gf H1 := by
  obtain ⟨g1, g2⟩ := W.gkeep k so fun p m n => W.f_gf (hps p n) m rfl
  have n0 : ∀ {q : Addr}, H q = none → q ∉ s :: (x.foot ++ gf) := fun e m => by obtain ⟨o, z⟩ := W.live m; rw [e] at z; cases z
  refine ⟨W.dr.keep k (fun n => W.s_foot (hps _ n) rfl) fun p n => W.f0 (hps p n), st, g1, W.gm, g2, ?_, ?_⟩
  · rw [List.nodup_cons, List.nodup_append]
    refine ⟨fun m => ?_, st.nd, (List.nodup_append.mp (List.nodup_cons.mp W.nd).2).2.1, fun p hp q hq e => ?_⟩
    · rcases List.mem_append.mp m with m | m
      · rcases hf _ m with z | z
        · exact W.s_foot z rfl
        · exact n0 z (List.mem_cons_self ..)
      · exact W.s_gf m rfl
    · rcases hf _ hp with z | z
      · exact W.f_gf z hq e
      · exact n0 z (by rw [e]; exact List.mem_cons_of_mem _ (List.mem_append_right _ hq))
  · intro q m
    rcases List.mem_cons.mp m with rfl | m
    · exact W.fr _ (List.mem_cons_self ..)
    · rcases List.mem_append.mp m with m | m
      · rcases hf _ m with z | z
        · exact W.f0 z
        · exact W.dr.sm.free z
      · exact W.g0 m
/-- the law's own things are changed at their places, and may get new ones -/
theorem Wd.mvG (W : Wd K w c H0 s sc ns x S G gf H) {G' : Hp → Prop} {gf' ps : List Addr} (k : Keep ps H H1) (hps : ∀ p ∈ ps, p ∈ gf) (so : ∀ p ∈ ps, Soft c H p) (hn : gf'.Nodup) (hf : ∀ q ∈ gf', q ∈ gf ∨ H q = none) (l : ∀ q ∈ gf', ∃ o, H1 q = some o) (g : G' H1) (gm : ∀ H H', G' H → HardStay c H H' → (∀ q ∈ gf', ∀ o, H q = some o → H' q = some o) → G' H') : Wd K w c H0 s sc ns x S G' gf' H1 := by
  have n0 : ∀ {q : Addr}, H q = none → q ∉ s :: (x.foot ++ gf) := fun e m => by obtain ⟨o, z⟩ := W.live m; rw [e] at z; cases z
  refine ⟨W.dr.keep k (fun n => W.s_gf (hps _ n) rfl) fun p n => W.g0 (hps p n), W.st.keep k so fun p m n => W.f_gf m (hps _ n) rfl, g, gm, l, ?_, ?_⟩
  · rw [List.nodup_cons, List.nodup_append]
    refine ⟨fun m => ?_, W.st.nd, hn, fun p hp q hq e => ?_⟩
    · rcases List.mem_append.mp m with m | m
      · exact W.s_foot m rfl
      · rcases hf _ m with z | z
        · exact W.s_gf z rfl
        · exact n0 z (List.mem_cons_self ..)
    · rcases hf _ hq with z | z
      · exact W.f_gf hp z e
      · exact n0 z (by rw [← e]; exact List.mem_cons_of_mem _ (List.mem_append_left _ hp))
  · intro q m
    rcases List.mem_cons.mp m with rfl | m
    · exact W.fr _ (List.mem_cons_self ..)
    · rcases List.mem_append.mp m with m | m
      · exact W.f0 m
      · rcases hf _ m with z | z
        · exact W.g0 z
        · exact W.dr.sm.free z
/-- a change at places that are nobody's -/
theorem Wd.junk (W : Wd K w c H0 s sc ns x S G gf H) {ps : List Addr} (k : Keep ps H H1) (so : ∀ p ∈ ps, Soft c H p) (h0 : ∀ p ∈ ps, H0 p = none) (n : ∀ p ∈ ps, p ∉ s :: (x.foot ++ gf)) : Wd K w c H0 s sc ns x S G gf H1 := by
  obtain ⟨g1, g2⟩ := W.gkeep k so fun q m z => n q z (List.mem_cons_of_mem _ (List.mem_append_right _ m))
  exact ⟨W.dr.keep k (fun z => n _ z (List.mem_cons_self ..)) h0, W.st.keep k so fun q m z => n q z (List.mem_cons_of_mem _ (List.mem_append_left _ m)), g1, W.gm, g2, W.nd, W.fr⟩
/-- things that stand already become the law's own -/
theorem Wd.adopt (W : Wd K w c H0 s sc ns x S G gf H) {G' : Hp → Prop} {gf' : List Addr} (g : G' H) (gm : ∀ H H', G' H → HardStay c H H' → (∀ q ∈ gf', ∀ o, H q = some o → H' q = some o) → G' H') (hg : ∀ q ∈ gf', q ∈ gf ∨ (q ∉ s :: (x.foot ++ gf) ∧ H0 q = none ∧ ∃ o, H q = some o)) (hn : gf'.Nodup) : Wd K w c H0 s sc ns x S G' gf' H := by
  refine ⟨W.dr, W.st, g, gm, fun q m => ?_, ?_, fun q m => ?_⟩
  · rcases hg q m with z | ⟨_, _, z⟩
    · exact W.gl q z
    · exact z
  · rw [List.nodup_cons, List.nodup_append]
    refine ⟨fun m => ?_, W.st.nd, hn, fun p hp q hq e => ?_⟩
    · rcases List.mem_append.mp m with m | m
      · exact W.s_foot m rfl
      · rcases hg _ m with z | ⟨z, _⟩
        · exact W.s_gf z rfl
        · exact z (List.mem_cons_self ..)
    · rcases hg _ hq with z | ⟨z, _⟩
      · exact W.f_gf hp z e
      · exact z (by rw [← e]; exact List.mem_cons_of_mem _ (List.mem_append_left _ hp))
  · rcases List.mem_cons.mp m with rfl | m
    · exact W.fr _ (List.mem_cons_self ..)
    · rcases List.mem_append.mp m with m | m
      · exact W.f0 m
      · rcases hg _ m with z | ⟨_, z, _⟩
        · exact W.g0 z
        · exact z
/-- an object that stands already is put into the store -/
theorem Wd.make2 (W : Wd K w c H0 s sc ns x S G gf H) {a : Addr} {b : Option Addr} {t : Th} (hf : ∀ q ∈ footT a b, q ∉ s :: (x.foot ++ gf)) (h0 : ∀ q ∈ footT a b, H0 q = none) (k : Keep [x.tl] H H1) (st : Sto w c H1 (x.add a b) (S.add t)) : Wd K w c H0 s sc ns (x.add a b) (S.add t) G gf H1 := by
  have mt : x.tl ∈ x.foot := by simp [SA.foot]
  obtain ⟨g1, g2⟩ := W.gkeep k W.st.soft_tl fun q m n => W.f_gf mt m (List.mem_singleton.mp n).symm
  refine ⟨W.dr.keep k (fun n => W.s_foot mt (List.mem_singleton.mp n)) fun q n => by rw [List.mem_singleton.mp n]; exact W.f0 mt, st, g1, W.gm, g2, ?_, ?_⟩
  · have nd2 := st.nd
    rw [foot_add] at nd2 ⊢
    rw [List.nodup_cons, List.nodup_append]
    refine ⟨fun m => ?_, nd2, (List.nodup_append.mp (List.nodup_cons.mp W.nd).2).2.1, fun p hp q hq e => ?_⟩
    · rcases List.mem_append.mp m with m | m
      · rcases List.mem_append.mp m with m | m
        · exact W.s_foot m rfl
        · exact hf s m (List.mem_cons_self ..)
      · exact W.s_gf m rfl
    · rcases List.mem_append.mp hp with hp | hp
      · exact W.f_gf hp hq e
      · exact hf p hp (by rw [e]; exact List.mem_cons_of_mem _ (List.mem_append_right _ hq))
  · intro q m
    rw [foot_add] at m
    rcases List.mem_cons.mp m with rfl | m
    · exact W.fr _ (List.mem_cons_self ..)
    · rcases List.mem_append.mp m with m | m
      · rcases List.mem_append.mp m with m | m
        · exact W.f0 m
        · exact h0 q m
      · exact W.g0 m
/-- the same, told otherwise -/
theorem Wd.as (W : Wd K w c H0 s sc ns x S G gf H) {G' : Hp → Prop} {gf' : List Addr} (p : gf.Perm gf') (g : ∀ H, G H → G' H) (gm : ∀ H H', G' H → HardStay c H H' → (∀ q ∈ gf', ∀ o, H q = some o → H' q = some o) → G' H') : Wd K w c H0 s sc ns x S G' gf' H :=
  ⟨W.dr, W.st, g _ W.g, gm, fun q m => W.gl q (p.mem_iff.mpr m), ((p.append_left x.foot).cons s).nodup_iff.mp W.nd, fun q m => W.fr q (((p.append_left x.foot).cons s).mem_iff.mpr m)⟩
end
end

section
/-! ### comprehensions over a dict's keys, with its values -/
theorem valV_mem {E : List (Key × V)} {kv : Key × V} (h : kv ∈ E) : ∃ v, valV E kv.1 = some v ∧ ∃ q ∈ E, q.2 = v := by
  unfold valV
  cases e : E.find? (fun q => decide (q.1 = kv.1)) with
  | none => have := List.find?_eq_none.mp e kv h; simp at this
  | some q => exact ⟨q.2, rfl, q, List.mem_of_find?_eq_some e, rfl⟩
def vL (E : List (Key × V)) : List V := E.map fun kv => (valV E kv.1).getD .non
theorem vL_len {E : List (Key × V)} : (vL E).length = E.length := List.length_map ..
theorem vL_get {E : List (Key × V)} {i : Nat} {kv : Key × V} (h : E[i]? = some kv) : ∃ v, valV E kv.1 = some v ∧ (vL E)[i]? = some v := by
  obtain ⟨v, hv, _⟩ := valV_mem (List.mem_of_getElem? h)
  exact ⟨v, hv, by unfold vL; rw [List.getElem?_map, h, Option.map_some, hv]; rfl⟩
theorem vL_take {E : List (Key × V)} {i : Nat} {v : V} (h : (vL E)[i]? = some v) : (vL E).take i ++ [v] = (vL E).take (i + 1) := by
  rw [List.take_succ, h]; rfl
def CompI (nd D0 : Addr) (od : Obj) (E : List (Key × V)) (Hs : Hp) (i : Nat) (H1 : Hp) : Prop := H1 nd = some (.frz od (.dK E)) ∧ (∀ b o, b ≠ nd → Hs b = some o → H1 b = some o) ∧ H1 D0 = some (.lst ((vL E).take i))
theorem CompI.done {nd D0 : Addr} {od : Obj} {E : List (Key × V)} {Hs H1 : Hp} (h : CompI nd D0 od E Hs E.length H1) (en : Hs nd = some (.dK E)) (ne : D0 ≠ nd) : Same Hs (upd H1 nd (.dK E)) ∧ upd H1 nd (.dK E) D0 = some (.lst (vL E)) := by
  refine ⟨fun a o e => ?_, ?_⟩
  · by_cases q : a = nd
    · subst q
      rw [en] at e
      cases e
      exact upd_same
    · exact (upd_ne q).trans (h.2.1 a o q e)
  · rw [upd_ne ne, h.2.2, ← vL_len (E := E), List.take_length]
theorem CompI.zero {nd D0 : Addr} {od : Obj} {E : List (Key × V)} {Hs : Hp} (n1 : upd Hs nd (.frz od (.dK E)) D0 = none) : D0 ≠ nd ∧ CompI nd D0 od E Hs 0 (upd (upd Hs nd (.frz od (.dK E))) D0 (.lst [])) := by
  have ne : D0 ≠ nd := fun q => by rw [q, upd_same] at n1; cases n1
  have nH : Hs D0 = none := by rw [upd_ne ne] at n1; exact n1
  exact ⟨ne, (upd_ne (Ne.symm ne)).trans upd_same, fun b o nb e => by rw [upd_ne (ne_of_none e nH), upd_ne nb]; exact e, by rw [upd_same]; rfl⟩
theorem CompI.step {nd D0 : Addr} {od : Obj} {E : List (Key × V)} {Hs H1 : Hp} {i : Nat} {v : V} (h : CompI nd D0 od E Hs i H1) (ne : D0 ≠ nd) (nH : Hs D0 = none) (e : (vL E)[i]? = some v) : CompI nd D0 od E Hs (i + 1) (upd H1 D0 (.lst ((vL E).take i ++ [v]))) :=
  ⟨(upd_ne (Ne.symm ne)).trans h.1, fun b o nb eb => (upd_ne (ne_of_none eb nH)).trans (h.2.1 b o nb eb), by rw [upd_same, vL_take e]⟩
theorem valV_nd : ∀ {E : List (Key × V)} {kv : Key × V}, (E.map (·.1)).Nodup → kv ∈ E → valV E kv.1 = some kv.2
  | [], _, _, h => by cases h
  | p :: r, kv, nd, h => by
    rw [List.map_cons, List.nodup_cons] at nd
    rcases List.mem_cons.mp h with rfl | h
    · exact valV_pos rfl
    · rw [valV_neg (fun e => nd.1 (by rw [e]; exact List.mem_map_of_mem h))]
      exact valV_nd nd.2 h
theorem vL_nd {E : List (Key × V)} (nd : (E.map (·.1)).Nodup) : vL E = E.map (·.2) := by
  unfold vL
  refine List.map_congr_left fun kv h => ?_
  rw [valV_nd nd h]; rfl
end

section
variable {P : Program} {w : World} {K : PySem.W.Frag} {mg : Str → Option Value} {base : Heap} {c : Cs}
/-! ### what objects refer to, their sorts and sizes -/
def refR : RV → Option Nat
  | .ob n => some n
  | _ => none
def txtR : RV → Nat
  | .txt z => z.length
  | _ => 0
def refsR (rs : List RV) : List Nat := rs.filterMap refR
def txtsR (rs : List RV) : Nat := (rs.map txtR).sum
def intsN (ns : List Nat) : List V := ns.map fun n => V.int (n : Nat)
def childT : Th → List Nat
  | .var v => refsR [v]
  | .parts rs => refsR rs
  | .cur rs => refsR rs
  | .table rows => refsR (rows.map fun z => z.2)
  | .inst o fs => o :: refsR (fs.map fun z => z.2)
  | .kin _ p ms => p.toList ++ ms.map fun z => z.2
  | .clo _ _ sc => sc
  | .bound o f => [o, f]
def sizeT : Th → Nat
  | .var v => 1 + txtR v
  | .parts rs => 1 + rs.length + txtsR rs
  | .cur rs => 1 + rs.length + txtsR rs
  | .table rows => 1 + 2 * rows.length + txtsR (rows.map fun z => z.1) + txtsR (rows.map fun z => z.2)
  | .inst _ fs => 1 + fs.length + ((fs.map fun z => z.1.length).sum) + txtsR (fs.map fun z => z.2)
  | .kin n _ ms => 1 + ms.length + n.length
  | _ => 1
def sortT : Th → Str
  | .var _ => "variable"
  | .parts _ => "list"
  | .table _ => "map"
  | .inst _ _ => "instance"
  | .kin _ _ _ => "class"
  | .clo _ _ _ => "function"
  | .bound _ _ => "method"
  | .cur _ => "iterator"
/-- names that differ, and no more than a thousand of anything -/
def SmT : Th → Prop
  | .parts rs => rs.length ≤ 1000
  | .cur rs => rs.length ≤ 1000
  | .table rows => rows.length ≤ 1000
  | .inst _ fs => fs.length ≤ 1000 ∧ (fs.map (·.1)).Nodup
  | .kin _ _ ms => ms.length ≤ 1000 ∧ (ms.map (·.1)).Nodup
  | .clo _ _ sc => sc.length ≤ 1000
  | _ => True
def spNums (K : PySem.W.Frag) (c : Cs) : Sp := fun vs H Q _ => match vs with
  | [.ref l] => ∃ xs rs, (H l = some (.lst xs) ∨ H l = some (.tup xs)) ∧ VsAt c H xs rs ∧ rs.length ≤ 5000 ∧ ∀ p H1, H p = none → Same H H1 → H1 p = some (.lst (intsN (refsR rs))) → Q (.ref p) H1
  | _ => False
def NumI (H : Hp) (D0 : Addr) (rs : List RV) (i : Nat) (H' : Hp) : Prop := Same H H' ∧ H' D0 = some (.lst (intsN (refsR (rs.take i))))
theorem refsR_snoc {rs : List RV} {r : RV} : refsR (rs ++ [r]) = refsR rs ++ (refR r).toList := by
  unfold refsR
  rw [List.filterMap_append]
  cases h : refR r <;> simp [List.filterMap_cons, h]
theorem refsR_len (rs : List RV) : (refsR rs).length ≤ rs.length := List.length_filterMap_le _ _
theorem ok_nums (A : At K mg "numbers_in" "numbers_in" s_numbers_in ["values"]) (T : Txt K mg c) : Has P w K mg base CX0 "numbers_in" 2 ["values"] (spNums K c) := by
  have Sc := sc_numbers_in
  refine has_of A Sc (fun vs H Q E h => ?_) (fun cdv f A outer s H vs Q E hr h => ?_)
  · unfold spNums at h; split at h; rfl; cases h
  · unfold spNums at h
    split at h
    · rename_i l
      obtain ⟨xs, rs, el, hv, hn, h⟩ := h
      have hlx : xs.length = rs.length := Paired.length hv
      refine ⟨_, (pss_one (ps_ret (pe_lc (own := [("value", 1)]) (by rfl) Sc.nd (pi_either (pi_list (fe_var 0)) (pi_tup (fe_var 0))) (blkOk_by (own := [("value", 1)]) (N := ["values", "value"]) (sc := defScope s_numbers_in) (by decide +kernel)) (fun _ _ _ _ _ => (pg_name (i := 1) Sc.nd rfl (.inl rfl))) (fun _ _ _ _ _ => (pts_one (pt_val (pe_callB (call_fIsiO T.kit) (by rfl) T.no_isinstance (by decide +kernel) (pa_cons (fe_var 1) (pa_cons (pe_glob (v := .ref c.Ref) (by rfl) T.mg_Ref rfl) pa_nil)))))) (fun _ _ _ _ _ => (fe_fld (fe_var 1) T.pl_number rfl))))), ?_⟩
      walk_at "fx0"
      refine lc_ ?_
      rcases el with el | el
      · refine .inl ?_
        walk_at "ox"
        refine ⟨⟨_, .inl (.inl el)⟩, fun D0 nD => ?_⟩
        refine lcx_list (xs := xs) (NumI H D0 rs) ⟨same_new nD, upd_same⟩ (fun i H' _ ⟨s1, _⟩ => .inl (.inl (s1 _ _ el))) ?_ ?_
        · rintro i x H' hx ⟨s1, eD⟩
          obtain ⟨r, er, hr1⟩ := paired_get hv hx
          have hlt : (refsR (rs.take i)).length < 100000 := by
            have := refsR_len (rs.take i)
            rw [List.length_take] at this
            omega
          have fin : ∀ H2, NumI H D0 rs (i + 1) H2 ↔ Same H H2 ∧ H2 D0 = some (.lst (intsN (refsR (rs.take i) ++ (refR r).toList))) := fun H2 => by
            unfold NumI
            rw [take_get er, refsR_snoc]
          simp only [fin]
          cases r with
          | ob n =>
            obtain ⟨a, rfl, dx, e1⟩ := hr1
            have e2 := s1 _ _ e1
            repeat (first | walk_at "oxs" | simp only [e2])
            exact ⟨_, eD, len_line' (by unfold intsN; rw [List.length_map]; exact hlt), mk_same s1 nD, by unfold intsN; rw [List.map_append]; rfl⟩

          | bt z => obtain ⟨a, _, z⟩ := hr1; exact z.elim
          | _ =>
            cases hr1
            repeat (walk_at "oxs")
            exact ⟨s1, by rw [eD]; simp [refR]⟩
        · rintro H1 ⟨s1, eD⟩
          rw [hlx, List.take_length] at eD
          exact h D0 H1 nD s1 eD
      · refine .inr ?_
        walk_at "ox"
        refine ⟨⟨_, .inl (.inl el)⟩, fun D0 nD => ?_⟩
        refine lcx_tup (xs := xs) (NumI H D0 rs) ⟨same_new nD, upd_same⟩ (fun i H' _ ⟨s1, _⟩ => .inl (.inl (s1 _ _ el))) ?_ ?_
        · rintro i x H' hx ⟨s1, eD⟩
          obtain ⟨r, er, hr1⟩ := paired_get hv hx
          have hlt : (refsR (rs.take i)).length < 100000 := by
            have := refsR_len (rs.take i)
            rw [List.length_take] at this
            omega
          have fin : ∀ H2, NumI H D0 rs (i + 1) H2 ↔ Same H H2 ∧ H2 D0 = some (.lst (intsN (refsR (rs.take i) ++ (refR r).toList))) := fun H2 => by
            unfold NumI
            rw [take_get er, refsR_snoc]
          simp only [fin]
          cases r with
          | ob n =>
            obtain ⟨a, rfl, dx, e1⟩ := hr1
            have e2 := s1 _ _ e1
            repeat (first | walk_at "oxs" | simp only [e2])
            exact ⟨_, eD, len_line' (by unfold intsN; rw [List.length_map]; exact hlt), mk_same s1 nD, by unfold intsN; rw [List.map_append]; rfl⟩

          | bt z => obtain ⟨a, _, z⟩ := hr1; exact z.elim
          | _ =>
            cases hr1
            repeat (walk_at "oxs")
            exact ⟨s1, by rw [eD]; simp [refR]⟩
        · rintro H1 ⟨s1, eD⟩
          rw [hlx, List.take_length] at eD
          exact h D0 H1 nD s1 eD
    · cases h
theorem keys_nd {ρ : Type} {R : V → ρ → Prop} : ∀ {kvs : List (Key × V)} {fs : List (Str × ρ)}, Paired (fun (kv : Key × V) (f : Str × ρ) => kv.1 = .inr f.1 ∧ R kv.2 f.2) kvs fs → (fs.map (·.1)).Nodup → (kvs.map (·.1)).Nodup ∧ Paired R (kvs.map (·.2)) (fs.map (·.2)) ∧ kvs.map (·.1) = (fs.map (·.1)).map Sum.inr := by
  intro kvs fs h
  induction h with
  | nil => intro _; exact ⟨List.nodup_nil, .nil, rfl⟩
  | @cons kv f kvs fs h t ih =>
    intro nd
    rw [List.map_cons, List.nodup_cons] at nd
    obtain ⟨i1, i2, i3⟩ := ih nd.2
    obtain ⟨h1, h2⟩ := h
    refine ⟨?_, .cons h2 i2, by rw [List.map_cons, List.map_cons, List.map_cons, i3, h1]⟩
    rw [List.map_cons, List.nodup_cons]
    refine ⟨fun m => ?_, i1⟩
    rw [i3, h1] at m
    obtain ⟨z, hz, e⟩ := List.mem_map.mp m
    cases e
    exact nd.1 hz
theorem kv_keyR {ρ : Type} {R : V → ρ → Prop} {kvs : List (Key × V)} {fs : List (Str × ρ)} (h : Paired (fun (kv : Key × V) (f : Str × ρ) => kv.1 = .inr f.1 ∧ R kv.2 f.2) kvs fs) {i : Nat} {k : Key} {v : V} (e : kvs[i]? = some (k, v)) : ∃ z, k = .inr z := by
  obtain ⟨f, _, h1, _⟩ := paired_get h e
  exact ⟨f.1, h1⟩
def valsT : Th → Option (List RV)
  | .table rows => some (rows.map fun z => z.2)
  | .inst _ fs => some (fs.map fun z => z.2)
  | _ => none
def spValsOf (w : World) (c : Cs) : Sp := fun vs H Q _ => match vs with
  | [.ref a] => ∃ b t rs, ThAt w c H a b t ∧ SmT t ∧ valsT t = some rs ∧ ∀ p xs H1, H p = none → Same H H1 → H1 p = some (.lst xs) → VsAt c H1 xs rs → Q (.ref p) H1
  | _ => False
theorem ok_valsof (A : At K mg "values_of" "values_of" s_values_of ["thing"]) (T : Txt K mg c) (M_Table_pairs : HasM P w K mg base CX0 c.Table "pairs" 1 ["self"] (spPairs w c)) : Has P w K mg base CX0 "values_of" 2 ["thing"] (spValsOf w c) := by
  have Sc := sc_values_of
  refine has_of A Sc (fun vs H Q E h => ?_) (fun cdv f A outer s H vs Q E hr h => ?_)
  · unfold spValsOf at h; split at h; rfl; cases h
  · unfold spValsOf at h
    split at h
    · rename_i a
      obtain ⟨b, t, rs, ht, hm, hr1, h⟩ := h
      refine ⟨_, (pss_cons (ps_if (pt_val (pe_callB (call_fIsiO T.kit) (by rfl) T.no_isinstance (by decide +kernel) (pa_cons (fe_var 0) (pa_cons (pe_glob (v := .ref c.Table) (by rfl) T.mg_Table rfl) pa_nil)))) (pss_one (ps_ret (pe_lc (own := [("pair", 2)]) (by rfl) Sc.nd (pi_list (fe_meth0 M_Table_pairs T.cl_Table (hr.mono (by walk_at "rm")) pass0 (fe_var 0))) (blkOk_by (own := [("pair", 2)]) (N := ["thing", "name", "pair"]) (sc := defScope s_values_of) (by decide +kernel)) (fun _ _ _ _ _ => (pg_name (i := 2) Sc.nd rfl (.inl rfl))) (fun _ _ _ _ _ => pts_nil) (fun _ _ _ _ _ => (pe_ix (ix_fxK (K := K) rfl) (fe_var 2) pe_int (fun _ _ => rfl)))))) pss_nil)
      (pss_one (ps_ret (pe_lock (pe_lc (own := [("name", 1)]) (by rfl) Sc.nd (pi_keysK (fe_fld (fe_var 0) T.pl_named rfl)) (blkOk_by (own := [("name", 1)]) (N := ["thing", "name", "pair"]) (sc := defScope s_values_of) (by decide +kernel)) (fun _ _ _ _ _ => (pg_name (i := 1) Sc.nd rfl (.inl rfl))) (fun _ _ _ _ _ => pts_nil) (fun _ _ _ _ _ => (pe_getK (hu_of hr) (fe_fld (fe_var 0) T.pl_named rfl) (fe_var 1) (fun _ _ => rfl)))))))), ?_⟩
      walk_at "fx0"
      cases t with
      | table rows =>
        cases hr1
        obtain ⟨d, rws, rfl, ⟨dx3, g1⟩, g2, g3⟩ := ht
        have hlr : rws.length = rows.length := Paired.length g3
        have hsz : rows.length ≤ 1000 := hm
        repeat (first | walk_at "oxs" | simp only [g1])
        refine lc_ ?_
        repeat (first | walk_at "oxs" | simp only [g1])
        refine ⟨d, rws, ⟨dx3, g1⟩, g2, by omega, fun p ts H1 np s1 ep hts => ?_⟩
        have hlt : ts.length = rws.length := Paired.length hts
        refine ⟨p, rfl, ⟨_, .inl (.inl ep)⟩, fun D0 nD => ?_⟩
        refine lcx_list (xs := ts.map V.ref) (fun i H' => Same H1 H' ∧ H' D0 = some (.lst ((rws.map fun z => z.2).take i))) ⟨same_new nD, upd_same⟩ (fun i H' _ ⟨s2, _⟩ => .inl (.inl (s2 _ _ ep))) ?_ ?_
        · rintro i v H' hi ⟨s2, eD⟩
          rw [List.getElem?_map] at hi
          obtain ⟨t, et, rfl⟩ := Option.map_eq_some_iff.mp hi
          obtain ⟨r, hr1, hr2⟩ := paired_get hts et
          have hi := (List.getElem?_eq_some_iff.mp hr1).1
          walk_at "ox"
          refine ⟨_, rl_t (s2 _ _ hr2), r.2, rfl, _, eD, len_line' (by rw [List.length_take, List.length_map]; omega), mk_same s2 nD, ?_⟩
          rw [take_get (x := r.2) (by rw [List.getElem?_map, hr1]; rfl)]
        · rintro H2 ⟨s2, eD⟩
          rw [List.take_of_length_le (by rw [List.length_map, List.length_map]; omega)] at eD
          refine h D0 _ H2 (s1.free nD) (s1.trans s2) eD ?_
          have : VsAt c H (rws.map fun z => z.2) (rows.map fun z => z.2) := by
            clear h hlr hlt hts hsz hm g1 g2 eD ep
            induction g3 with
            | nil => exact .nil
            | cons a b ih => exact .cons a.2 ih
          exact Paired.mapP this fun _ _ z => z.same (s1.trans s2)
      | inst o fs =>
        cases hr1
        obtain ⟨dx, ra, nd, kvs, rfl, e1, e2, e3, e4⟩ := ht
        obtain ⟨k1, k2, k3⟩ := keys_nd e4 hm.2
        have hlk : kvs.length = fs.length := Paired.length e4
        have hl1 := hm.1
        have nan : a ≠ nd := fun z => by rw [z, e3] at e1; cases e1
        have eaf : ∀ o, upd H nd o a = some (.ins c.Instance dx [("owner", .ref ra), ("named", .ref nd)]) := fun o => (upd_ne nan).trans e1
        repeat (first | walk_at "oxs" | simp only [e1])
        refine ⟨nd, _, e3, trivial, fun od => ?_⟩
        refine lc_ ?_
        repeat (first | walk_at "oxs" | simp only [eaf])
        refine ⟨od, _, rfl, fun D0 nD => ?_⟩
        obtain ⟨neD, z0⟩ := CompI.zero nD
        have nHD : H D0 = none := by rw [upd_ne neD] at nD; exact nD
        refine lcx_keysK (CompI nd D0 od kvs H) z0 (fun i H1 _ q => q.1) ?_ ?_
        · intro i k v H1 hx hI
          obtain ⟨z, rfl⟩ := kv_keyR e4 hx
          obtain ⟨v1, hv1, hv2⟩ := vL_get hx
          have ea1 := hI.2.1 _ _ nan e1
          simp only [kV]
          repeat (first | walk_at "oxs" | simp only [ea1])
          have hi := (List.getElem?_eq_some_iff.mp hx).1
          exact ⟨_, .inr ⟨od, hI.1⟩, v1, hv1, _, hI.2.2, by rw [List.length_take, sizeLine_eq]; omega, hI.step neD nHD hv2⟩
        · intro H1 hI
          refine ⟨hI.1, ?_⟩
          obtain ⟨s12, eD0⟩ := hI.done e3 neD
          rw [vL_nd k1] at eD0
          exact h D0 _ _ nHD s12 eD0 (Paired.mapP k2 fun _ _ z => z.same s12)
      | _ => cases hr1
    · cases h
theorem refsR_ob : ∀ (ns : List Nat), refsR (ns.map RV.ob) = ns
  | [] => rfl
  | n :: ns => by
    have := refsR_ob ns
    unfold refsR at this ⊢
    rw [List.map_cons, List.filterMap_cons]
    simp [refR, this]
theorem refsV_vs {H : Hp} {xs : List V} {ns : List Nat} (h : Paired (IsRefV c H) xs ns) : VsAt c H xs (ns.map RV.ob) := by
  induction h with
  | nil => exact .nil
  | cons a b ih => exact .cons a ih
def parR : Option Nat → RV
  | none => .nul
  | some k => .ob k
def spChildren (w : World) (c : Cs) : Sp := fun vs H Q _ => match vs with
  | [.ref y, .int k] => ∃ x S n t, y = x.y ∧ k = ((n : Nat) : Int) ∧ Sto w c H x S ∧ S.things[n]? = some t ∧ SmT t ∧ ∀ p H1, H p = none → Same H H1 → H1 p = some (.lst (intsN (childT t))) → Q (.ref p) H1
  | _ => False
set_option maxHeartbeats 8000000 in
theorem ok_children (A : At K mg "children_of" "children_of" s_children_of ["store", "number"]) (T : Txt K mg c) (H_numbers_in : Has P w K mg base CX0 "numbers_in" 2 ["values"] (spNums K c)) (H_values_of : Has P w K mg base CX0 "values_of" 2 ["thing"] (spValsOf w c)) : Has P w K mg base CX0 "children_of" 3 ["store", "number"] (spChildren w c) := by
  have Sc := sc_children_of
  refine has_of A Sc (fun vs H Q E h => ?_) (fun cdv f A outer s H vs Q E hr h => ?_)
  · unfold spChildren at h; split at h; rfl; cases h
  · unfold spChildren at h
    split at h
    · rename_i y k
      obtain ⟨x, S, n, t, rfl, rfl, hS, et, hm, h⟩ := h
      obtain ⟨sdx, es⟩ := hS.st
      obtain ⟨a, b, h1, ht, h3⟩ := hS.num et
      have ht0 := ht
      refine ⟨_, (pss_cons (ps_set (i := 2) Sc.nd rfl (.inr rfl) (pe_ix ix_fx (fe_fld (fe_var 0) T.pl_things rfl) (fe_var 1) (fun _ _ => rfl)))
      (pss_cons (ps_if (pt_val (pe_callB (call_fIsiO T.kit) (by rfl) T.no_isinstance (by decide +kernel) (pa_cons (fe_var 2) (pa_cons (pe_glob (v := .ref c.Variable) (by rfl) T.mg_Variable rfl) pa_nil)))) (pss_one (ps_ret (fe_call H_numbers_in (hr.mono (by walk_at "rm")) (by rfl) pass0 (pa_cons (fe_lst (pa_cons (fe_fld (fe_var 2) T.pl_value rfl) pa_nil)) pa_nil)))) pss_nil)
      (pss_cons (ps_if (pt_val (pe_callB (call_fIsiO T.kit) (by rfl) T.no_isinstance (by decide +kernel) (pa_cons (fe_var 2) (pa_cons (pe_glob (v := .ref c.Parts) (by rfl) T.mg_Parts rfl) pa_nil)))) (pss_one (ps_ret (fe_call H_numbers_in (hr.mono (by walk_at "rm")) (by rfl) pass0 (pa_cons (fe_fld (fe_var 2) T.pl_held rfl) pa_nil)))) pss_nil)
      (pss_cons (ps_if (pt_val (pe_callB (call_fIsiO T.kit) (by rfl) T.no_isinstance (by decide +kernel) (pa_cons (fe_var 2) (pa_cons (pe_glob (v := .ref c.Cursor) (by rfl) T.mg_Cursor rfl) pa_nil)))) (pss_one (ps_ret (fe_call H_numbers_in (hr.mono (by walk_at "rm")) (by rfl) pass0 (pa_cons (fe_fld (fe_var 2) T.pl_rest rfl) pa_nil)))) pss_nil)
      (pss_cons (ps_if (pt_val (pe_callB (call_fIsiO T.kit) (by rfl) T.no_isinstance (by decide +kernel) (pa_cons (fe_var 2) (pa_cons (pe_glob (v := .ref c.Table) (by rfl) T.mg_Table rfl) pa_nil)))) (pss_one (ps_ret (fe_call H_numbers_in (hr.mono (by walk_at "rm")) (by rfl) pass0 (pa_cons (fe_call H_values_of (hr.mono (by walk_at "rm")) (by rfl) pass0 (pa_cons (fe_var 2) pa_nil)) pa_nil)))) pss_nil)
      (pss_cons (ps_if (pt_val (pe_callB (call_fIsiO T.kit) (by rfl) T.no_isinstance (by decide +kernel) (pa_cons (fe_var 2) (pa_cons (pe_glob (v := .ref c.Instance) (by rfl) T.mg_Instance rfl) pa_nil)))) (pss_one (ps_ret (pe_op op_fAdd (fe_lst (pa_cons (fe_fld (fe_fld (fe_var 2) T.pl_owner rfl) T.pl_number rfl) pa_nil)) (fe_call H_numbers_in (hr.mono (by walk_at "rm")) (by rfl) pass0 (pa_cons (fe_call H_values_of (hr.mono (by walk_at "rm")) (by rfl) pass0 (pa_cons (fe_var 2) pa_nil)) pa_nil))))) pss_nil)
      (pss_cons (ps_if (pt_val (pe_callB (call_fIsiO T.kit) (by rfl) T.no_isinstance (by decide +kernel) (pa_cons (fe_var 2) (pa_cons (pe_glob (v := .ref c.Kin) (by rfl) T.mg_Kin rfl) pa_nil)))) (pss_one (ps_ret (fe_call H_numbers_in (hr.mono (by walk_at "rm")) (by rfl) pass0 (pa_cons (pe_op op_fAdd (fe_lst (pa_cons (fe_fld (fe_var 2) T.pl_parent rfl) pa_nil)) (pe_lock (pe_lc (own := [("name", 3)]) (by rfl) Sc.nd (pi_keysK (fe_fld (fe_var 2) T.pl_methods rfl)) (blkOk_by (own := [("name", 3)]) (N := ["store", "number", "thing", "name"]) (sc := defScope s_children_of) (by decide +kernel)) (fun _ _ _ _ _ => (pg_name (i := 3) Sc.nd rfl (.inl rfl))) (fun _ _ _ _ _ => pts_nil) (fun _ _ _ _ _ => (pe_getK (hu_of hr) (fe_fld (fe_var 2) T.pl_methods rfl) (fe_var 3) (fun _ _ => rfl)))))) pa_nil)))) pss_nil)
      (pss_cons (ps_if (pt_val (pe_callB (call_fIsiO T.kit) (by rfl) T.no_isinstance (by decide +kernel) (pa_cons (fe_var 2) (pa_cons (pe_glob (v := .ref c.Closure) (by rfl) T.mg_Closure rfl) pa_nil)))) (pss_one (ps_ret (fe_call H_numbers_in (hr.mono (by walk_at "rm")) (by rfl) pass0 (pa_cons (fe_fld (fe_var 2) T.pl_scope rfl) pa_nil)))) pss_nil)
      (pss_one (ps_ret (fe_lst (pa_cons (fe_fld (fe_fld (fe_var 2) T.pl_owner rfl) T.pl_number rfl) (pa_cons (fe_fld (fe_fld (fe_var 2) T.pl_function rfl) T.pl_number rfl) pa_nil))))))))))))), ?_⟩
      walk_at "fx0"
      repeat (first | walk_at "oxs" | simp only [es])
      refine ⟨_, rl_l hS.et, _, h3, ?_⟩
      cases t with
      | var v =>
        obtain ⟨dx, x0, rfl, e1, e2⟩ := ht
        repeat (first | walk_at "oxs" | simp only [e1])
        intro p H1 np s1 ep
        refine ⟨[x0], [v], .inl ep, .cons (e2.same s1) .nil, by simp, fun q H2 nq s2 eq => h q H2 (s1.free nq) (s1.trans s2) eq⟩
      | parts rs =>
        obtain ⟨dx, l, xs, rfl, e1, e2, e3⟩ := ht
        have hm : rs.length ≤ 1000 := hm
        repeat (first | walk_at "oxs" | simp only [e1])
        exact ⟨xs, rs, .inl e2, e3, by omega, fun q H2 nq s2 eq => h q H2 nq s2 eq⟩
      | cur rs =>
        obtain ⟨dx, l, xs, rfl, e1, e2, e3⟩ := ht
        have hm : rs.length ≤ 1000 := hm
        repeat (first | walk_at "oxs" | simp only [e1])
        exact ⟨xs, rs, .inl e2, e3, by omega, fun q H2 nq s2 eq => h q H2 nq s2 eq⟩
      | table rows =>
        obtain ⟨d, rws, rfl, ⟨dx3, e1⟩, g2, g3⟩ := ht
        have hm2 : rows.length ≤ 1000 := hm
        repeat (first | walk_at "oxs" | simp only [e1])
        refine ⟨_, _, _, ht0, hm, rfl, fun p xs H1 np s1 ep hv => ?_⟩
        exact ⟨xs, _, .inl ep, hv, by rw [List.length_map]; omega, fun q H2 nq s2 eq => h q H2 (s1.free nq) (s1.trans s2) eq⟩
      | inst o fs =>
        obtain ⟨dx, ra, nd, kvs, rfl, e1, ⟨rdx, e2⟩, e3, e4⟩ := ht
        repeat (first | walk_at "oxs" | simp only [e1] | simp only [e2])
        intro p H1 np s1 ep
        refine ⟨_, _, _, ht0.same s1, hm, rfl, fun p2 xs H2 np2 s2 ep2 hv => ?_⟩
        refine ⟨xs, _, .inl ep2, hv, by rw [List.length_map]; have := hm.1; omega, fun q H3 nq s3 eq => ?_⟩
        have ep3 := s3 _ _ (s2 _ _ ep)
        simp only [ep3, eq]
        have hlr := refsR_len (fs.map fun z => z.2)
        rw [List.length_map] at hlr
        have hl1 := hm.1
        refine ⟨?_, fun p4 H4 np4 s4 ep4 => h p4 H4 (((s1.trans s2).trans s3).free np4) (((s1.trans s2).trans s3).trans s4) ep4⟩
        unfold intsN
        rw [List.length_map, List.length_singleton, sizeLine_eq]
        omega
      | kin n q ms =>
        obtain ⟨dx, pv, md, kvs, rfl, e1, e2, e3, e4⟩ := ht
        obtain ⟨k1, k2, k3⟩ := keys_nd e4 hm.2
        have hlk : kvs.length = ms.length := Paired.length e4
        have hl1 := hm.1
        repeat (first | walk_at "oxs" | simp only [e1])
        intro p H1 np s1 ep
        have e1' := s1 _ _ e1
        have e3' := s1 _ _ e3
        have nan : a ≠ md := fun z => by rw [z, e3] at e1; cases e1
        have eaf : ∀ o, upd H1 md o a = some (.ins c.Kin dx [("name", .str n), ("parent", pv), ("methods", .ref md)]) := fun o => (upd_ne nan).trans e1'
        repeat (first | walk_at "oxs" | simp only [e1'])
        refine ⟨md, _, e3', trivial, fun od => ?_⟩
        refine lc_ ?_
        repeat (first | walk_at "oxs" | simp only [eaf])
        refine ⟨od, _, rfl, fun D0 nD => ?_⟩
        obtain ⟨neD, z0⟩ := CompI.zero nD
        have nHD : H1 D0 = none := by rw [upd_ne neD] at nD; exact nD
        refine lcx_keysK (CompI md D0 od kvs H1) z0 (fun i H1 _ q => q.1) ?_ ?_
        · intro i k v H2 hx hI
          obtain ⟨z, rfl⟩ := kv_keyR e4 hx
          obtain ⟨v1, hv1, hv2⟩ := vL_get hx
          have ea1 := hI.2.1 _ _ nan e1'
          simp only [kV]
          repeat (first | walk_at "oxs" | simp only [ea1])
          have hi := (List.getElem?_eq_some_iff.mp hx).1
          exact ⟨_, .inr ⟨od, hI.1⟩, v1, hv1, _, hI.2.2, by rw [List.length_take, sizeLine_eq]; omega, hI.step neD nHD hv2⟩
        · intro H2 hI
          refine ⟨hI.1, ?_⟩
          obtain ⟨s12, eD0⟩ := hI.done e3' neD
          rw [vL_nd k1] at eD0
          have ep2 := s12 _ _ ep
          generalize upd H2 md (.dK kvs) = H3 at s12 eD0 ep2 ⊢
          simp only [ep2, eD0]
          refine ⟨by rw [List.length_map, List.length_singleton, sizeLine_eq]; omega, fun p3 H4 np3 s3 ep3 => ?_⟩
          have S3 := (s1.trans s12).trans s3
          have hrv : VsAt c H ([pv] ++ kvs.map (·.2)) ([parR q] ++ (ms.map (·.2)).map RV.ob) := by
            have h2 : VsAt c H (kvs.map (·.2)) ((ms.map (·.2)).map RV.ob) := refsV_vs k2
            cases q with
            | none => exact .cons e2 h2
            | some k => exact .cons e2 h2
          refine ⟨_, _, .inl ep3, Paired.mapP hrv fun _ _ z => z.same S3, ?_, fun p4 H5 np4 s4 ep4 => h p4 H5 (S3.free np4) (S3.trans s4) ?_⟩
          · rw [List.length_append, List.length_map, List.length_map]
            cases q <;> simp <;> omega
          · rw [ep4]
            have : refsR ([parR q] ++ (ms.map (·.2)).map RV.ob) = q.toList ++ ms.map (·.2) := by
              have e := refsR_ob (ms.map (·.2))
              unfold refsR at e ⊢
              rw [List.filterMap_append, e]
              cases q <;> rfl
            rw [this]; rfl
      | clo z1 z2 sc =>
        obtain ⟨dx, tt, xs, rfl, e1, e2, e3⟩ := ht
        have hm : sc.length ≤ 1000 := hm
        repeat (first | walk_at "oxs" | simp only [e1])
        refine ⟨xs, _, .inr e2, refsV_vs e3, by rw [List.length_map]; omega, fun q H2 nq s2 eq => h q H2 nq s2 ?_⟩
        rw [eq, refsR_ob]; rfl

      | bound o f => exact ht.elim
    · cases h
end

section
variable {P : Program} {w : World} {K : PySem.W.Frag} {mg : Str → Option Value} {base : Heap} {c : Cs}
/-! ### chunks -/
def spMkChunk (K : PySem.W.Frag) (c : Cs) : Sp := fun vs H Q _ => match vs with
  | [v1, v2, .ref r] => ∃ rs, Rl K H r rs ∧ ∀ y dx p q H1, H y = none → Same H H1 → H1 y = some (.ins c.Chunk dx [("number", v1), ("wanted", v2), ("rows", .ref p), ("scopes", .ref q)]) → H p = none → H1 p = some (.lst rs) → H q = none → H1 q = some (.lst []) → p ≠ y → q ≠ y → q ≠ p → Q (.ref y) H1
  | _ => False
theorem mk_Chunk (A : AtD K c.Chunk "__init__" "Chunk.__init__" s_Chunk___init__ ["self", "number", "wanted", "rows", "scopes"]) (T : Txt K mg c) : HasCD P w K mg base CX0 c.Chunk "Chunk" 1 ["self", "number", "wanted", "rows", "scopes"] (spMkChunk K c) := by
  have Sc := sc_Chunk___init__
  refine hasCD_of T.mk_Chunk A Sc (fun vs H Q E h => ?_) (fun cdv A outer s f H vs Q E y dx e H0 hr h hy hs h0 hE => ?_)
  · unfold spMkChunk at h; split at h; rfl; cases h
  · unfold spMkChunk at h
    split at h
    · rename_i v1 v2 r
      obtain ⟨rs, hrs, h⟩ := h
      refine ⟨_, (pss_cons (fs_fld (fe_var 0) (fe_var 1) T.pl_number rfl)
      (pss_cons (fs_fld (fe_var 0) (fe_var 2) T.pl_wanted rfl)
      (pss_cons (fs_fld (fe_var 0) (pe_callTy call_fListOf (by rfl) T.no_list (by decide +kernel) (pa_cons (fe_var 3) pa_nil)) T.pl_rows rfl)
      (pss_one (fs_fld (fe_var 0) (pe_callTy call_fListOf (by rfl) T.no_list (by decide +kernel) (pa_cons (fe_var 4) pa_nil)) T.pl_scopes rfl))))), ?_⟩
      walk_at "fx0"
      repeat (first | walk_at "oxs" | simp only [h0])
      refine ⟨rs, rl_keep (mk_same hs hy) hrs, fun p H1 np sp ep => ?_⟩
      have ey1 := sp _ _ upd_same
      have npy : p ≠ y := fun z => by rw [z, upd_same] at np; cases np
      have np0 : H p = none := (mk_same hs hy).free np
      have sm1 : Same H H1 := (mk_same hs hy).trans sp
      repeat (first | walk_at "oxs" | simp only [ey1])
      refine ⟨[], .inr (hE _), fun q H2 nq s2 eq => ?_⟩
      have sm2 : ∀ o, Same H (upd H1 y o) := fun o => mk_same sm1 hy
      have ey2 := s2 _ _ upd_same
      have nqy : q ≠ y := fun z => by rw [z, upd_same] at nq; cases nq
      have ep1 : ∀ o, upd H1 y o p = some (.lst rs) := fun o => by rw [upd_ne npy]; exact ep
      have nqp : q ≠ p := fun z => by rw [z, ep1] at nq; cases nq
      repeat (first | walk_at "oxs" | simp only [ey2])
      refine h y dx p q _ hy (mk_same ((sm2 _).trans s2) hy) upd_same np0 ?_ ((sm2 _).free nq) ?_ npy nqy nqp
      · rw [upd_ne npy]; exact s2 _ _ (ep1 _)
      · rw [upd_ne nqy]; exact eq
    · cases h
end

section
variable {P : Program} {w : World} {K : PySem.W.Frag} {mg : Str → Option Value} {base : Heap} {c : Cs}
/-! ### what is reached, in plain Lean -/
/-- an object's number, the one by which it was found (or -1), the way to it -/
abbrev BE := Nat × Int × List Nat
def keysB (F : List BE) : List Nat := F.map (·.1)
def addOne (p : Int) (wp : List Nat) (F : List BE) (n : Nat) : List BE := if n ∈ keysB F then F else F ++ [(n, p, wp ++ [n])]
def addB (p : Int) (wp : List Nat) (F : List BE) (cs : List Nat) : List BE := cs.foldl (addOne p wp) F
def stepB (ch : Nat → List Nat) (F : List BE) (k : Nat) : List BE := match F[k]? with
  | some e => addB (e.1 : Nat) e.2.2 F (ch e.1)
  | none => F
def bfB (ch : Nat → List Nat) (F0 : List BE) : Nat → List BE
  | 0 => F0
  | k + 1 => stepB ch (bfB ch F0 k) k
def chS (S : SV) (n : Nat) : List Nat := match S.things[n]? with
  | some t => childT t
  | none => []
def startB (ns : List Nat) : List BE := addB (-1) [] [] ns
def bfs (S : SV) (ns : List Nat) : List BE := bfB (chS S) (startB ns) S.things.length
theorem addB_snoc {p : Int} {wp : List Nat} {F : List BE} {cs : List Nat} {n : Nat} : addB p wp F (cs ++ [n]) = addOne p wp (addB p wp F cs) n := by unfold addB; rw [List.foldl_append]; rfl
theorem keysB_app {F : List BE} {n : Nat} {p : Int} {w : List Nat} : keysB (F ++ [(n, p, w)]) = keysB F ++ [n] := by simp [keysB]
/-- what holds of every such list -/
structure OkB (N : Nat) (F : List BE) : Prop where
  nd : (keysB F).Nodup
  lt : ∀ n ∈ keysB F, n < N
  wy : ∀ (i : Nat) (e : BE), F[i]? = some e → (e.2.1 = -1 ∧ e.2.2 = [e.1]) ∨ ∃ (j : Nat) (e' : BE), j < i ∧ F[j]? = some e' ∧ e.2.1 = (e'.1 : Nat) ∧ e.2.2 = e'.2.2 ++ [e.1]
theorem nodup_lt_len {N : Nat} {l : List Nat} (nd : l.Nodup) (lt : ∀ n ∈ l, n < N) : l.length ≤ N := by
  have h : l ⊆ List.range N := fun n m => List.mem_range.mpr (lt n m)
  have := nd.length_le_of_subset h
  rwa [List.length_range] at this
theorem OkB.len {N : Nat} {F : List BE} (h : OkB N F) : F.length ≤ N := by
  have := nodup_lt_len h.nd h.lt
  unfold keysB at this
  rwa [List.length_map] at this
theorem OkB.one {N : Nat} {F : List BE} {p : Int} {wp : List Nat} {n : Nat} (h : OkB N F) (hn : n < N) (hp : (p = -1 ∧ wp = []) ∨ ∃ (j : Nat) (e' : BE), F[j]? = some e' ∧ p = (e'.1 : Nat) ∧ wp = e'.2.2) : OkB N (addOne p wp F n) := by
  unfold addOne
  split
  · exact h
  · rename_i hm
    refine ⟨?_, fun m hm' => ?_, fun i e he => ?_⟩
    · rw [keysB_app, List.nodup_append]
      exact ⟨h.nd, by simp, fun a ha b hb q => hm (by rw [← List.mem_singleton.mp hb, ← q]; exact ha)⟩
    · rw [keysB_app] at hm'
      rcases List.mem_append.mp hm' with m1 | m1
      · exact h.lt m m1
      · rw [List.mem_singleton.mp m1]; exact hn
    · by_cases hi : i < F.length
      · rw [List.getElem?_append_left hi] at he
        rcases h.wy i e he with q | ⟨j, e', h1, h2, h3, h4⟩
        · exact .inl q
        · exact .inr ⟨j, e', h1, by rw [List.getElem?_append_left (by omega)]; exact h2, h3, h4⟩
      · have hi2 : i = F.length := by
          have := (List.getElem?_eq_some_iff.mp he).1
          simp at this; omega
        subst hi2
        rw [List.getElem?_append_right (Nat.le_refl _)] at he
        simp at he
        subst he
        rcases hp with ⟨h1, h2⟩ | ⟨j, e', h1, h2, h3⟩
        · exact .inl ⟨h1, by rw [h2]; rfl⟩
        · have hj := (List.getElem?_eq_some_iff.mp h1).1
          exact .inr ⟨j, e', hj, by rw [List.getElem?_append_left hj]; exact h1, h2, by rw [h3]⟩
theorem addOne_get {p : Int} {wp : List Nat} {F : List BE} {n j : Nat} {e : BE} (h : F[j]? = some e) : (addOne p wp F n)[j]? = some e := by
  unfold addOne
  split
  · exact h
  · rw [List.getElem?_append_left (List.getElem?_eq_some_iff.mp h).1]; exact h
theorem addOne_len {p : Int} {wp : List Nat} {F : List BE} {n : Nat} : F.length ≤ (addOne p wp F n).length := by
  unfold addOne; split
  · exact Nat.le_refl _
  · rw [List.length_append]; omega
theorem OkB.add {N : Nat} {p : Int} {wp : List Nat} : ∀ {cs : List Nat} {F : List BE}, OkB N F → (∀ n ∈ cs, n < N) → ((p = -1 ∧ wp = []) ∨ ∃ (j : Nat) (e' : BE), F[j]? = some e' ∧ p = (e'.1 : Nat) ∧ wp = e'.2.2) → OkB N (addB p wp F cs)
  | [], _, h, _, _ => h
  | n :: cs, F, h, hn, hp => by
    show OkB N (addB p wp (addOne p wp F n) cs)
    refine OkB.add (h.one (hn n (List.mem_cons_self ..)) hp) (fun m hm => hn m (List.mem_cons_of_mem _ hm)) ?_
    rcases hp with q | ⟨j, e', h1, h2⟩
    · exact .inl q
    · exact .inr ⟨j, e', addOne_get h1, h2⟩
theorem addB_len {p : Int} {wp : List Nat} : ∀ {cs : List Nat} {F : List BE}, F.length ≤ (addB p wp F cs).length
  | [], _ => Nat.le_refl _
  | n :: cs, F => Nat.le_trans addOne_len (addB_len (cs := cs) (F := addOne p wp F n))
theorem OkB.start {N : Nat} {ns : List Nat} (h : ∀ n ∈ ns, n < N) : OkB N (startB ns) :=
  OkB.add (F := []) ⟨List.nodup_nil, (fun _ m => absurd m (List.not_mem_nil)), fun i e he => absurd he (by simp)⟩ h (.inl ⟨rfl, rfl⟩)
theorem OkB.step {N : Nat} {ch : Nat → List Nat} {F : List BE} {k : Nat} (h : OkB N F) (hc : ∀ n, n < N → ∀ m ∈ ch n, m < N) : OkB N (stepB ch F k) := by
  unfold stepB
  split
  · rename_i e he
    refine OkB.add h (hc _ (h.lt _ (List.mem_map_of_mem (List.mem_of_getElem? he)))) (.inr ⟨k, e, he, rfl, rfl⟩)
  · exact h
theorem stepB_len {ch : Nat → List Nat} {F : List BE} {k : Nat} : F.length ≤ (stepB ch F k).length := by
  unfold stepB; split
  · exact addB_len
  · exact Nat.le_refl _
theorem OkB.bf {N : Nat} {ch : Nat → List Nat} {F : List BE} (h : OkB N F) (hc : ∀ n, n < N → ∀ m ∈ ch n, m < N) : ∀ k, OkB N (bfB ch F k)
  | 0 => h
  | k + 1 => (OkB.bf h hc k).step hc
theorem bfB_done {ch : Nat → List Nat} {F : List BE} {a : Nat} (h : (bfB ch F a).length ≤ a) : ∀ j, bfB ch F (a + j) = bfB ch F a
  | 0 => rfl
  | j + 1 => by
    show stepB ch (bfB ch F (a + j)) (a + j) = _
    rw [bfB_done h j]
    unfold stepB
    rw [List.getElem?_eq_none (by omega)]
/-- the store is closed: nothing refers to what is not there -/
structure Clo (S : SV) : Prop where
  sm : ∀ t ∈ S.things, SmT t ∧ (childT t).length ≤ 2000
  cl : ∀ n, n < S.things.length → ∀ m ∈ chS S n, m < S.things.length
  le : S.things.length ≤ 60
theorem OkB.bfs {S : SV} {ns : List Nat} (h : Clo S) (hn : ∀ n ∈ ns, n < S.things.length) : OkB S.things.length (bfs S ns) := (OkB.start hn).bf h.cl _
theorem bfs_at {S : SV} {ns : List Nat} {a : Nat} (ha : a ≤ S.things.length) (h : (bfB (chS S) (startB ns) a).length ≤ a) : bfB (chS S) (startB ns) a = bfs S ns := by
  have := bfB_done h (S.things.length - a)
  rw [show a + (S.things.length - a) = S.things.length by omega] at this
  exact this.symm
/-! ### dicts with numbers as keys -/
theorem valV_none {E : List (Key × V)} {k : Key} (h : k ∉ E.map (·.1)) : valV E k = none := by
  unfold valV
  cases e : E.find? (fun q => decide (q.1 = k)) with
  | none => rfl
  | some q =>
    have h1 := List.mem_of_find?_eq_some e
    have h2 := List.find?_some e
    exact absurd (by rw [← of_decide_eq_true h2]; exact List.mem_map_of_mem h1) h
theorem putK_new {E : List (Key × V)} {k : Key} {v : V} (h : k ∉ E.map (·.1)) : putK E k v = E ++ [(k, v)] := by
  unfold putK
  rw [if_neg]
  intro q
  obtain ⟨x, hx, e⟩ := List.any_eq_true.mp q
  exact h (by rw [← of_decide_eq_true e]; exact List.mem_map_of_mem hx)
def kI_ (n : Nat) : Key := Sum.inl ((n : Nat) : Int)
theorem kI_inj {n m : Nat} (h : kI_ n = kI_ m) : n = m := by
  have := Sum.inl.inj h; omega
theorem kI_mem {n : Nat} {l : List Nat} : kI_ n ∈ l.map kI_ ↔ n ∈ l := by
  rw [List.mem_map]
  exact ⟨fun ⟨m, hm, e⟩ => kI_inj e ▸ hm, fun h => ⟨n, h, rfl⟩⟩
theorem kI_nd {l : List Nat} (h : l.Nodup) : (l.map kI_).Nodup := List.Pairwise.map kI_ (fun _ _ hn e => hn (kI_inj e)) h
def kvB (F : List BE) : List (Key × V) := F.map fun e => (kI_ e.1, V.int e.2.1)
theorem kvB_keys {F : List BE} : (kvB F).map (·.1) = (keysB F).map kI_ := by
  unfold kvB keysB; rw [List.map_map, List.map_map]; rfl
theorem kvB_has {F : List BE} (nd : (keysB F).Nodup) (n : Nat) : (valV (kvB F) (kI_ n)).isSome = decide (n ∈ keysB F) := by
  by_cases h : n ∈ keysB F
  · obtain ⟨e, he, rfl⟩ := List.mem_map.mp h
    have m : (kI_ e.1, V.int e.2.1) ∈ kvB F := List.mem_map.mpr ⟨e, he, rfl⟩
    have v := valV_nd (by rw [kvB_keys]; exact kI_nd nd) m
    simp only at v
    rw [v, decide_eq_true h]; rfl
  · rw [valV_none (by rw [kvB_keys]; exact fun m => h (kI_mem.mp m)), decide_eq_false h]; rfl
theorem kvB_put {F : List BE} {n : Nat} {p : Int} {w : List Nat} (h : n ∉ keysB F) : putK (kvB F) (kI_ n) (.int p) = kvB (F ++ [(n, p, w)]) := by
  rw [putK_new (by rw [kvB_keys]; exact fun m => h (kI_mem.mp m))]
  simp [kvB]
theorem intsN_snoc {l : List Nat} {n : Nat} : intsN (l ++ [n]) = intsN l ++ [V.int (n : Nat)] := by simp [intsN]
theorem intsN_len {l : List Nat} : (intsN l).length = l.length := by simp [intsN]
theorem intsN_get {l : List Nat} {i : Nat} {n : Nat} (h : l[i]? = some n) : atI (intsN l) (i : Nat) = some (.int (n : Nat)) := atI_nat (by unfold intsN; rw [List.getElem?_map, h]; rfl)
theorem mem_get {l : List Nat} {i : Nat} {v : V} (h : (intsN l)[i]? = some v) : ∃ n, l[i]? = some n ∧ v = .int (n : Nat) := by
  unfold intsN at h
  rw [List.getElem?_map] at h
  obtain ⟨n, e, rfl⟩ := Option.map_eq_some_iff.mp h
  exact ⟨n, e, rfl⟩
theorem sm_two {H0 H : Hp} {a : Addr} {o : HO} (s : Same H0 H) (n : H0 a = none) : Same H0 (upd H a o) := fun b u e => (upd_ne (ne_of_none e n)).trans (s b u e)
end

section
variable {P : Program} {w : World} {K : PySem.W.Frag} {mg : Str → Option Value} {base : Heap} {c : Cs}
/-! ### the program's search -/
structure FI (H0 : Hp) (D W : Addr) (F : List BE) (H : Hp) : Prop where
  sm : Same H0 H
  nD : H0 D = none
  nW : H0 W = none
  ne : D ≠ W
  eD : H D = some (.dK (kvB F))
  eW : H W = some (.lst (intsN (keysB F)))
theorem FI.same {H0 H H1 : Hp} {D W : Addr} {F : List BE} (h : FI H0 D W F H) (s : Same H H1) : FI H0 D W F H1 := ⟨h.sm.trans s, h.nD, h.nW, h.ne, s _ _ h.eD, s _ _ h.eW⟩
theorem FI.put {H0 H : Hp} {D W : Addr} {F : List BE} {n : Nat} {p : Int} {wp : List Nat} (h : FI H0 D W F H) (hm : n ∉ keysB F) : FI H0 D W (addOne p wp F n) (upd (upd H D (.dK (putK (kvB F) (kI_ n) (.int p)))) W (.lst (intsN (keysB F) ++ [.int (n : Nat)]))) := by
  unfold addOne
  rw [if_neg hm]
  refine ⟨sm_two (sm_two h.sm h.nD) h.nW, h.nD, h.nW, h.ne, ?_, ?_⟩
  · rw [upd_ne h.ne, upd_same, kvB_put hm]
  · rw [upd_same, keysB_app, intsN_snoc]
def spFound (w : World) (c : Cs) : Sp := fun vs H Q _ => match vs with
  | [.ref y, .ref l] => ∃ x S ns, y = x.y ∧ Sto w c H x S ∧ Clo S ∧ H l = some (.lst (intsN ns)) ∧ (∀ n ∈ ns, n < S.things.length) ∧ ∀ p H1, H p = none → Same H H1 → H1 p = some (.dK (kvB (bfs S ns))) → Q (.ref p) H1
  | _ => False
set_option maxHeartbeats 4000000 in
theorem ok_found (A : At K mg "found_from" "found_from" s_found_from ["store", "numbers"]) (T : Txt K mg c) (H_children_of : Has P w K mg base CX0 "children_of" 3 ["store", "number"] (spChildren w c)) : Has P w K mg base CX0 "found_from" 4 ["store", "numbers"] (spFound w c) := by
  have Sc := sc_found_from
  refine has_of A Sc (fun vs H Q E h => ?_) (fun cdv f A outer s H vs Q E hr h => ?_)
  · unfold spFound at h; split at h; rfl; cases h
  · unfold spFound at h
    split at h
    · rename_i y l
      obtain ⟨x, S, ns, rfl, hS, hC, el, hns, h⟩ := h
      refine ⟨_, (pss_cons (ps_set (i := 2) Sc.nd rfl (.inl rfl) fe_dnew)
      (pss_cons (ps_set (i := 3) Sc.nd rfl (.inl rfl) (fe_lst pa_nil))
      (pss_cons (ps_for PassesOwn.never rfl (pi_list (fe_var 1)) (pg_name (i := 4) Sc.nd rfl (.inl rfl)) (pss_one (ps_if (pt_cmp (pc_notinK (hu_of hr) (fe_var 4) (fe_var 2))) (pss_cons (ps_putK (hu_of hr) (fe_var 2) (fe_var 4) (pe_un un_fNeg pe_int) rfl)
      (pss_one (ps_expr (fe_bm PySem.F.plainAttrs_list PySem.F.slot_list_append PySem.F.type_list_append isLst_ty mt_fAppend (fe_var 3) (pa_cons (fe_var 4) pa_nil))))) pss_nil)))
      (pss_cons (ps_set (i := 5) Sc.nd rfl (.inl rfl) pe_int)
      (pss_cons (ps_while PassesOwn.never (pt_cmpR op_fLt (fe_var 5) (pe_callB call_fLen (by rfl) T.no_len (by decide +kernel) (pa_cons (fe_var 3) pa_nil)) (nomark _)) (pss_cons (ps_for PassesOwn.never rfl (pi_list (fe_call H_children_of (hr.mono (by walk_at "rm")) (by rfl) pass0 (pa_cons (fe_var 0) (pa_cons (pe_ix ix_fx (fe_var 3) (fe_var 5) (fun _ _ => rfl)) pa_nil)))) (pg_name (i := 4) Sc.nd rfl (.inl rfl)) (pss_one (ps_if (pt_cmp (pc_notinK (hu_of hr) (fe_var 4) (fe_var 2))) (pss_cons (ps_putK (hu_of hr) (fe_var 2) (fe_var 4) (pe_ix ix_fx (fe_var 3) (fe_var 5) (fun _ _ => rfl)) rfl)
      (pss_one (ps_expr (fe_bm PySem.F.plainAttrs_list PySem.F.slot_list_append PySem.F.type_list_append isLst_ty mt_fAppend (fe_var 3) (pa_cons (fe_var 4) pa_nil))))) pss_nil)))
      (pss_one (ps_aug (i := 5) Sc.nd rfl (.inl rfl) pe_int ip_fAdd))))
      (pss_one (ps_ret (fe_var 2)))))))), ?_⟩
      walk_at "fx0"
      refine seq_ fun N hN => ?_
      try dsimp only
      repeat (walk_at "oxs")
      intro D H1 nD s1 eD
      refine hN _ _ ?_
      clear hN N
      refine seq_ fun N hN => ?_
      try dsimp only
      repeat (walk_at "oxs")
      intro W H2 nW s2 eW
      refine hN _ _ ?_
      clear hN N
      have ne : D ≠ W := fun z => by rw [← z, eD] at nW; cases nW
      have I0 : FI H D W (startB []) H2 := ⟨s1.trans s2, nD, s1.free nW, ne, s2 _ _ eD, eW⟩
      refine seq_ fun N hN => for_ ?_
      try dsimp only
      repeat (walk_at "oxs")
      refine ⟨⟨_, .inl (.inl ((s1.trans s2) _ _ el))⟩, ?_⟩
      refine loop_list (intsN ns) (fun i σ H' => FI H D W (startB (ns.take i)) H' ∧ ∃ v4 v5, σ = [some (.ref x.y), some (.ref l), some (.ref D), some (.ref W), v4, v5]) ⟨I0, _, _, rfl⟩ (fun i σ H' _ ⟨e, _⟩ => .inl (.inl (e.sm _ _ el))) ?_ ?_
      · rintro i v σ H' hv ⟨I, v4, v5, rfl⟩
        obtain ⟨n, en, rfl⟩ := mem_get hv
        have hok : OkB S.things.length (startB (ns.take i)) := OkB.start fun n m => hns n (List.mem_of_mem_take m)
        have hlen := hok.len
        have hle := hC.le
        rw [take_get en]
        unfold startB
        rw [addB_snoc]
        change FI H D W (startB (ns.take i)) H' at I
        have hb := kvB_has hok.nd n
        unfold kI_ at hb
        repeat (first | walk_at "oxs")
        refine ⟨_, .inl I.eD, ?_⟩
        rw [hb]
        by_cases hm : n ∈ keysB (startB (ns.take i))
        · rw [if_neg (by simp [hm])]
          refine ⟨?_, _, rfl⟩
          have e : addOne (-1) [] (addB (-1) [] [] (ns.take i)) n = startB (ns.take i) := by unfold addOne; exact if_pos hm
          rw [e]; exact I
        · rw [if_pos (by simp [hm])]
          have lk : (kvB (startB (ns.take i))).length < sizeLine := by unfold kvB; rw [List.length_map, sizeLine_eq]; omega
          have eW2 : ∀ o, upd H' D o W = some (.lst (intsN (keysB (startB (ns.take i))))) := fun o => (upd_ne (Ne.symm I.ne)).trans I.eW
          refine ⟨_, I.eD, lk, ?_⟩
          simp only [eW2, true_and]
          refine ⟨by rw [intsN_len]; unfold keysB; rw [List.length_map, sizeLine_eq]; omega, I.put hm, _, rfl⟩
      · rintro σ H' ⟨I, v4, v5, rfl⟩
        rw [intsN_len, List.take_length] at I
        refine hN _ _ ?_
        clear hN N
        refine seq_ fun N hN => ?_
        try dsimp only
        repeat (walk_at "oxs")
        refine hN _ _ ?_
        clear hN N
        refine seq_ fun N hN => ?_
        try dsimp only
        refine ⟨fun m σ H' => ∃ (a : Nat) (v : Option V), m + a = S.things.length ∧ a ≤ (bfB (chS S) (startB ns) a).length ∧ FI H D W (bfB (chS S) (startB ns) a) H' ∧ σ = [some (.ref x.y), some (.ref l), some (.ref D), some (.ref W), v, some (.int (a : Nat))], ⟨_, 0, _, rfl, Nat.zero_le _, I, rfl⟩, ?_⟩
        rintro m σ H1 ⟨a, v, ema, hal, J, rfl⟩
        have hok : OkB S.things.length (bfB (chS S) (startB ns) a) := (OkB.start hns).bf hC.cl a
        have hlen := hok.len
        have hle := hC.le
        repeat (walk_at "oxs")
        refine ⟨_, .inl (SqL.of J.eW), ?_⟩
        rw [intsN_len, show (keysB (bfB (chS S) (startB ns) a)).length = (bfB (chS S) (startB ns) a).length from List.length_map ..]
        by_cases hlt : a < (bfB (chS S) (startB ns) a).length
        · rw [if_pos (by omega)]
          refine ⟨_, fun σ' H' z => z, ?_⟩
          obtain ⟨e, ee⟩ : ∃ e, (bfB (chS S) (startB ns) a)[a]? = some e := ⟨_, List.getElem?_eq_getElem hlt⟩
          have en : (keysB (bfB (chS S) (startB ns) a))[a]? = some e.1 := by unfold keysB; rw [List.getElem?_map, ee]; rfl
          have hln : e.1 < S.things.length := hok.lt _ (List.mem_of_getElem? en)
          obtain ⟨th, et⟩ : ∃ th, S.things[e.1]? = some th := ⟨_, List.getElem?_eq_getElem hln⟩
          have hth := hC.sm th (List.mem_of_getElem? et)
          have hch : chS S e.1 = childT th := by unfold chS; rw [et]
          have hst : stepB (chS S) (bfB (chS S) (startB ns) a) a = addB (e.1 : Nat) e.2.2 (bfB (chS S) (startB ns) a) (childT th) := by unfold stepB; rw [ee]; dsimp only; rw [hch]
          have hnx : bfB (chS S) (startB ns) (a + 1) = addB (e.1 : Nat) e.2.2 (bfB (chS S) (startB ns) a) (childT th) := hst
          have hcl : ∀ n ∈ childT th, n < S.things.length := fun n m => hC.cl e.1 hln n (by rw [hch]; exact m)
          refine for_ ?_
          repeat (walk_at "oxs")
          refine ⟨_, rl_l J.eW, _, intsN_get en, ?_⟩
          refine ⟨x, S, e.1, th, rfl, rfl, hS.same J.sm, et, hth.1, fun p H2 np s2 ep => ?_⟩
          have J2 := J.same s2
          have npD : p ≠ D := fun z => by rw [z, J.eD] at np; cases np
          have npW : p ≠ W := fun z => by rw [z, J.eW] at np; cases np
          refine ⟨p, rfl, ⟨_, .inl (.inl ep)⟩, ?_⟩
          refine loop_list (intsN (childT th)) (fun i σ H' => FI H D W (addB (e.1 : Nat) e.2.2 (bfB (chS S) (startB ns) a) ((childT th).take i)) H' ∧ H' p = some (.lst (intsN (childT th))) ∧ ∃ v, σ = [some (.ref x.y), some (.ref l), some (.ref D), some (.ref W), v, some (.int (a : Nat))]) ⟨J2, ep, _, rfl⟩ (fun i σ H' _ ⟨_, e, _⟩ => .inl (.inl e)) ?_ ?_
          · rintro i u σ H' hu ⟨I, ep', v', rfl⟩
            obtain ⟨n, en1, rfl⟩ := mem_get hu
            have hok2 : OkB S.things.length (addB (e.1 : Nat) e.2.2 (bfB (chS S) (startB ns) a) ((childT th).take i)) := OkB.add hok (fun n m => hcl n (List.mem_of_mem_take m)) (.inr ⟨a, e, ee, rfl, rfl⟩)
            have hget : (addB (e.1 : Nat) e.2.2 (bfB (chS S) (startB ns) a) ((childT th).take i))[a]? = some e := by
              have : ∀ {cs : List Nat} {F : List BE}, F[a]? = some e → (addB (e.1 : Nat) e.2.2 F cs)[a]? = some e := by
                intro cs
                induction cs with
                | nil => exact fun h => h
                | cons z cs ih => exact fun h => ih (addOne_get h)
              exact this ee
            rw [take_get en1, addB_snoc]
            generalize addB (e.1 : Nat) e.2.2 (bfB (chS S) (startB ns) a) ((childT th).take i) = F at I hok2 hget ⊢
            have hlen2 := hok2.len
            have hb := kvB_has hok2.nd n
            unfold kI_ at hb
            have ek : (keysB F)[a]? = some e.1 := by unfold keysB; rw [List.getElem?_map, hget]; rfl
            repeat (walk_at "oxs")
            refine ⟨_, .inl I.eD, ?_⟩
            rw [hb]
            by_cases hm : n ∈ keysB F
            · rw [if_neg (by simp [hm])]
              refine ⟨?_, ep', _, rfl⟩
              unfold addOne; rw [if_pos hm]; exact I
            · rw [if_pos (by simp [hm])]
              have lk : (kvB F).length < sizeLine := by unfold kvB; rw [List.length_map, sizeLine_eq]; omega
              have eW2 : ∀ o, upd H' D o W = some (.lst (intsN (keysB F))) := fun o => (upd_ne (Ne.symm I.ne)).trans I.eW
              refine ⟨_, rl_l I.eW, _, intsN_get ek, _, I.eD, lk, ?_⟩
              simp only [eW2, true_and]
              refine ⟨by rw [intsN_len]; unfold keysB; rw [List.length_map, sizeLine_eq]; omega, I.put hm, ?_, _, rfl⟩
              rw [upd_ne npW, upd_ne npD]; exact ep'
          · rintro σ H' ⟨I, ep', v', rfl⟩
            rw [intsN_len, List.take_length, ← hnx] at I
            have l1 : (bfB (chS S) (startB ns) a).length ≤ (bfB (chS S) (startB ns) (a + 1)).length := stepB_len
            repeat (walk_at "oxs")
            exact ⟨S.things.length - (a + 1), by omega, a + 1, by omega, by omega, I, by omega⟩
        · rw [if_neg (by omega)]
          refine hN _ _ ?_
          clear hN N
          have e := bfs_at (S := S) (ns := ns) (a := a) (by omega) (by omega)
          rw [e] at J
          walk_at "ox"
          exact h D H1 nD J.sm J.eD
    · cases h
end

section
variable {P : Program} {w : World} {K : PySem.W.Frag} {mg : Str → Option Value} {base : Heap} {c : Cs}
/-! ### what a machine refers to -/
structure FrV where
  sc : List Nat
  st : List RV
  hn : List Nat
def FrAt (c : Cs) (H : Hp) (f : Addr) (F : FrV) : Prop := ∃ dx v1 v2 t xs sl ys hl ht it zs, H f = some (.ins c.Frame dx [("number", v1), ("at", v2), ("scope", .ref t), ("stack", .ref sl), ("handlers", .ref hl), ("made", .non)]) ∧ H t = some (.tup xs) ∧ RefsAt c H xs F.sc ∧ H sl = some (.lst ys) ∧ VsAt c H ys F.st ∧ H hl = some (.lst [.ref ht]) ∧ H ht = some (.tup [.int 0, .ref it]) ∧ H it = some (.tup zs) ∧ RefsAt c H zs F.hn
theorem RefsAt.same {H H' : Hp} {xs : List V} {ns : List Nat} (h : RefsAt c H xs ns) (s : Same H H') : RefsAt c H' xs ns := Paired.mapP h fun _ _ z => z.hs (.same s)
theorem FrAt.same {H H' : Hp} {f : Addr} {F : FrV} (h : FrAt c H f F) (s : Same H H') : FrAt c H' f F := by
  obtain ⟨dx, v1, v2, t, xs, sl, ys, hl, ht, it, zs, e1, e2, e3, e4, e5, e6, e7, e8, e9⟩ := h
  exact ⟨dx, v1, v2, t, xs, sl, ys, hl, ht, it, zs, s _ _ e1, s _ _ e2, e3.same s, s _ _ e4, e5.hs (.same s), s _ _ e6, s _ _ e7, s _ _ e8, e9.same s⟩
def IsFr (c : Cs) (H : Hp) (v : V) (F : FrV) : Prop := ∃ f, v = .ref f ∧ FrAt c H f F
structure Mac (c : Cs) (H : Hp) (y st fl : Addr) (Fs : List FrV) : Prop where
  ey : ∃ dx v1 v2 v3 v4, H y = some (.ins c.Machine dx [("store", .ref st), ("steps", v1), ("frames", .ref fl), ("state", v2), ("thrown", .non), ("places", v3), ("_code", v4)])
  fr : ∃ fs, H fl = some (.lst fs) ∧ Paired (IsFr c H) fs Fs
theorem Mac.same {H H' : Hp} {y st fl : Addr} {Fs : List FrV} (h : Mac c H y st fl Fs) (s : Same H H') : Mac c H' y st fl Fs := by
  obtain ⟨⟨dx, v1, v2, v3, v4, e⟩, fs, e2, e3⟩ := h
  exact ⟨⟨dx, v1, v2, v3, v4, s _ _ e⟩, fs, s _ _ e2, Paired.mapP e3 fun _ _ ⟨f, q, z⟩ => ⟨f, q, z.same s⟩⟩
def SmF (F : FrV) : Prop := F.sc.length ≤ 10 ∧ F.st.length ≤ 10 ∧ F.hn.length ≤ 10
def oneF (F : FrV) : List Nat := F.sc ++ refsR F.st ++ F.hn
def rootsF (Fs : List FrV) : List Nat := 0 :: Fs.flatMap oneF
def scopesF (Fs : List FrV) : List Nat := Fs.flatMap fun F => F.sc
theorem flat_len {α β : Type} {f : α → List β} {n : Nat} : ∀ {l : List α}, (∀ a ∈ l, (f a).length ≤ n) → (l.flatMap f).length ≤ n * l.length
  | [], _ => by simp
  | a :: l, h => by
    have h1 := h a (List.mem_cons_self ..)
    have h2 := flat_len (l := l) fun b m => h b (List.mem_cons_of_mem _ m)
    rw [List.flatMap_cons, List.length_append, List.length_cons, Nat.mul_succ]
    omega
theorem flat_snoc {α β : Type} {f : α → List β} {l : List α} {i : Nat} {a : α} (h : l[i]? = some a) : (l.take (i + 1)).flatMap f = (l.take i).flatMap f ++ f a := by
  rw [take_get h, List.flatMap_append]; simp
theorem take_len {α : Type} (l : List α) (i : Nat) : (l.take i).length ≤ l.length := Nat.le_trans (Nat.le_of_eq (List.length_take ..)) (Nat.min_le_right _ _)
theorem SmF.one {F : FrV} (h : SmF F) : (oneF F).length ≤ 30 := by
  have := refsR_len F.st
  obtain ⟨h1, h2, h3⟩ := h
  unfold oneF
  rw [List.length_append, List.length_append]; omega
def spRoots (c : Cs) : Sp := fun vs H Q _ => match vs with
  | [.ref y] => ∃ st fl Fs, Mac c H y st fl Fs ∧ Fs.length ≤ 4 ∧ (∀ F ∈ Fs, SmF F) ∧ ∀ p H1, H p = none → Same H H1 → H1 p = some (.lst (intsN (rootsF Fs))) → Q (.ref p) H1
  | _ => False
theorem intsN_app {a b : List Nat} : intsN (a ++ b) = intsN a ++ intsN b := by unfold intsN; rw [List.map_append]
set_option maxHeartbeats 4000000 in
theorem ok_roots (A : At K mg "roots_of" "roots_of" s_roots_of ["machine"]) (T : Txt K mg c) (H_numbers_in : Has P w K mg base CX0 "numbers_in" 2 ["values"] (spNums K c)) : Has P w K mg base CX0 "roots_of" 3 ["machine"] (spRoots c) := by
  have Sc := sc_roots_of
  refine has_of A Sc (fun vs H Q E h => ?_) (fun cdv f A outer s H vs Q E hr h => ?_)
  · unfold spRoots at h; split at h; rfl; cases h
  · unfold spRoots at h
    split at h
    · rename_i y
      obtain ⟨st, fl, Fs, M, hl4, hsm, h⟩ := h
      obtain ⟨dx, u1, u2, u3, u4, ey⟩ := M.ey
      obtain ⟨fs, efl, hfs⟩ := M.fr
      have lfs : fs.length = Fs.length := Paired.length hfs
      refine ⟨_, (pss_cons (ps_set (i := 1) Sc.nd rfl (.inl rfl) (fe_lst (pa_cons pe_int pa_nil)))
      (pss_cons (ps_for PassesOwn.never rfl (pi_list (fe_fld (fe_var 0) T.pl_frames rfl)) (pg_name (i := 2) Sc.nd rfl (.inl rfl)) (pss_cons (ps_expr (fe_bm PySem.F.plainAttrs_list PySem.F.slot_list_extend PySem.F.type_list_extend isLst_ty mt_fExtend (fe_var 1) (pa_cons (fe_call H_numbers_in (hr.mono (by walk_at "rm")) (by rfl) pass0 (pa_cons (fe_fld (fe_var 2) T.pl_scope rfl) pa_nil)) pa_nil)))
      (pss_cons (ps_expr (fe_bm PySem.F.plainAttrs_list PySem.F.slot_list_extend PySem.F.type_list_extend isLst_ty mt_fExtend (fe_var 1) (pa_cons (fe_call H_numbers_in (hr.mono (by walk_at "rm")) (by rfl) pass0 (pa_cons (fe_fld (fe_var 2) T.pl_stack rfl) pa_nil)) pa_nil)))
      (pss_cons (ps_for PassesOwn.never rfl (pi_list (fe_fld (fe_var 2) T.pl_handlers rfl)) (pg_name (i := 3) Sc.nd rfl (.inl rfl)) (pss_one (ps_expr (fe_bm PySem.F.plainAttrs_list PySem.F.slot_list_extend PySem.F.type_list_extend isLst_ty mt_fExtend (fe_var 1) (pa_cons (fe_call H_numbers_in (hr.mono (by walk_at "rm")) (by rfl) pass0 (pa_cons (pe_ix ix_fx (fe_var 3) pe_int (fun _ _ => rfl)) pa_nil)) pa_nil)))))
      (pss_one (ps_expr (fe_bm PySem.F.plainAttrs_list PySem.F.slot_list_extend PySem.F.type_list_extend isLst_ty mt_fExtend (fe_var 1) (pa_cons (fe_call H_numbers_in (hr.mono (by walk_at "rm")) (by rfl) pass0 (pa_cons (fe_lst (pa_cons (fe_fld (fe_var 2) T.pl_made rfl) pa_nil)) pa_nil)) pa_nil))))))))
      (pss_cons (ps_expr (fe_bm PySem.F.plainAttrs_list PySem.F.slot_list_extend PySem.F.type_list_extend isLst_ty mt_fExtend (fe_var 1) (pa_cons (fe_call H_numbers_in (hr.mono (by walk_at "rm")) (by rfl) pass0 (pa_cons (fe_lst (pa_cons (fe_fld (fe_var 0) T.pl_thrown rfl) pa_nil)) pa_nil)) pa_nil)))
      (pss_one (ps_ret (fe_var 1)))))), ?_⟩
      walk_at "fx0"
      refine seq_ fun N hN => ?_
      try dsimp only
      repeat (walk_at "oxs")
      intro D H1 nD s1 eD
      refine hN _ _ ?_
      clear hN N
      have ey1 := s1 _ _ ey
      refine seq_ fun N hN => for_ ?_
      try dsimp only
      repeat (first | walk_at "oxs" | simp only [ey1])
      refine ⟨⟨_, .inl (.inl (s1 _ _ efl))⟩, ?_⟩
      refine loop_list fs (fun i σ H' => Same H H' ∧ H' D = some (.lst (intsN (rootsF (Fs.take i)))) ∧ ∃ v2 v3, σ = [some (.ref y), some (.ref D), v2, v3]) ⟨s1, eD, _, _, rfl⟩ (fun i σ H' _ ⟨s, _⟩ => .inl (.inl (s _ _ efl))) ?_ ?_
      · rintro i v σ H' hv ⟨s2, eD2, v2, v3, rfl⟩
        obtain ⟨F, eF, f, rfl, hF⟩ := paired_get hfs hv
        have hsF := hsm F (List.mem_of_getElem? eF)
        have fin : intsN (rootsF (Fs.take (i + 1))) = intsN (rootsF (Fs.take i)) ++ intsN F.sc ++ intsN (refsR F.st) ++ intsN F.hn := by
          unfold rootsF
          rw [flat_snoc eF]
          unfold oneF
          rw [← intsN_app, ← intsN_app, ← intsN_app]
          simp
        rw [fin]
        have hlr : (intsN (rootsF (Fs.take i))).length ≤ 200 := by
          have h1 := flat_len (f := oneF) (n := 30) (l := Fs.take i) fun F m => (hsm F (List.mem_of_mem_take m)).one
          have h2 := take_len Fs i
          rw [intsN_len]; unfold rootsF; rw [List.length_cons]; omega
        generalize intsN (rootsF (Fs.take i)) = R at eD2 hlr ⊢
        have nDH : ∀ {q : Addr} {o : HO}, H q = some o → q ≠ D := fun e z => by rw [z, nD] at e; cases e
        have hF0 := hF
        obtain ⟨fdx, w1, w2, t, xs, sl, ys, hl, ht, it, zs, e1, e2, e3, e4, e5, e6, e7, e8, e9⟩ := hF
        obtain ⟨g1, g2, g3⟩ := hsF
        have e1' := s2 _ _ e1
        try dsimp only
        refine seq_ fun N1 hN1 => ?_
        try dsimp only
        repeat (first | walk_at "oxs" | simp only [eD2, e1'])
        refine ⟨xs, _, .inr (s2 _ _ e2), refsV_vs (e3.same s2), by rw [List.length_map]; omega, fun p H3 np s3 ep => ?_⟩
        have eD3 := s3 _ _ eD2
        rw [refsR_ob] at ep
        simp only [eD3, ep]
        refine ⟨by rw [intsN_len, sizeLine_eq]; omega, hN1 _ _ ?_⟩
        clear hN1 N1
        have q1 : H p = none := s2.free np
        have S3 : Same H (upd H3 D (.lst (R ++ intsN F.sc))) := sm_two (s2.trans s3) nD
        generalize hH : upd H3 D (.lst (R ++ intsN F.sc)) = H4 at S3 ⊢
        have eD4 : H4 D = some (.lst (R ++ intsN F.sc)) := by rw [← hH, upd_same]
        clear hH
        have e1'' := S3 _ _ e1
        refine seq_ fun N1 hN1 => ?_
        try dsimp only
        repeat (first | walk_at "oxs" | simp only [eD4, e1''])
        refine ⟨ys, _, .inl (S3 _ _ e4), e5.hs (.same S3), by omega, fun p2 H5 np2 s5 ep2 => ?_⟩
        have eD5 := s5 _ _ eD4
        simp only [eD5, ep2]
        have lr := refsR_len F.st
        refine ⟨by rw [intsN_len, List.length_append, intsN_len, sizeLine_eq]; omega, hN1 _ _ ?_⟩
        clear hN1 N1
        have S5 : Same H (upd H5 D (.lst (R ++ intsN F.sc ++ intsN (refsR F.st)))) := sm_two (S3.trans s5) nD
        generalize hH : upd H5 D (.lst (R ++ intsN F.sc ++ intsN (refsR F.st))) = H6 at S5 ⊢
        have eD6 : H6 D = some (.lst (R ++ intsN F.sc ++ intsN (refsR F.st))) := by rw [← hH, upd_same]
        clear hH
        have e1a := S5 _ _ e1
        refine seq_ fun N1 hN1 => for_ ?_
        try dsimp only
        repeat (first | walk_at "oxs" | simp only [e1a])
        refine ⟨⟨_, .inl (.inl (S5 _ _ e6))⟩, ?_⟩
        refine loop_list [.ref ht] (fun j σ H' => Same H H' ∧ H' D = some (.lst (R ++ intsN F.sc ++ intsN (refsR F.st) ++ (if j = 0 then [] else intsN F.hn))) ∧ ∃ v3, σ = [some (.ref y), some (.ref D), some (.ref f), v3]) ⟨S5, by simpa using eD6, _, rfl⟩ (fun i σ H' _ ⟨s, _⟩ => .inl (.inl (s _ _ e6))) ?_ ?_
        · rintro j v σ H' hv ⟨s7, eD7, v3', rfl⟩
          match j, hv with
          | 0, hv =>
            cases hv
            rw [if_pos rfl, List.append_nil] at eD7
            repeat (first | walk_at "oxs" | simp only [eD7])
            refine ⟨_, rl_t (s7 _ _ e7), _, atI_nat (j := 1) rfl, ?_⟩
            refine ⟨zs, _, .inr (s7 _ _ e8), refsV_vs (e9.same s7), by rw [List.length_map]; omega, fun p H8 np s8 ep => ?_⟩
            rw [refsR_ob] at ep
            have eD8 := s8 _ _ eD7
            simp only [eD8, ep]
            refine ⟨by simp only [intsN_len, List.length_append, sizeLine_eq]; omega, sm_two (s7.trans s8) nD, by first | exact upd_same | (rw [upd_same]; simp; done), _, rfl⟩
          | j + 1, hv => simp at hv
        · rintro σ H' ⟨s7, eD7, v3', rfl⟩
          rw [if_neg (by simp)] at eD7
          refine hN1 _ _ ?_
          clear hN1 N1
          have e1b := s7 _ _ e1
          repeat (first | walk_at "oxs" | simp only [eD7, e1b])
          intro p H8 np s8 ep
          refine ⟨[.non], [.nul], .inl ep, .cons rfl .nil, by decide, fun p9 H9 np9 s9 ep9 => ?_⟩
          have eD9 := s9 _ _ (s8 _ _ eD7)
          have e0 : intsN (refsR [RV.nul]) = [] := rfl
          rw [e0] at ep9
          simp only [eD9, ep9]
          refine ⟨by simp only [intsN_len, List.length_append, List.length_nil, sizeLine_eq]; omega, sm_two ((s7.trans s8).trans s9) nD, by first | exact upd_same | (rw [upd_same]; simp; done), _, rfl⟩
      · rintro σ H' ⟨s2, eD2, v2, v3, rfl⟩
        rw [lfs, List.take_length] at eD2
        refine hN _ _ ?_
        clear hN N
        have ey2 := s2 _ _ ey
        have hlr : (intsN (rootsF Fs)).length ≤ 200 := by
          have h1 := flat_len (f := oneF) (n := 30) (l := Fs) fun F m => (hsm F m).one
          rw [intsN_len]; unfold rootsF; rw [List.length_cons]; omega
        refine seq_ fun N hN => ?_
        try dsimp only
        repeat (first | walk_at "oxs" | simp only [eD2, ey2])
        intro p H8 np s8 ep
        refine ⟨[.non], [.nul], .inl ep, .cons rfl .nil, by decide, fun p9 H9 np9 s9 ep9 => ?_⟩
        have eD9 := s9 _ _ (s8 _ _ eD2)
        have e0 : intsN (refsR [RV.nul]) = [] := rfl
        rw [e0] at ep9
        simp only [eD9, ep9]
        refine ⟨by rw [List.length_nil, sizeLine_eq]; omega, hN _ _ ?_⟩
        walk_at "ox"
        exact h D _ nD (sm_two ((s2.trans s8).trans s9) nD) upd_same
    · cases h
end

section
variable {P : Program} {w : World} {K : PySem.W.Frag} {mg : Str → Option Value} {base : Heap} {c : Cs}
/-! ### reached, lost, ways -/
def inK (N : Nat) (ks : List Nat) : List Nat := (List.range N).filter fun n => decide (n ∈ ks)
def outK (N : Nat) (ks : List Nat) : List Nat := (List.range N).filter fun n => !decide (n ∈ ks)
theorem sort_ints {N : Nat} {ks : List Nat} {ys : List Int} (nd : ks.Nodup) (lt : ∀ n ∈ ks, n < N) (hp : ys.Perm (ks.map fun n => ((n : Nat) : Int))) (hs : ys.Pairwise (· ≤ ·)) : ys.map V.int = intsN (inK N ks) := by
  have e : ys = (inK N ks).map fun n => ((n : Nat) : Int) := by
    refine List.Perm.eq_of_pairwise (le := (· ≤ ·)) (fun a b _ _ h1 h2 => Int.le_antisymm h1 h2) hs ?_ (hp.trans (List.Perm.map _ ?_))
    · have : (inK N ks).Pairwise (· < ·) := List.Pairwise.filter _ List.pairwise_lt_range
      exact List.Pairwise.map _ (fun a b h => by omega) this
    · refine (List.perm_ext_iff_of_nodup nd (List.Pairwise.filter _ List.nodup_range)).mpr fun n => ?_
      rw [List.mem_filter, List.mem_range, decide_eq_true_eq]
      exact ⟨fun h => ⟨lt n h, h⟩, fun h => h.2⟩
  rw [e]
  unfold intsN
  rw [List.map_map]; rfl
def spReached (w : World) (c : Cs) : Sp := fun vs H Q _ => match vs with
  | [.ref y, .ref l] => ∃ x S ns, y = x.y ∧ Sto w c H x S ∧ Clo S ∧ H l = some (.lst (intsN ns)) ∧ (∀ n ∈ ns, n < S.things.length) ∧ ∀ p H1, H p = none → Same H H1 → H1 p = some (.lst (intsN (inK S.things.length (keysB (bfs S ns))))) → Q (.ref p) H1
  | _ => False
theorem ok_reached (A : At K mg "reached_from" "reached_from" s_reached_from ["store", "numbers"]) (T : Txt K mg c) (H_found_from : Has P w K mg base CX0 "found_from" 4 ["store", "numbers"] (spFound w c)) : Has P w K mg base CX0 "reached_from" 5 ["store", "numbers"] (spReached w c) := by
  have Sc := sc_reached_from
  refine has_of A Sc (fun vs H Q E h => ?_) (fun cdv f A outer s H vs Q E hr h => ?_)
  · unfold spReached at h; split at h; rfl; cases h
  · unfold spReached at h
    split at h
    · rename_i y l
      obtain ⟨x, S, ns, rfl, hS, hC, el, hns, h⟩ := h
      refine ⟨_, (pss_one (ps_ret (pe_callB (call_fSortD rfl) (by rfl) T.no_sorted (by decide +kernel) (pa_cons (fe_call H_found_from (hr.mono (by walk_at "rm")) (by rfl) pass0 (pa_cons (fe_var 0) (pa_cons (fe_var 1) pa_nil))) pa_nil)))), ?_⟩
      walk_at "fx0"
      repeat (walk_at "oxs")
      refine ⟨x, S, ns, rfl, hS, hC, el, hns, fun p H1 np s1 ep => ?_⟩
      have ok := OkB.bfs hC hns
      have hl := ok.len
      have hle := hC.le
      refine ⟨_, .inl ep, (keysB (bfs S ns)).map fun n => ((n : Nat) : Int), ?_, ?_, fun ys q hp hs nq => ?_⟩
      · rw [kvB_keys, List.map_map]; rfl
      · unfold keysB; rw [List.length_map, List.length_map]; omega
      · exact h q _ (s1.free nq) (s1.trans (same_new nq)) (by rw [upd_same, sort_ints ok.nd ok.lt hp hs])
    · cases h
def spLost (w : World) (c : Cs) : Sp := fun vs H Q _ => match vs with
  | [.ref y] => ∃ x S fl Fs, Mac c H y x.y fl Fs ∧ Fs.length ≤ 4 ∧ (∀ F ∈ Fs, SmF F) ∧ Sto w c H x S ∧ Clo S ∧ (∀ n ∈ rootsF Fs, n < S.things.length) ∧ ∀ p H1, H p = none → Same H H1 → H1 p = some (.lst (intsN (outK S.things.length (keysB (bfs S (rootsF Fs)))))) → Q (.ref p) H1
  | _ => False
theorem filt_snoc {N i : Nat} {f : Nat → Bool} : (List.range (i + 1)).filter f = (List.range i).filter f ++ (if f i = true then [i] else []) := by
  rw [List.range_succ, List.filter_append, List.filter_cons, List.filter_nil]
theorem filt_len {i : Nat} {f : Nat → Bool} : ((List.range i).filter f).length ≤ i := by
  have := List.length_filter_le f (List.range i)
  rwa [List.length_range] at this
set_option maxHeartbeats 4000000 in
theorem ok_lost (A : At K mg "lost_objects" "lost_objects" s_lost_objects ["machine"]) (T : Txt K mg c) (H_found_from : Has P w K mg base CX0 "found_from" 4 ["store", "numbers"] (spFound w c)) (H_roots_of : Has P w K mg base CX0 "roots_of" 3 ["machine"] (spRoots c)) : Has P w K mg base CX0 "lost_objects" 5 ["machine"] (spLost w c) := by
  have Sc := sc_lost_objects
  refine has_of A Sc (fun vs H Q E h => ?_) (fun cdv f A outer s H vs Q E hr h => ?_)
  · unfold spLost at h; split at h; rfl; cases h
  · unfold spLost at h
    split at h
    · rename_i y
      obtain ⟨x, S, fl, Fs, M, hl4, hsm, hS, hC, hns, h⟩ := h
      obtain ⟨dx, u1, u2, u3, u4, ey⟩ := M.ey
      refine ⟨_, (pss_cons (ps_set (i := 1) Sc.nd rfl (.inr rfl) (fe_call H_found_from (hr.mono (by walk_at "rm")) (by rfl) pass0 (pa_cons (fe_fld (fe_var 0) T.pl_store rfl) (pa_cons (fe_call H_roots_of (hr.mono (by walk_at "rm")) (by rfl) pass0 (pa_cons (fe_var 0) pa_nil)) pa_nil))))
      (pss_one (ps_ret (pe_lc (own := [("number", 2)]) (by rfl) Sc.nd (pi_range1 (by rfl) T.no_range (pa_cons (pe_callB call_fLen (by rfl) T.no_len (by decide +kernel) (pa_cons (fe_fld (fe_fld (fe_var 0) T.pl_store rfl) T.pl_things rfl) pa_nil)) pa_nil)) (blkOk_by (own := [("number", 2)]) (N := ["machine", "found", "number"]) (sc := defScope s_lost_objects) (by decide +kernel)) (fun _ _ _ _ _ => (pg_name (i := 2) Sc.nd rfl (.inl rfl))) (fun _ _ _ _ _ => (pts_one (pt_cmp (pc_notinK (hu_of hr) (fe_var 2) (fe_var 1))))) (fun _ _ _ _ _ => (fe_var 2)))))), ?_⟩
      walk_at "fx0"
      refine seq_ fun N hN => ?_
      try dsimp only
      repeat (first | walk_at "oxs" | simp only [ey])
      refine ⟨_, _, Fs, M, hl4, hsm, fun l H1 nl s1 el => ?_⟩
      refine ⟨x, S, _, rfl, hS.same s1, hC, el, hns, fun D H2 nD s2 eD => hN _ _ ?_⟩
      clear hN N
      have S2 := s1.trans s2
      obtain ⟨sdx, es⟩ := hS.st
      have ok := OkB.bfs hC hns
      have hlx : x.L.length = S.things.length := Paired.length hS.th
      have hle := hC.le
      have ey2 := S2 _ _ ey
      have es2 := S2 _ _ es
      repeat (walk_at "oxs")
      refine lc_ ?_
      repeat (first | walk_at "oxs" | simp only [ey2, es2])
      refine ⟨_, rl_l (S2 _ _ hS.et), ?_⟩
      rw [List.length_map, hlx]
      refine ⟨by omega, by omega, fun p np => ?_⟩
      have npH : H p = none := S2.free np
      refine lcx_range (fun i H' => Same H2 H' ∧ H' p = some (.lst (intsN (outK i (keysB (bfs S (rootsF Fs))))))) ⟨same_new np, upd_same⟩ ?_ ?_
      · rintro i H' hi ⟨s3, ep⟩
        have hb := kvB_has ok.nd i
        unfold kI_ at hb
        walk_at "ox"
        repeat (walk_at "oxs")
        refine ⟨_, .inl (s3 _ _ eD), ?_⟩
        rw [hb]
        unfold outK at ep ⊢
        rw [filt_snoc (N := 0)]
        by_cases hm : i ∈ keysB (bfs S (rootsF Fs))
        · rw [if_neg (by simp [hm])]
          refine ⟨s3, ?_⟩
          rw [ep]; simp [hm]
        · rw [if_pos (by simp [hm])]
          have hfl := filt_len (i := i) (f := fun n => !decide (n ∈ keysB (bfs S (rootsF Fs))))
          refine ⟨_, ep, by rw [intsN_len, sizeLine_eq]; omega, sm_two s3 np, ?_⟩
          rw [if_pos (by simp [hm]), intsN_snoc]
      · rintro H' ⟨s3, ep⟩
        exact h p H' npH (S2.trans s3) ep
    · cases h
end

section
variable {P : Program} {w : World} {K : PySem.W.Frag} {mg : Str → Option Value} {base : Heap} {c : Cs}
def wayOf (F : List BE) (n : Nat) : Option (List Nat) := (F.find? fun e => decide (e.1 = n)).map fun e => e.2.2
theorem way_none {F : List BE} {n : Nat} (h : n ∉ keysB F) : wayOf F n = none := by
  unfold wayOf
  rw [List.find?_eq_none.mpr fun e he q => h (by rw [← of_decide_eq_true q]; exact List.mem_map_of_mem he)]; rfl
theorem way_some {F : List BE} {n : Nat} (h : n ∈ keysB F) : ∃ (i : Nat) (e : BE), F[i]? = some e ∧ e.1 = n ∧ wayOf F n = some e.2.2 := by
  unfold wayOf
  cases q : F.find? (fun e => decide (e.1 = n)) with
  | none =>
    obtain ⟨e, he, rfl⟩ := List.mem_map.mp h
    exact absurd (decide_eq_true rfl) (List.find?_eq_none.mp q e he)
  | some e =>
    obtain ⟨i, hi, ei⟩ := List.getElem_of_mem (List.mem_of_find?_eq_some q)
    have q2 := List.find?_some q
    exact ⟨i, e, by rw [List.getElem?_eq_getElem hi, ei], by simpa using q2, rfl⟩
theorem kvB_val {F : List BE} (nd : (keysB F).Nodup) {i : Nat} {e : BE} (h : F[i]? = some e) : valV (kvB F) (.inl ((e.1 : Nat) : Int)) = some (.int e.2.1) := by
  have m : (kI_ e.1, V.int e.2.1) ∈ kvB F := List.mem_map.mpr ⟨e, List.mem_of_getElem? h, rfl⟩
  exact valV_nd (by rw [kvB_keys]; exact kI_nd nd) m
def spWay (w : World) (c : Cs) : Sp := fun vs H Q _ => match vs with
  | [.ref y, .int k] => ∃ x S fl Fs, ∃ n : Nat, k = (n : Nat) ∧ Mac c H y x.y fl Fs ∧ Fs.length ≤ 4 ∧ (∀ F ∈ Fs, SmF F) ∧ Sto w c H x S ∧ Clo S ∧ (∀ n ∈ scopesF Fs, n < S.things.length) ∧ (match wayOf (bfs S (scopesF Fs)) n with
    | none => ∀ H1, Same H H1 → Q .non H1
    | some wy => ∀ p H1, H p = none → Same H H1 → H1 p = some (.lst (intsN wy)) → Q (.ref p) H1)
  | _ => False
set_option maxHeartbeats 4000000 in
theorem ok_way (A : At K mg "way_to" "way_to" s_way_to ["machine", "number"]) (T : Txt K mg c) (H_found_from : Has P w K mg base CX0 "found_from" 4 ["store", "numbers"] (spFound w c)) (H_numbers_in : Has P w K mg base CX0 "numbers_in" 2 ["values"] (spNums K c)) : Has P w K mg base CX0 "way_to" 5 ["machine", "number"] (spWay w c) := by
  have Sc := sc_way_to
  refine has_of A Sc (fun vs H Q E h => ?_) (fun cdv f A outer s H vs Q E hr h => ?_)
  · unfold spWay at h; split at h; rfl; cases h
  · unfold spWay at h
    split at h
    · rename_i y k
      obtain ⟨x, S, fl, Fs, n, rfl, M, hl4, hsm, hS, hC, hns, h⟩ := h
      obtain ⟨dx, u1, u2, u3, u4, ey⟩ := M.ey
      obtain ⟨fs, efl, hfs⟩ := M.fr
      have lfs : fs.length = Fs.length := Paired.length hfs
      refine ⟨_, (pss_cons (ps_set (i := 2) Sc.nd rfl (.inl rfl) (fe_lst pa_nil))
      (pss_cons (ps_for PassesOwn.never rfl (pi_list (fe_fld (fe_var 0) T.pl_frames rfl)) (pg_name (i := 3) Sc.nd rfl (.inl rfl)) (pss_one (ps_expr (fe_bm PySem.F.plainAttrs_list PySem.F.slot_list_extend PySem.F.type_list_extend isLst_ty mt_fExtend (fe_var 2) (pa_cons (fe_call H_numbers_in (hr.mono (by walk_at "rm")) (by rfl) pass0 (pa_cons (fe_fld (fe_var 3) T.pl_scope rfl) pa_nil)) pa_nil)))))
      (pss_cons (ps_set (i := 4) Sc.nd rfl (.inl rfl) (fe_call H_found_from (hr.mono (by walk_at "rm")) (by rfl) pass0 (pa_cons (fe_fld (fe_var 0) T.pl_store rfl) (pa_cons (fe_var 2) pa_nil))))
      (pss_cons (ps_if (pt_cmp (pc_notinK (hu_of hr) (fe_var 1) (fe_var 4))) (pss_one (ps_ret pe_non)) pss_nil)
      (pss_cons (ps_set (i := 5) Sc.nd rfl (.inl rfl) (fe_lst pa_nil))
      (pss_cons (ps_while PassesOwn.never (pt_cmpR op_fGe (fe_var 1) pe_int (nomark _)) (pss_cons (ps_expr (fe_bm PySem.F.plainAttrs_list PySem.F.slot_list_append PySem.F.type_list_append isLst_ty mt_fAppend (fe_var 5) (pa_cons (fe_var 1) pa_nil)))
      (pss_one (ps_set (i := 1) Sc.nd rfl (.inl rfl) (pe_getK (hu_of hr) (fe_var 4) (fe_var 1) (fun _ _ => rfl))))))
      (pss_one (ps_ret (fe_revL (fe_var 5)))))))))), ?_⟩
      walk_at "fx0"
      refine seq_ fun N hN => ?_
      try dsimp only
      repeat (walk_at "oxs")
      intro D H1 nD s1 eD
      refine hN _ _ ?_
      clear hN N
      have ey1 := s1 _ _ ey
      refine seq_ fun N hN => for_ ?_
      try dsimp only
      repeat (first | walk_at "oxs" | simp only [ey1])
      refine ⟨⟨_, .inl (.inl (s1 _ _ efl))⟩, ?_⟩
      refine loop_list fs (fun i σ H' => Same H H' ∧ H' D = some (.lst (intsN (scopesF (Fs.take i)))) ∧ ∃ v3, σ = [some (.ref y), some (.int (n : Nat)), some (.ref D), v3, none, none]) ⟨s1, eD, _, rfl⟩ (fun i σ H' _ ⟨s, _⟩ => .inl (.inl (s _ _ efl))) ?_ ?_
      · rintro i v σ H' hv ⟨s2, eD2, v3, rfl⟩
        obtain ⟨F, eF, f, rfl, hF⟩ := paired_get hfs hv
        have hsF := hsm F (List.mem_of_getElem? eF)
        have fin : intsN (scopesF (Fs.take (i + 1))) = intsN (scopesF (Fs.take i)) ++ intsN F.sc := by
          unfold scopesF
          rw [flat_snoc eF, intsN_app]
        rw [fin]
        have hlr : (intsN (scopesF (Fs.take i))).length ≤ 200 := by
          have h1 := flat_len (f := fun F : FrV => F.sc) (n := 10) (l := Fs.take i) fun F m => (hsm F (List.mem_of_mem_take m)).1
          have h2 := take_len Fs i
          rw [intsN_len]; unfold scopesF; omega
        obtain ⟨fdx, w1, w2, t, xs, sl, ys, hl, ht, it, zs, e1, e2, e3, e4, e5, e6, e7, e8, e9⟩ := hF
        obtain ⟨g1, g2, g3⟩ := hsF
        have e1' := s2 _ _ e1
        repeat (first | walk_at "oxs" | simp only [eD2, e1'])
        refine ⟨xs, _, .inr (s2 _ _ e2), refsV_vs (e3.same s2), by rw [List.length_map]; omega, fun p H3 np s3 ep => ?_⟩
        have eD3 := s3 _ _ eD2
        rw [refsR_ob] at ep
        simp only [eD3, ep]
        refine ⟨by simp only [intsN_len] at hlr ⊢; rw [sizeLine_eq]; omega, sm_two (s2.trans s3) nD, ?_, _, rfl⟩
        exact upd_same
      · rintro σ H' ⟨s2, eD2, v3, rfl⟩
        rw [lfs, List.take_length] at eD2
        refine hN _ _ ?_
        clear hN N
        have ey2 := s2 _ _ ey
        refine seq_ fun N hN => ?_
        try dsimp only
        repeat (first | walk_at "oxs" | simp only [ey2])
        refine ⟨x, S, _, rfl, hS.same s2, hC, eD2, hns, fun G H3 nG s3 eG => hN _ _ ?_⟩
        clear hN N
        have ok := OkB.bfs hC hns
        have hl := ok.len
        have hle := hC.le
        have hb := kvB_has ok.nd n
        unfold kI_ at hb
        refine seq_ fun N hN => ?_
        try dsimp only
        repeat (walk_at "oxs")
        refine ⟨_, .inl eG, ?_⟩
        rw [hb]
        have S3 := s2.trans s3
        by_cases hm : n ∈ keysB (bfs S (scopesF Fs))
        · rw [if_neg (by simp [hm])]
          refine hN _ _ ?_
          clear hN N
          obtain ⟨i0, e0, h1, h2, h3⟩ := way_some hm
          rw [h3] at h
          dsimp only at h
          have hi0 := (List.getElem?_eq_some_iff.mp h1).1
          refine seq_ fun N hN => ?_
          try dsimp only
          repeat (walk_at "oxs")
          intro Wy H4 nW s4 eW
          refine hN _ _ ?_
          clear hN N
          have eG4 := s4 _ _ eG
          have nGW : G ≠ Wy := fun z => by rw [← z, eG] at nW; cases nW
          have nWH : H Wy = none := S3.free nW
          refine seq_ fun N hN => ?_
          try dsimp only
          refine ⟨fun m σ H' => ∃ (acc : List Nat) (q : Int), H' Wy = some (.lst (intsN acc)) ∧ H' G = some (.dK (kvB (bfs S (scopesF Fs)))) ∧ Same H H' ∧ σ = [some (.ref y), some (.int q), some (.ref D), v3, some (.ref G), some (.ref Wy)] ∧ acc.length + m ≤ 61 ∧ ((m = 0 ∧ q = -1 ∧ e0.2.2 = acc.reverse) ∨ ∃ i e, m = i + 1 ∧ (bfs S (scopesF Fs))[i]? = some e ∧ q = (e.1 : Nat) ∧ e0.2.2 = e.2.2 ++ acc.reverse), ⟨i0 + 1, [], _, eW, eG4, S3.trans s4, rfl, by simp only [List.length_nil]; omega, .inr ⟨i0, e0, rfl, h1, by rw [h2], by simp⟩⟩, ?_⟩
          rintro m σ H' ⟨acc, q, eW', eG', S', rfl, hla, hcase⟩
          repeat (walk_at "oxs")
          rcases hcase with ⟨rfl, rfl, ew⟩ | ⟨i, e, rfl, ei, rfl, ew⟩
          · rw [if_neg (by decide)]
            refine hN _ _ ?_
            clear hN N
            walk_at "ox"
            refine ⟨_, .inl (.inl eW'), fun p H5 np s5 ep => h p H5 (S'.free np) (S'.trans s5) ?_⟩
            rw [ep, ew]
            unfold intsN
            rw [List.map_reverse]
          · rw [if_pos (by omega)]
            refine ⟨_, fun σ' H' z => z, ?_⟩
            repeat (first | walk_at "oxs" | simp only [eW', true_and])
            have nWG : ∀ o, upd H' Wy o G = some (.dK (kvB (bfs S (scopesF Fs)))) := fun o => (upd_ne nGW).trans eG'
            refine ⟨by rw [intsN_len, sizeLine_eq]; omega, _, .inl (nWG _), _, kvB_val ok.nd ei, ?_⟩
            have sm := sm_two (o := .lst (intsN acc ++ [V.int (e.1 : Nat)])) S' nWH
            rcases ok.wy i e ei with ⟨a1, a2⟩ | ⟨j, e', a0, a1, a2, a3⟩
            · refine ⟨0, by omega, acc ++ [e.1], by rw [intsN_snoc], nWG _, sm, e.2.1, rfl, by rw [List.length_append, List.length_singleton]; omega, .inl ⟨rfl, a1, ?_⟩⟩
              rw [ew, a2, List.reverse_append]; rfl
            · refine ⟨j + 1, by omega, acc ++ [e.1], by rw [intsN_snoc], nWG _, sm, e.2.1, rfl, by rw [List.length_append, List.length_singleton]; omega, .inr ⟨j, rfl, e', a1, a2, ?_⟩⟩
              rw [ew, a3, List.reverse_append, List.append_assoc]; rfl
        · rw [if_pos (by simp [hm])]
          rw [way_none hm] at h
          exact h H3 S3
    · cases h
end

section
variable {P : Program} {w : World} {K : PySem.W.Frag} {mg : Str → Option Value} {base : Heap} {c : Cs}
/-! ### Machine(..) -/
theorem soft_mac {H : Hp} {y dx : Addr} {fs : List (Str × V)} (T : Txt K mg c) (e : H y = some (.ins c.Machine dx fs)) : Soft c H y := fun o h hd => by
  rw [e] at h
  cases h
  rcases hd with ⟨_, z⟩ | ⟨_, _, z⟩
  · cases z
  · have z' : c.Machine = c.Ref := by injection z
    simp only [T.ne] at z'
structure MI (w : World) (c : Cs) (H : Hp) (y dx : Addr) (x : SA) (fs : List (Str × V)) (H' : Hp) : Prop where
  ey : H' y = some (.ins c.Machine dx fs)
  st : Sto w c H' x (st0 [])
  sm : Same H H'
  ny : H y = none
  nx : y ∉ x.foot
theorem MI.step {H Hi Hj : Hp} {y dx : Addr} {x : SA} {fs fs' : List (Str × V)} (T : Txt K mg c) (h : MI w c H y dx x fs Hi) (s : Same Hi Hj) : MI w c H y dx x fs' (upd Hj y (.ins c.Machine dx fs')) :=
  ⟨upd_same, (h.st.same s).keep (ps := [y]) (Keep.refl.upd (by simp)) (fun p m => by rw [List.mem_singleton.mp m]; exact soft_mac T (s _ _ h.ey)) (fun q m n => h.nx (by rw [← List.mem_singleton.mp n]; exact m)), sm_two (h.sm.trans s) h.ny, h.ny, h.nx⟩
def spMachine (K : PySem.W.Frag) (w : World) (c : Cs) : Sp := fun vs H Q _ => match vs with
  | [.ref l1, .ref l2] => ∃ ch cdx v1 v2 v3, H l1 = some (.lst [.ref ch]) ∧ H ch = some (.ins c.Chunk cdx [("number", .int 0), ("wanted", v1), ("rows", v2), ("scopes", v3)]) ∧ H l2 = some (.lst []) ∧
    ∀ y dx x fl pl cd f H1, H y = none → H fl = none → (∀ q ∈ x.foot, H q = none) → Same H H1 → Sto w c H1 x (st0 []) → H1 y = some (.ins c.Machine dx [("store", .ref x.y), ("steps", .int 0), ("frames", .ref fl), ("state", .str "running"), ("thrown", .non), ("places", .ref pl), ("_code", .ref cd)]) → y ≠ fl → y ∉ x.foot → fl ∉ x.foot → H1 fl = some (.lst [f]) → Q (.ref y) H1
  | _ => False
set_option maxHeartbeats 4000000 in
theorem ok_machine (A : AtM K c.Machine "__init__" "Machine.__init__" s_Machine___init__ ["self", "chunks", "lines"]) (T : Txt K mg c) (M_Store : HasC P w K mg base CX0 c.Store "Store" 3 ["self", "lines"] (spStore w K c)) (M_Frame : HasC P w K mg base CX0 c.Frame "Frame" 1 ["self", "number", "scope"] (spMk_Frame K c)) : HasC P w K mg base CX0 c.Machine "Machine" 5 ["self", "chunks", "lines"] (spMachine K w c) := by
  have Sc := sc_Machine___init__
  refine hasC_of T.mk_Machine A Sc (fun vs H Q E h => ?_) (fun cdv f A outer s H vs Q E y dx H0 hr h hy hs h0 => ?_)
  · unfold spMachine at h; split at h; rfl; cases h
  · unfold spMachine at h
    split at h
    · rename_i l1 l2
      obtain ⟨ch, cdx, v1, v2, v3, e1, e2, e3, h⟩ := h
      refine ⟨_, (pss_cons (fs_fld (fe_var 0) (fe_make (k := _) M_Store (hr.mono (by walk_at "rm")) (by rfl) pass0 (pa_cons (fe_var 2) pa_nil)) T.pl_store rfl)
      (pss_cons (fs_fld (fe_var 0) pe_int T.pl_steps rfl)
      (pss_cons (fs_fld (fe_var 0) (fe_lst (pa_cons (fe_make (k := _) M_Frame (hr.mono (by walk_at "rm")) (by rfl) pass0 (pa_cons pe_int (pa_cons (fe_tup pa_nil) pa_nil))) pa_nil)) T.pl_frames rfl)
      (pss_cons (fs_fld (fe_var 0) pe_str T.pl_state rfl)
      (pss_cons (fs_fld (fe_var 0) pe_non T.pl_thrown rfl)
      (pss_cons (fs_fld (fe_var 0) (fe_lst pa_nil) T.pl_places rfl)
      (pss_cons (fs_fld (fe_var 0) fe_dnew T.pl__code rfl)
      (pss_one (ps_for PassesOwn.never rfl (pi_list (fe_var 1)) (pg_name (i := 3) Sc.nd rfl (.inl rfl)) (pss_one (ps_if (pt_cmp (pc_notinK (hu_of hr) (fe_fld (fe_var 3) T.pl_number rfl) (fe_fld (fe_var 0) T.pl__code rfl))) (pss_one (ps_putK (hu_of hr) (fe_fld (fe_var 0) T.pl__code rfl) (fe_fld (fe_var 3) T.pl_number rfl) (fe_var 3) rfl)) pss_nil))))))))))), ?_⟩
      walk_at "fx0"
      refine seq_ fun N hN => ?_
      try dsimp only
      repeat (first | walk_at "oxs" | simp only [h0])
      refine ⟨[], rl_l (hs _ _ e3), fun x H1 St s1 hfr => ?_⟩
      have ey1 := s1 _ _ h0
      simp only [ey1]
      walk_at "ox"
      refine hN _ _ ?_
      clear hN N
      have nyx : y ∉ x.foot := fun m => by have := hfr y m; rw [h0] at this; cases this
      have I1 : MI w c H y dx x [("store", .ref x.y)] (upd H1 y (.ins c.Machine dx [("store", .ref x.y)])) := ⟨upd_same, St.keep (ps := [y]) (Keep.refl.upd (by simp)) (fun p m => by rw [List.mem_singleton.mp m]; exact soft_mac T ey1) (fun q m n => nyx (by rw [← List.mem_singleton.mp n]; exact m)), mk_same (hs.trans s1) hy, hy, nyx⟩
      refine seq_ fun N hN => ?_
      try dsimp only
      repeat (walk_at "oxs")
      refine hN _ _ ?_
      clear hN N
      have I2 := MI.step (fs' := [("store", .ref x.y), ("steps", .int 0)]) T I1 (Same.refl _)
      rw [upd2] at I2
      generalize upd H1 y (.ins c.Machine dx [("store", .ref x.y), ("steps", .int 0)]) = H2 at I2 ⊢
      refine seq_ fun N hN => ?_
      try dsimp only
      repeat (walk_at "oxs")
      intro t H3 nt s3 et
      unfold spMk_Frame
      intro f fdx sl hl H4 nf s4 ef nsl esl nhl ehl n1 n2 n3 fl H5 nfl s5 efl
      have S5 := (s3.trans s4).trans s5
      simp only [S5 _ _ I2.ey]
      repeat (walk_at "oxs")
      refine hN _ _ ?_
      clear hN N
      have I3 := MI.step (fs' := [("store", .ref x.y), ("steps", .int 0), ("frames", .ref fl)]) T I2 S5
      have nflH2 : H2 fl = none := (s3.trans s4).free nfl
      have nfly : fl ≠ y := fun z => by rw [z, I2.ey] at nflH2; cases nflH2
      have nflH : H fl = none := I2.sm.free nflH2
      have nflx : fl ∉ x.foot := fun m => by obtain ⟨o, z⟩ := I2.st.live _ m; rw [nflH2] at z; cases z
      have efl3 : upd H5 y (.ins c.Machine dx [("store", .ref x.y), ("steps", .int 0), ("frames", .ref fl)]) fl = some (.lst [.ref f]) := (upd_ne nfly).trans efl
      generalize upd H5 y (.ins c.Machine dx [("store", .ref x.y), ("steps", .int 0), ("frames", .ref fl)]) = H6 at I3 efl3 ⊢
      refine seq_ fun N hN => ?_
      try dsimp only
      repeat (first | walk_at "oxs" | simp only [I3.ey])
      refine hN _ _ ?_
      clear hN N
      have I4 := MI.step (fs' := [("store", .ref x.y), ("steps", .int 0), ("frames", .ref fl), ("state", .str "running")]) T I3 (Same.refl _)
      have efl4 : upd H6 y (.ins c.Machine dx [("store", .ref x.y), ("steps", .int 0), ("frames", .ref fl), ("state", .str "running")]) fl = some (.lst [.ref f]) := (upd_ne nfly).trans efl3
      generalize upd H6 y (.ins c.Machine dx [("store", .ref x.y), ("steps", .int 0), ("frames", .ref fl), ("state", .str "running")]) = H7 at I4 efl4 ⊢
      refine seq_ fun N hN => ?_
      try dsimp only
      repeat (first | walk_at "oxs" | simp only [I4.ey])
      refine hN _ _ ?_
      clear hN N
      have I5 := MI.step (fs' := [("store", .ref x.y), ("steps", .int 0), ("frames", .ref fl), ("state", .str "running"), ("thrown", .non)]) T I4 (Same.refl _)
      have efl5 : upd H7 y (.ins c.Machine dx [("store", .ref x.y), ("steps", .int 0), ("frames", .ref fl), ("state", .str "running"), ("thrown", .non)]) fl = some (.lst [.ref f]) := (upd_ne nfly).trans efl4
      generalize upd H7 y (.ins c.Machine dx [("store", .ref x.y), ("steps", .int 0), ("frames", .ref fl), ("state", .str "running"), ("thrown", .non)]) = H8 at I5 efl5 ⊢
      refine seq_ fun N hN => ?_
      try dsimp only
      repeat (first | walk_at "oxs" | simp only [I5.ey])
      intro pl H9 npl s9 epl
      simp only [s9 _ _ I5.ey]
      repeat (walk_at "oxs")
      refine hN _ _ ?_
      clear hN N
      have I6 := MI.step (fs' := [("store", .ref x.y), ("steps", .int 0), ("frames", .ref fl), ("state", .str "running"), ("thrown", .non), ("places", .ref pl)]) T I5 s9
      have efl6 : upd H9 y (.ins c.Machine dx [("store", .ref x.y), ("steps", .int 0), ("frames", .ref fl), ("state", .str "running"), ("thrown", .non), ("places", .ref pl)]) fl = some (.lst [.ref f]) := (upd_ne nfly).trans (s9 _ _ efl5)
      generalize upd H9 y (.ins c.Machine dx [("store", .ref x.y), ("steps", .int 0), ("frames", .ref fl), ("state", .str "running"), ("thrown", .non), ("places", .ref pl)]) = H10 at I6 efl6 ⊢
      refine seq_ fun N hN => ?_
      try dsimp only
      repeat (first | walk_at "oxs" | simp only [I6.ey])
      intro cd H11 ncd s11 ecd
      simp only [s11 _ _ I6.ey]
      repeat (walk_at "oxs")
      refine hN _ _ ?_
      clear hN N
      have I7 := MI.step (fs' := [("store", .ref x.y), ("steps", .int 0), ("frames", .ref fl), ("state", .str "running"), ("thrown", .non), ("places", .ref pl), ("_code", .ref cd)]) T I6 s11
      have ncdy : cd ≠ y := fun z => by rw [z, I6.ey] at ncd; cases ncd
      have ncdf : cd ≠ fl := fun z => by rw [z, efl6] at ncd; cases ncd
      have efl7 : upd H11 y (.ins c.Machine dx [("store", .ref x.y), ("steps", .int 0), ("frames", .ref fl), ("state", .str "running"), ("thrown", .non), ("places", .ref pl), ("_code", .ref cd)]) fl = some (.lst [.ref f]) := (upd_ne nfly).trans (s11 _ _ efl6)
      have ecd7 : upd H11 y (.ins c.Machine dx [("store", .ref x.y), ("steps", .int 0), ("frames", .ref fl), ("state", .str "running"), ("thrown", .non), ("places", .ref pl), ("_code", .ref cd)]) cd = some (.dK []) := (upd_ne ncdy).trans ecd
      have ncdx : cd ∉ x.foot := fun m => by obtain ⟨o, z⟩ := I6.st.live _ m; rw [ncd] at z; cases z
      have ncdH : H cd = none := I6.sm.free ncd
      generalize upd H11 y (.ins c.Machine dx [("store", .ref x.y), ("steps", .int 0), ("frames", .ref fl), ("state", .str "running"), ("thrown", .non), ("places", .ref pl), ("_code", .ref cd)]) = H12 at I7 efl7 ecd7 ⊢
      refine for_ ?_
      try dsimp only
      repeat (walk_at "oxs")
      have e1' := I7.sm _ _ e1
      have e2' := I7.sm _ _ e2
      refine ⟨⟨_, .inl (.inl e1')⟩, ?_⟩
      refine loop_list [.ref ch] (fun j σ H' => (j = 0 → H' = H12 ∧ σ = [some (.ref y), some (.ref l1), some (.ref l2), none]) ∧ H' l1 = some (.lst [.ref ch]) ∧ (j ≠ 0 → Keep [cd] H12 H')) ⟨fun _ => ⟨rfl, rfl⟩, e1', fun z => absurd rfl z⟩ (fun i σ H' _ ⟨_, s, _⟩ => .inl (.inl s)) ?_ ?_
      · rintro j v σ H' hv ⟨hj, _, _⟩
        match j, hv with
        | 0, hv =>
          cases hv
          obtain ⟨rfl, rfl⟩ := hj rfl
          repeat (first | walk_at "oxs" | simp only [e2', I7.ey])
          refine ⟨_, .inl ecd7, ?_⟩
          rw [if_pos (by rfl)]
          have nl1 : l1 ≠ cd := fun z => by rw [z, ecd7] at e1'; cases e1'
          exact ⟨_, ecd7, by decide, fun z => z.elim, (upd_ne nl1).trans e1', fun _ => Keep.refl.upd (by simp)⟩
        | j + 1, hv => simp at hv
      · rintro σ H' ⟨_, _, hk⟩
        have k := hk (by simp)
        walk_at "ox"
        refine h y dx x fl pl cd (.ref f) H' hy nflH (fun q m => hs.free (hfr q m)) (same_keep I7.sm k (fun q m => by rw [List.mem_singleton.mp m]; exact ncdH)) (I7.st.keep k (fun p m => by rw [List.mem_singleton.mp m]; exact soft_dk ecd7) fun q m n => ncdx (by rw [← List.mem_singleton.mp n]; exact m)) (k _ _ (by simpa using Ne.symm ncdy) I7.ey) (Ne.symm nfly) nyx nflx (k _ _ (by simpa using Ne.symm ncdf) efl7)
    · cases h
end

section
variable {P : Program} {w : World} {K : PySem.W.Frag} {mg : Str → Option Value} {base : Heap} {c : Cs}
/-! ### the law's own search -/
theorem inV_N {m : Nat} : ∀ {ar : List Nat}, inV (.int (m : Nat)) (intsN ar) = decide (m ∈ ar)
  | [] => rfl
  | a :: ar => by
    have ih := inV_N (m := m) (ar := ar)
    unfold inV intsN at ih ⊢
    rw [List.map_cons, List.any_cons, ih]
    by_cases e : m = a
    · subst e; simp [eqV]
    · have : ¬ ((a : Int) = (m : Int)) := by omega
      have e2 : ¬ ((m : Int) = (a : Int)) := by omega
      simp [eqV, e, this, e2]
theorem flat_N : ∀ {ar : List Nat}, (intsN ar).all flatV = true
  | [] => rfl
  | a :: ar => by
    have ih := flat_N (ar := ar)
    unfold intsN at ih ⊢
    rw [List.map_cons, List.all_cons, ih]; rfl
def spClosed (w : World) (c : Cs) : Sp := fun vs H Q _ => match vs with
  | [.ref y, .ref l] => ∃ x S ns, y = x.y ∧ Sto w c H x S ∧ Clo S ∧ H l = some (.lst (intsN ns)) ∧ (∀ n ∈ ns, n < S.things.length) ∧ ∀ p H1, H p = none → Same H H1 → H1 p = some (.lst (intsN (keysB (bfs S ns)))) → Q (.ref p) H1
  | _ => False
theorem keys_one {p : Int} {wp : List Nat} {F : List BE} {n : Nat} : keysB (addOne p wp F n) = if n ∈ keysB F then keysB F else keysB F ++ [n] := by
  unfold addOne
  split
  · rfl
  · exact keysB_app
set_option maxHeartbeats 4000000 in
theorem ok_lclosed (A : At K mg "_law_closed" "_law_closed" s_law_closed ["store", "numbers"]) (T : Txt K mg c) (H_children_of : Has P w K mg base CX0 "children_of" 3 ["store", "number"] (spChildren w c)) : Has P w K mg base CX0 "_law_closed" 4 ["store", "numbers"] (spClosed w c) := by
  have Sc := sc_law_closed
  refine has_of A Sc (fun vs H Q E h => ?_) (fun cdv f A outer s H vs Q E hr h => ?_)
  · unfold spClosed at h; split at h; rfl; cases h
  · unfold spClosed at h
    split at h
    · rename_i y l
      obtain ⟨x, S, ns, rfl, hS, hC, el, hns, h⟩ := h
      obtain ⟨sdx, es⟩ := hS.st
      have hlx : x.L.length = S.things.length := Paired.length hS.th
      have hle := hC.le
      refine ⟨_, (pss_cons (ps_set (i := 2) Sc.nd rfl (.inl rfl) (fe_lst pa_nil))
      (pss_cons (ps_for PassesOwn.never rfl (pi_list (fe_var 1)) (pg_name (i := 3) Sc.nd rfl (.inl rfl)) (pss_one (ps_if (pt_cmpR op_fNotIn (fe_var 3) (fe_var 2) (by with_unfolding_all rfl)) (pss_one (ps_expr (fe_bm PySem.F.plainAttrs_list PySem.F.slot_list_append PySem.F.type_list_append isLst_ty mt_fAppend (fe_var 2) (pa_cons (fe_var 3) pa_nil)))) pss_nil)))
      (pss_cons (ps_for PassesOwn.never rfl (pi_range1 (by rfl) T.no_range (pa_cons (pe_callB call_fLen (by rfl) T.no_len (by decide +kernel) (pa_cons (fe_fld (fe_var 0) T.pl_things rfl) pa_nil)) pa_nil)) (pg_name (i := 4) Sc.nd rfl (.inl rfl)) (pss_cons (ps_if (pt_cmpR op_fGe (fe_var 4) (pe_callB call_fLen (by rfl) T.no_len (by decide +kernel) (pa_cons (fe_var 2) pa_nil)) (nomark _)) (pss_one ps_break) pss_nil)
      (pss_one (ps_for PassesOwn.never rfl (pi_list (fe_call H_children_of (hr.mono (by walk_at "rm")) (by rfl) pass0 (pa_cons (fe_var 0) (pa_cons (pe_ix ix_fx (fe_var 2) (fe_var 4) (fun _ _ => rfl)) pa_nil)))) (pg_name (i := 5) Sc.nd rfl (.inl rfl)) (pss_one (ps_if (pt_cmpR op_fNotIn (fe_var 5) (fe_var 2) (by with_unfolding_all rfl)) (pss_one (ps_expr (fe_bm PySem.F.plainAttrs_list PySem.F.slot_list_append PySem.F.type_list_append isLst_ty mt_fAppend (fe_var 2) (pa_cons (fe_var 5) pa_nil)))) pss_nil))))))
      (pss_one (ps_ret (fe_var 2)))))), ?_⟩
      walk_at "fx0"
      refine seq_ fun N hN => ?_
      try dsimp only
      repeat (walk_at "oxs")
      intro D H1 nD s1 eD
      refine hN _ _ ?_
      clear hN N
      refine seq_ fun N hN => for_ ?_
      try dsimp only
      repeat (walk_at "oxs")
      refine ⟨⟨_, .inl (.inl (s1 _ _ el))⟩, ?_⟩
      refine loop_list (intsN ns) (fun i σ H' => Same H H' ∧ H' D = some (.lst (intsN (keysB (startB (ns.take i))))) ∧ ∃ v3, σ = [some (.ref x.y), some (.ref l), some (.ref D), v3, none, none]) ⟨s1, eD, _, rfl⟩ (fun i σ H' _ ⟨e, _⟩ => .inl (.inl (e _ _ el))) ?_ ?_
      · rintro i v σ H' hv ⟨s2, eD2, v3, rfl⟩
        obtain ⟨n, en, rfl⟩ := mem_get hv
        have hok : OkB S.things.length (startB (ns.take i)) := OkB.start fun n m => hns n (List.mem_of_mem_take m)
        have hlen := hok.len
        rw [take_get en]
        unfold startB
        rw [addB_snoc, keys_one]
        rw [show addB (-1) [] [] (ns.take i) = startB (ns.take i) from rfl]
        change H' D = some (.lst (intsN (keysB (startB (ns.take i))))) at eD2
        repeat (walk_at "oxs")
        refine ⟨_, .inl (SqL.of eD2), flat_N, ?_⟩
        rw [inV_N]
        by_cases hm : n ∈ keysB (startB (ns.take i))
        · rw [if_neg (by simp [hm])]
          refine ⟨s2, ?_, _, rfl⟩
          rw [eD2, if_pos hm]
        · rw [if_pos (by simp [hm])]
          simp only [eD2, true_and]
          refine ⟨?_, sm_two s2 nD, ?_, _, rfl⟩
          · rw [intsN_len]; unfold keysB; rw [List.length_map, sizeLine_eq]; omega
          · rw [if_neg hm, intsN_snoc]
      · rintro σ H' ⟨s2, eD2, v3, rfl⟩
        rw [intsN_len, List.take_length] at eD2
        refine hN _ _ ?_
        clear hN N
        refine seq_ fun N hN => for_ ?_
        try dsimp only
        have es2 := s2 _ _ es
        repeat (first | walk_at "oxs" | simp only [es2])
        refine ⟨_, rl_l (s2 _ _ hS.et), ?_⟩
        rw [List.length_map, hlx]
        refine ⟨by omega, by omega, ?_⟩
        refine loop_range (fun k σ H' => Same H H' ∧ H' D = some (.lst (intsN (keysB (bfB (chS S) (startB ns) k)))) ∧ ∃ v3 v4 v5, σ = [some (.ref x.y), some (.ref l), some (.ref D), v3, v4, v5]) ⟨s2, eD2, _, _, _, rfl⟩ ?_ ?_
        · rintro k σ H3 hk ⟨s3, eD3, v3, v4, v5, rfl⟩
          have hok : OkB S.things.length (bfB (chS S) (startB ns) k) := (OkB.start hns).bf hC.cl k
          have hlen := hok.len
          simp only [gName, List.set_cons_succ, List.set_cons_zero]
          try dsimp only
          have lk : (intsN (keysB (bfB (chS S) (startB ns) k))).length = (bfB (chS S) (startB ns) k).length := by rw [intsN_len]; exact List.length_map ..
          refine seq_ fun N1 hN1 => ?_
          try dsimp only
          repeat (walk_at "oxs")
          refine ⟨_, .inl (SqL.of eD3), ?_⟩
          rw [lk]
          by_cases hlt : k < (bfB (chS S) (startB ns) k).length
          · rw [if_neg (by omega)]
            refine hN1 _ _ ?_
            clear hN1 N1
            obtain ⟨e, ee⟩ : ∃ e, (bfB (chS S) (startB ns) k)[k]? = some e := ⟨_, List.getElem?_eq_getElem hlt⟩
            have en : (keysB (bfB (chS S) (startB ns) k))[k]? = some e.1 := by unfold keysB; rw [List.getElem?_map, ee]; rfl
            have hln : e.1 < S.things.length := hok.lt _ (List.mem_of_getElem? en)
            obtain ⟨th, et⟩ : ∃ th, S.things[e.1]? = some th := ⟨_, List.getElem?_eq_getElem hln⟩
            have hth := hC.sm th (List.mem_of_getElem? et)
            have hch : chS S e.1 = childT th := by unfold chS; rw [et]
            have hnx : bfB (chS S) (startB ns) (k + 1) = addB (e.1 : Nat) e.2.2 (bfB (chS S) (startB ns) k) (childT th) := by show stepB _ _ _ = _; unfold stepB; rw [ee]; dsimp only; rw [hch]
            have hcl : ∀ n ∈ childT th, n < S.things.length := fun n m => hC.cl e.1 hln n (by rw [hch]; exact m)
            refine for_ ?_
            repeat (walk_at "oxs")
            refine ⟨_, rl_l eD3, _, intsN_get en, ?_⟩
            refine ⟨x, S, e.1, th, rfl, rfl, hS.same s3, et, hth.1, fun p H4 np s4 ep => ?_⟩
            have npD : p ≠ D := fun z => by rw [z, eD3] at np; cases np
            refine ⟨p, rfl, ⟨_, .inl (.inl ep)⟩, ?_⟩
            refine loop_list (intsN (childT th)) (fun i σ H' => Same H H' ∧ H' D = some (.lst (intsN (keysB (addB (e.1 : Nat) e.2.2 (bfB (chS S) (startB ns) k) ((childT th).take i))))) ∧ H' p = some (.lst (intsN (childT th))) ∧ ∃ v, σ = [some (.ref x.y), some (.ref l), some (.ref D), v3, some (.int (k : Nat)), v]) ⟨s3.trans s4, s4 _ _ eD3, ep, _, rfl⟩ (fun i σ H' _ ⟨_, _, e, _⟩ => .inl (.inl e)) ?_ ?_
            · rintro i u σ H' hu ⟨s5, eD5, ep', v', rfl⟩
              obtain ⟨n, en1, rfl⟩ := mem_get hu
              have hok2 : OkB S.things.length (addB (e.1 : Nat) e.2.2 (bfB (chS S) (startB ns) k) ((childT th).take i)) := OkB.add hok (fun n m => hcl n (List.mem_of_mem_take m)) (.inr ⟨k, e, ee, rfl, rfl⟩)
              rw [take_get en1, addB_snoc, keys_one]
              generalize addB (e.1 : Nat) e.2.2 (bfB (chS S) (startB ns) k) ((childT th).take i) = F at eD5 hok2 ⊢
              have hlen2 := hok2.len
              repeat (walk_at "oxs")
              refine ⟨_, .inl (SqL.of eD5), flat_N, ?_⟩
              rw [inV_N]
              by_cases hm : n ∈ keysB F
              · rw [if_neg (by simp [hm])]
                refine ⟨s5, ?_, ep', _, rfl⟩
                rw [eD5, if_pos hm]
              · rw [if_pos (by simp [hm])]
                simp only [eD5, true_and]
                refine ⟨?_, sm_two s5 nD, ?_, (upd_ne npD).trans ep', _, rfl⟩
                · rw [intsN_len]; unfold keysB; rw [List.length_map, sizeLine_eq]; omega
                · rw [if_neg hm, intsN_snoc]
            · rintro σ H' ⟨s5, eD5, ep', v', rfl⟩
              rw [intsN_len, List.take_length, ← hnx] at eD5
              exact ⟨s5, eD5, _, _, _, rfl⟩
          · rw [if_pos (by omega)]
            refine hN _ _ ?_
            walk_at "ox"
            have e := bfs_at (S := S) (ns := ns) (a := k) (by omega) (by omega)
            rw [e] at eD3
            exact h D H3 nD s3 eD3
        · rintro σ H3 ⟨s3, eD3, v3, v4, v5, rfl⟩
          refine hN _ _ ?_
          walk_at "ox"
          exact h D H3 nD s3 eD3
    · cases h
end

section
variable {P : Program} {w : World} {K : PySem.W.Frag} {mg : Str → Option Value} {base : Heap} {c : Cs}
/-! ### the law's ways -/
def kvW : List Addr → List BE → List (Key × V)
  | a :: L, e :: F => (kI_ e.1, .ref a) :: kvW L F
  | _, _ => []
structure WI (H0 : Hp) (D W : Addr) (L : List Addr) (F : List BE) (H : Hp) : Prop where
  sm : Same H0 H
  nD : H0 D = none
  nW : H0 W = none
  ne : D ≠ W
  eD : H D = some (.dK (kvW L F))
  eW : H W = some (.lst (intsN (keysB F)))
  pr : Paired (fun a (e : BE) => H a = some (.lst (intsN e.2.2)) ∧ a ≠ D ∧ a ≠ W) L F
theorem kvW_keys {H : Hp} {D W : Addr} {L : List Addr} {F : List BE} (h : Paired (fun a (e : BE) => H a = some (.lst (intsN e.2.2)) ∧ a ≠ D ∧ a ≠ W) L F) : (kvW L F).map (·.1) = (keysB F).map kI_ := by
  induction h with
  | nil => rfl
  | cons a b ih => show _ :: _ = _ :: _; rw [ih]; rfl
theorem kvW_app {H : Hp} {D W : Addr} {L : List Addr} {F : List BE} {a : Addr} {e : BE} (h : Paired (fun a (e : BE) => H a = some (.lst (intsN e.2.2)) ∧ a ≠ D ∧ a ≠ W) L F) : kvW (L ++ [a]) (F ++ [e]) = kvW L F ++ [(kI_ e.1, .ref a)] := by
  induction h with
  | nil => rfl
  | @cons a' e' L F a b ih => exact congrArg (List.cons (kI_ e'.1, V.ref a')) ih
theorem kvW_mem {H : Hp} {D W : Addr} {L : List Addr} {F : List BE} (h : Paired (fun a (e : BE) => H a = some (.lst (intsN e.2.2)) ∧ a ≠ D ∧ a ≠ W) L F) {i : Nat} {e : BE} (he : F[i]? = some e) : ∃ a, (kI_ e.1, V.ref a) ∈ kvW L F ∧ H a = some (.lst (intsN e.2.2)) ∧ a ≠ D ∧ a ≠ W := by
  induction h generalizing i with
  | nil => simp at he
  | @cons a' e' L F r t ih =>
    cases i with
    | zero => cases he; exact ⟨a', List.mem_cons_self .., r⟩
    | succ i =>
      obtain ⟨a, h1, h2⟩ := ih (i := i) he
      exact ⟨a, List.mem_cons_of_mem _ h1, h2⟩
theorem WI.has {H0 H : Hp} {D W : Addr} {L : List Addr} {F : List BE} (h : WI H0 D W L F H) (nd : (keysB F).Nodup) (n : Nat) : (valV (kvW L F) (.inl ((n : Nat) : Int))).isSome = decide (n ∈ keysB F) := by
  show (valV (kvW L F) (kI_ n)).isSome = _
  by_cases hm : n ∈ keysB F
  · obtain ⟨e, he, rfl⟩ := List.mem_map.mp hm
    obtain ⟨i, hi, ei⟩ := List.getElem_of_mem he
    obtain ⟨a, h1, h2⟩ := kvW_mem h.pr (i := i) (e := e) (by rw [List.getElem?_eq_getElem hi, ei])
    have v := valV_nd (by rw [kvW_keys h.pr]; exact kI_nd nd) h1
    simp only at v
    rw [v, decide_eq_true hm]; rfl
  · rw [valV_none (by rw [kvW_keys h.pr]; exact fun m => hm (kI_mem.mp m)), decide_eq_false hm]; rfl
theorem WI.get {H0 H : Hp} {D W : Addr} {L : List Addr} {F : List BE} (h : WI H0 D W L F H) (nd : (keysB F).Nodup) {i : Nat} {e : BE} (he : F[i]? = some e) : ∃ a, valV (kvW L F) (.inl ((e.1 : Nat) : Int)) = some (.ref a) ∧ H a = some (.lst (intsN e.2.2)) := by
  obtain ⟨a, h1, h2, _⟩ := kvW_mem h.pr he
  exact ⟨a, valV_nd (by rw [kvW_keys h.pr]; exact kI_nd nd) h1, h2⟩
theorem WI.none {H0 H : Hp} {D W : Addr} {L : List Addr} {F : List BE} (h : WI H0 D W L F H) {n : Nat} (hm : n ∉ keysB F) : valV (kvW L F) (.inl ((n : Nat) : Int)) = none := valV_none (by rw [kvW_keys h.pr]; exact fun m => hm (kI_mem.mp m))
theorem WI.same {H0 H H1 : Hp} {D W : Addr} {L : List Addr} {F : List BE} (h : WI H0 D W L F H) (s : Same H H1) : WI H0 D W L F H1 := ⟨h.sm.trans s, h.nD, h.nW, h.ne, s _ _ h.eD, s _ _ h.eW, Paired.mapP h.pr fun _ _ z => ⟨s _ _ z.1, z.2⟩⟩
theorem WI.put {H0 H : Hp} {D W a : Addr} {L : List Addr} {F : List BE} {n : Nat} {p : Int} {wp : List Nat} (h : WI H0 D W L F H) (hm : n ∉ keysB F) (ea : H a = some (.lst (intsN (wp ++ [n])))) (n1 : a ≠ D) (n2 : a ≠ W) : WI H0 D W (L ++ [a]) (addOne p wp F n) (upd (upd H D (.dK (putK (kvW L F) (.inl ((n : Nat) : Int)) (.ref a)))) W (.lst (intsN (keysB F) ++ [.int (n : Nat)]))) := by
  unfold addOne
  rw [if_neg hm]
  refine ⟨sm_two (sm_two h.sm h.nD) h.nW, h.nD, h.nW, h.ne, ?_, ?_, ?_⟩
  · rw [upd_ne h.ne, upd_same, kvW_app h.pr]
    have := putK_new (v := .ref a) (show (Sum.inl ((n : Nat) : Int) : Key) ∉ (kvW L F).map (·.1) by rw [kvW_keys h.pr]; exact fun m => hm (kI_mem.mp m))
    rw [this]; rfl
  · rw [upd_same, keysB_app, intsN_snoc]
  · refine Paired.snoc (Paired.mapP h.pr fun _ _ z => ⟨by rw [upd_ne z.2.2, upd_ne z.2.1]; exact z.1, z.2⟩) ⟨by rw [upd_ne n2, upd_ne n1]; exact ea, n1, n2⟩
theorem kvW_len {H : Hp} {D W : Addr} {L : List Addr} {F : List BE} (h : Paired (fun a (e : BE) => H a = some (.lst (intsN e.2.2)) ∧ a ≠ D ∧ a ≠ W) L F) : (kvW L F).length = F.length := by
  induction h with
  | nil => rfl
  | cons a b ih => show _ + 1 = _ + 1; rw [ih]
theorem way_len {N : Nat} {F : List BE} (h : OkB N F) : ∀ (i : Nat) (e : BE), F[i]? = some e → e.2.2.length ≤ i + 1 := by
  intro i
  induction i using Nat.strongRecOn with
  | _ i ih =>
    intro e he
    rcases h.wy i e he with ⟨_, h2⟩ | ⟨j, e', h1, h2, _, h4⟩
    · rw [h2]; simp
    · have := ih j h1 e' h2
      rw [h4, List.length_append, List.length_singleton]; omega
/-- the ways that are told in the dict at D -/
def WaysAt (H : Hp) (D : Addr) (F : List BE) : Prop := ∃ kvs, H D = some (.dK kvs) ∧ ∀ n : Nat, match wayOf F n with
  | none => valV kvs (.inl ((n : Nat) : Int)) = none
  | some wy => ∃ a, valV kvs (.inl ((n : Nat) : Int)) = some (.ref a) ∧ H a = some (.lst (intsN wy))
theorem WI.ways {H0 H : Hp} {D W : Addr} {L : List Addr} {F : List BE} (h : WI H0 D W L F H) (nd : (keysB F).Nodup) : WaysAt H D F := by
  refine ⟨_, h.eD, fun n => ?_⟩
  by_cases hm : n ∈ keysB F
  · obtain ⟨i, e, h1, rfl, h3⟩ := way_some hm
    rw [h3]
    exact h.get nd h1
  · rw [way_none hm]
    exact h.none hm
def spLengths (w : World) (c : Cs) : Sp := fun vs H Q _ => match vs with
  | [.ref y, .ref l] => ∃ x S ns, y = x.y ∧ Sto w c H x S ∧ Clo S ∧ H l = some (.lst (intsN ns)) ∧ (∀ n ∈ ns, n < S.things.length) ∧ ∀ p H1, H p = none → Same H H1 → WaysAt H1 p (bfs S ns) → Q (.ref p) H1
  | _ => False
set_option maxHeartbeats 4000000 in
theorem ok_llengths (A : At K mg "_law_lengths" "_law_lengths" s_law_lengths ["store", "scopes"]) (T : Txt K mg c) (H_children_of : Has P w K mg base CX0 "children_of" 3 ["store", "number"] (spChildren w c)) : Has P w K mg base CX0 "_law_lengths" 4 ["store", "scopes"] (spLengths w c) := by
  have Sc := sc_law_lengths
  refine has_of A Sc (fun vs H Q E h => ?_) (fun cdv f A outer s H vs Q E hr h => ?_)
  · unfold spLengths at h; split at h; rfl; cases h
  · unfold spLengths at h
    split at h
    · rename_i y l
      obtain ⟨x, S, ns, rfl, hS, hC, el, hns, h⟩ := h
      obtain ⟨sdx, es⟩ := hS.st
      have hlx : x.L.length = S.things.length := Paired.length hS.th
      have hle := hC.le
      refine ⟨_, (pss_cons (ps_set (i := 2) Sc.nd rfl (.inl rfl) fe_dnew)
      (pss_cons (ps_set (i := 3) Sc.nd rfl (.inl rfl) (fe_lst pa_nil))
      (pss_cons (ps_for PassesOwn.never rfl (pi_list (fe_var 1)) (pg_name (i := 4) Sc.nd rfl (.inl rfl)) (pss_one (ps_if (pt_cmp (pc_notinK (hu_of hr) (fe_var 4) (fe_var 2))) (pss_cons (ps_putK (hu_of hr) (fe_var 2) (fe_var 4) (fe_lst (pa_cons (fe_var 4) pa_nil)) rfl)
      (pss_one (ps_expr (fe_bm PySem.F.plainAttrs_list PySem.F.slot_list_append PySem.F.type_list_append isLst_ty mt_fAppend (fe_var 3) (pa_cons (fe_var 4) pa_nil))))) pss_nil)))
      (pss_cons (ps_for PassesOwn.never rfl (pi_range1 (by rfl) T.no_range (pa_cons (pe_callB call_fLen (by rfl) T.no_len (by decide +kernel) (pa_cons (fe_fld (fe_var 0) T.pl_things rfl) pa_nil)) pa_nil)) (pg_name (i := 5) Sc.nd rfl (.inl rfl)) (pss_cons (ps_if (pt_cmpR op_fGe (fe_var 5) (pe_callB call_fLen (by rfl) T.no_len (by decide +kernel) (pa_cons (fe_var 3) pa_nil)) (nomark _)) (pss_one ps_break) pss_nil)
      (pss_one (ps_for PassesOwn.never rfl (pi_list (fe_call H_children_of (hr.mono (by walk_at "rm")) (by rfl) pass0 (pa_cons (fe_var 0) (pa_cons (pe_ix ix_fx (fe_var 3) (fe_var 5) (fun _ _ => rfl)) pa_nil)))) (pg_name (i := 6) Sc.nd rfl (.inl rfl)) (pss_one (ps_if (pt_cmp (pc_notinK (hu_of hr) (fe_var 6) (fe_var 2))) (pss_cons (ps_putK (hu_of hr) (fe_var 2) (fe_var 6) (pe_op op_fAdd (pe_getK (hu_of hr) (fe_var 2) (pe_ix ix_fx (fe_var 3) (fe_var 5) (fun _ _ => rfl)) (fun _ _ => rfl)) (fe_lst (pa_cons (fe_var 6) pa_nil))) rfl)
      (pss_one (ps_expr (fe_bm PySem.F.plainAttrs_list PySem.F.slot_list_append PySem.F.type_list_append isLst_ty mt_fAppend (fe_var 3) (pa_cons (fe_var 6) pa_nil))))) pss_nil))))))
      (pss_one (ps_ret (fe_var 2))))))), ?_⟩
      walk_at "fx0"
      refine seq_ fun N hN => ?_
      try dsimp only
      repeat (walk_at "oxs")
      intro D H1 nD s1 eD
      refine hN _ _ ?_
      clear hN N
      refine seq_ fun N hN => ?_
      try dsimp only
      repeat (walk_at "oxs")
      intro W H2 nW s2 eW
      refine hN _ _ ?_
      clear hN N
      have ne : D ≠ W := fun z => by rw [← z, eD] at nW; cases nW
      have I0 : WI H D W [] (startB []) H2 := ⟨s1.trans s2, nD, s1.free nW, ne, s2 _ _ eD, eW, .nil⟩
      refine seq_ fun N hN => for_ ?_
      try dsimp only
      repeat (walk_at "oxs")
      refine ⟨⟨_, .inl (.inl ((s1.trans s2) _ _ el))⟩, ?_⟩
      refine loop_list (intsN ns) (fun i σ H' => (∃ L, WI H D W L (startB (ns.take i)) H') ∧ ∃ v4, σ = [some (.ref x.y), some (.ref l), some (.ref D), some (.ref W), v4, none, none]) ⟨⟨_, I0⟩, _, rfl⟩ (fun i σ H' _ ⟨⟨_, e⟩, _⟩ => .inl (.inl (e.sm _ _ el))) ?_ ?_
      · rintro i v σ H' hv ⟨⟨L, I⟩, v4, rfl⟩
        obtain ⟨n, en, rfl⟩ := mem_get hv
        have hok : OkB S.things.length (startB (ns.take i)) := OkB.start fun n m => hns n (List.mem_of_mem_take m)
        have hlen := hok.len
        rw [take_get en]
        unfold startB
        rw [addB_snoc]
        change WI H D W L (startB (ns.take i)) H' at I
        have hb := I.has hok.nd n
        repeat (walk_at "oxs")
        refine ⟨_, .inl I.eD, ?_⟩
        rw [hb]
        by_cases hm : n ∈ keysB (startB (ns.take i))
        · rw [if_neg (by simp [hm])]
          refine ⟨⟨L, ?_⟩, _, rfl⟩
          have e : addOne (-1) [] (addB (-1) [] [] (ns.take i)) n = startB (ns.take i) := by unfold addOne; exact if_pos hm
          rw [e]; exact I
        · rw [if_pos (by simp [hm])]
          intro q H3 nq s3 eq
          have J := I.same s3
          have nqD : q ≠ D := fun z => by rw [z, I.eD] at nq; cases nq
          have nqW : q ≠ W := fun z => by rw [z, I.eW] at nq; cases nq
          have lk : (kvW L (startB (ns.take i))).length < sizeLine := by rw [kvW_len J.pr, sizeLine_eq]; omega
          have eW2 : ∀ o, upd H3 D o W = some (.lst (intsN (keysB (startB (ns.take i))))) := fun o => (upd_ne (Ne.symm J.ne)).trans J.eW
          refine ⟨_, J.eD, lk, ?_⟩
          simp only [eW2, true_and]
          refine ⟨by rw [intsN_len]; unfold keysB; rw [List.length_map, sizeLine_eq]; omega, ⟨_, J.put (wp := []) hm eq nqD nqW⟩, _, rfl⟩
      · rintro σ H' ⟨⟨L, I⟩, v4, rfl⟩
        rw [intsN_len, List.take_length] at I
        refine hN _ _ ?_
        clear hN N
        refine seq_ fun N hN => for_ ?_
        try dsimp only
        have es2 := I.sm _ _ es
        repeat (first | walk_at "oxs" | simp only [es2])
        refine ⟨_, rl_l (I.sm _ _ hS.et), ?_⟩
        rw [List.length_map, hlx]
        refine ⟨by omega, by omega, ?_⟩
        refine loop_range (fun k σ H' => (∃ L, WI H D W L (bfB (chS S) (startB ns) k) H') ∧ ∃ v4 v5 v6, σ = [some (.ref x.y), some (.ref l), some (.ref D), some (.ref W), v4, v5, v6]) ⟨⟨_, I⟩, _, _, _, rfl⟩ ?_ ?_
        · rintro k σ H3 hk ⟨⟨L3, J⟩, v4, v5, v6, rfl⟩
          have hok : OkB S.things.length (bfB (chS S) (startB ns) k) := (OkB.start hns).bf hC.cl k
          have hlen := hok.len
          simp only [gName, List.set_cons_succ, List.set_cons_zero]
          try dsimp only
          have lk : (intsN (keysB (bfB (chS S) (startB ns) k))).length = (bfB (chS S) (startB ns) k).length := by rw [intsN_len]; exact List.length_map ..
          refine seq_ fun N1 hN1 => ?_
          try dsimp only
          repeat (walk_at "oxs")
          refine ⟨_, .inl (SqL.of J.eW), ?_⟩
          rw [lk]
          by_cases hlt : k < (bfB (chS S) (startB ns) k).length
          · rw [if_neg (by omega)]
            refine hN1 _ _ ?_
            clear hN1 N1
            obtain ⟨e, ee⟩ : ∃ e, (bfB (chS S) (startB ns) k)[k]? = some e := ⟨_, List.getElem?_eq_getElem hlt⟩
            have en : (keysB (bfB (chS S) (startB ns) k))[k]? = some e.1 := by unfold keysB; rw [List.getElem?_map, ee]; rfl
            have hln : e.1 < S.things.length := hok.lt _ (List.mem_of_getElem? en)
            obtain ⟨th, et⟩ : ∃ th, S.things[e.1]? = some th := ⟨_, List.getElem?_eq_getElem hln⟩
            have hth := hC.sm th (List.mem_of_getElem? et)
            have hch : chS S e.1 = childT th := by unfold chS; rw [et]
            have hnx : bfB (chS S) (startB ns) (k + 1) = addB (e.1 : Nat) e.2.2 (bfB (chS S) (startB ns) k) (childT th) := by show stepB _ _ _ = _; unfold stepB; rw [ee]; dsimp only; rw [hch]
            have hcl : ∀ n ∈ childT th, n < S.things.length := fun n m => hC.cl e.1 hln n (by rw [hch]; exact m)
            refine for_ ?_
            repeat (walk_at "oxs")
            refine ⟨_, rl_l J.eW, _, intsN_get en, ?_⟩
            refine ⟨x, S, e.1, th, rfl, rfl, hS.same J.sm, et, hth.1, fun p H4 np s4 ep => ?_⟩
            have J4 := J.same s4
            have npD : p ≠ D := fun z => by rw [z, J.eD] at np; cases np
            have npW : p ≠ W := fun z => by rw [z, J.eW] at np; cases np
            refine ⟨p, rfl, ⟨_, .inl (.inl ep)⟩, ?_⟩
            refine loop_list (intsN (childT th)) (fun i σ H' => (∃ L, WI H D W L (addB (e.1 : Nat) e.2.2 (bfB (chS S) (startB ns) k) ((childT th).take i)) H') ∧ H' p = some (.lst (intsN (childT th))) ∧ ∃ v, σ = [some (.ref x.y), some (.ref l), some (.ref D), some (.ref W), v4, some (.int (k : Nat)), v]) ⟨⟨_, J4⟩, ep, _, rfl⟩ (fun i σ H' _ ⟨_, e, _⟩ => .inl (.inl e)) ?_ ?_
            · rintro i u σ H' hu ⟨⟨L5, I⟩, ep', v', rfl⟩
              obtain ⟨n, en1, rfl⟩ := mem_get hu
              have hok2 : OkB S.things.length (addB (e.1 : Nat) e.2.2 (bfB (chS S) (startB ns) k) ((childT th).take i)) := OkB.add hok (fun n m => hcl n (List.mem_of_mem_take m)) (.inr ⟨k, e, ee, rfl, rfl⟩)
              have hget : (addB (e.1 : Nat) e.2.2 (bfB (chS S) (startB ns) k) ((childT th).take i))[k]? = some e := by
                have : ∀ {cs : List Nat} {F : List BE}, F[k]? = some e → (addB (e.1 : Nat) e.2.2 F cs)[k]? = some e := by
                  intro cs
                  induction cs with
                  | nil => exact fun h => h
                  | cons z cs ih => exact fun h => ih (addOne_get h)
                exact this ee
              rw [take_get en1, addB_snoc]
              generalize addB (e.1 : Nat) e.2.2 (bfB (chS S) (startB ns) k) ((childT th).take i) = F at I hok2 hget ⊢
              have hlen2 := hok2.len
              have hb := I.has hok2.nd n
              have ek : (keysB F)[k]? = some e.1 := by unfold keysB; rw [List.getElem?_map, hget]; rfl
              have hwl := way_len hok2 k e hget
              repeat (walk_at "oxs")
              refine ⟨_, .inl I.eD, ?_⟩
              rw [hb]
              by_cases hm : n ∈ keysB F
              · rw [if_neg (by simp [hm])]
                refine ⟨⟨L5, ?_⟩, ep', _, rfl⟩
                unfold addOne; rw [if_pos hm]; exact I
              · rw [if_pos (by simp [hm])]
                obtain ⟨wa, g1, g2⟩ := I.get hok2.nd hget
                refine ⟨_, rl_l I.eW, _, intsN_get ek, _, .inl I.eD, _, g1, ?_⟩
                intro q1 H5 nq1 s5 eq1
                dsimp only
                simp only [s5 _ _ g2, eq1]
                refine ⟨by rw [intsN_len, sizeLine_eq]; simp only [List.length_singleton]; omega, fun q H6 nq s6 eq => ?_⟩
                have J6 := I.same (s5.trans s6)
                have nqH : H' q = none := s5.free nq
                have nqD : q ≠ D := fun z => by rw [z, I.eD] at nqH; cases nqH
                have nqW : q ≠ W := fun z => by rw [z, I.eW] at nqH; cases nqH
                have lkk : (kvW L5 F).length < sizeLine := by rw [kvW_len J6.pr, sizeLine_eq]; omega
                have eW2 : ∀ o, upd H6 D o W = some (.lst (intsN (keysB F))) := fun o => (upd_ne (Ne.symm J6.ne)).trans J6.eW
                refine ⟨_, J6.eD, lkk, ?_⟩
                simp only [eW2, true_and]
                refine ⟨by rw [intsN_len]; unfold keysB; rw [List.length_map, sizeLine_eq]; omega, ⟨_, J6.put hm (by rw [eq, intsN_snoc]) nqD nqW⟩, ?_, _, rfl⟩
                rw [upd_ne npW, upd_ne npD]; exact s6 _ _ (s5 _ _ ep')
            · rintro σ H' ⟨⟨L5, I⟩, ep', v', rfl⟩
              rw [intsN_len, List.take_length, ← hnx] at I
              exact ⟨⟨L5, I⟩, _, _, _, rfl⟩
          · rw [if_pos (by omega)]
            refine hN _ _ ?_
            walk_at "ox"
            have e := bfs_at (S := S) (ns := ns) (a := k) (by omega) (by omega)
            rw [e] at J hok
            exact h D H3 nD J.sm (J.ways hok.nd)
        · rintro σ H3 ⟨⟨L3, J⟩, v4, v5, v6, rfl⟩
          refine hN _ _ ?_
          walk_at "ox"
          exact h D H3 nD J.sm (J.ways (OkB.bfs hC hns).nd)
    · cases h
end

section
variable {P : Program} {w : World} {K : PySem.W.Frag} {mg : Str → Option Value} {base : Heap} {c : Cs}
/-! ### the law's machine -/
theorem Dr.live {H0 H : Hp} {s sc : Addr} {ns : List Int} (D : Dr K H0 s sc ns H) : ∃ xs, H s = some (.lst xs) := by
  obtain ⟨a, k, e, _⟩ := D.st; exact ⟨_, e⟩
theorem Dr.soft {H0 H : Hp} {s sc : Addr} {ns : List Int} (D : Dr K H0 s sc ns H) : ∀ p ∈ [s], Soft c H p := fun p m => by
  obtain ⟨xs, e⟩ := D.live
  rw [List.mem_singleton.mp m]; exact soft_lst e
theorem Dr.put {H0 H : Hp} {s sc D0 : Addr} {ns : List Int} {o : HO} (D : Dr K H0 s sc ns H) (h0 : H0 D0 = none) (n : D0 ≠ s) : Dr K H0 s sc ns (upd H D0 o) :=
  D.keep (ps := [D0]) (Keep.refl.upd (by simp)) (fun m => n (List.mem_singleton.mp m).symm) fun q m => by rw [List.mem_singleton.mp m]; exact h0
theorem Dr.ne2 {H0 H : Hp} {s sc p : Addr} {ns : List Int} (D : Dr K H0 s sc ns H) (n : H p = none) : p ≠ s := fun z => by
  obtain ⟨xs, e⟩ := D.live
  rw [z, e] at n; cases n
theorem RefsAt.hs {H H' : Hp} {xs : List V} {ns : List Nat} (h : RefsAt c H xs ns) (s : HardStay c H H') : RefsAt c H' xs ns := Paired.mapP h fun _ _ z => z.hs s
/-- a row of references that grows, drawn -/
def RefI (K : PySem.W.Frag) (c : Cs) (H0 H1 : Hp) (s sc D : Addr) (ns : List Int) (m : Nat) (i : Nat) (H : Hp) : Prop := Dr K H0 s sc ns H ∧ Keep [s] H1 H ∧ ∃ acc rs, H D = some (.lst acc) ∧ RefsAt c H acc rs ∧ rs.length = i ∧ ∀ n ∈ rs, n < m
theorem RefI.step {H0 H1 H H2 H3 : Hp} {s sc D r : Addr} {ns : List Int} {m i : Nat} {d : Int} (h : RefI K c H0 H1 s sc D ns m i H) (nD : H1 D = none) (n0 : H0 D = none) (nDs : D ≠ s) (hi : i ≤ 100) (k2 : Keep [s] H H2) (D2 : Dr K H0 s sc ns H2) (d0 : 0 ≤ d) (d1 : d < (m : Nat)) (s3 : Same H2 H3) (dx : Addr) (er : H3 r = some (.ins c.Ref dx [("number", .int d)])) :
    ∃ acc, H3 D = some (.lst acc) ∧ acc.length < sizeLine ∧ RefI K c H0 H1 s sc D ns m (i + 1) (upd H3 D (.lst (acc ++ [.ref r]))) := by
  obtain ⟨Di, ki, acc, rs, eD, hr, hl, hm⟩ := h
  obtain ⟨d, rfl⟩ := Int.eq_ofNat_of_zero_le d0
  have eD3 : H3 D = some (.lst acc) := s3 _ _ (k2 _ _ (by simpa using nDs) eD)
  have la : acc.length = rs.length := Paired.length hr
  have hs3 : HardStay c H H3 := (HardStay.keep k2 Di.soft).trans (.same s3)
  have hs4 : HardStay c H3 (upd H3 D (.lst (acc ++ [.ref r]))) := .keep (ps := [D]) (Keep.refl.upd (by simp)) fun p m => by rw [List.mem_singleton.mp m]; exact soft_lst eD3
  refine ⟨acc, eD3, by rw [sizeLine_eq]; omega, (D2.same s3).put n0 nDs, ((ki.trans k2).trans (Keep.of s3)).updN nD, _, rs ++ [d], upd_same, Paired.snoc (hr.hs (hs3.trans hs4)) ⟨r, rfl, dx, hs4 _ _ er Hard.r⟩, by rw [List.length_append, List.length_singleton, hl], fun n mn => ?_⟩
  rcases List.mem_append.mp mn with q | q
  · exact hm n q
  · rw [List.mem_singleton.mp q]; omega
def spLRefs (K : PySem.W.Frag) (c : Cs) : Sp := fun vs H Q _ => match vs with
  | [.ref s, .int m, .int mo] => ∃ H0 sc ns, Dr K H0 s sc ns H ∧ 0 < m ∧ m ≤ 100 ∧ 0 < mo ∧ mo ≤ 10 ∧ ∀ p H1 xs rs, Keep [s] H H1 → Dr K H0 s sc ns H1 → H p = none → H1 p = some (.lst xs) → RefsAt c H1 xs rs → (rs.length : Int) < mo → (∀ n ∈ rs, ((n : Nat) : Int) < m) → Q (.ref p) H1
  | _ => False
theorem ok_lrefs (A : At K mg "_law_refs" "_law_refs" s_law_refs ["state", "many", "most"]) (T : Txt K mg c) (H_law_draw : Has P w K mg base CX0 "_law_draw" 2 ["state", "many"] (spDraw K)) (M_Ref : HasC P w K mg base CX0 c.Ref "Ref" 1 ["self", "number"] (spMk_Ref K c)) : Has P w K mg base CX0 "_law_refs" 3 ["state", "many", "most"] (spLRefs K c) := by
  have Sc := sc_law_refs
  refine has_of A Sc (fun vs H Q E h => ?_) (fun cdv f A outer s H vs Q E hr h => ?_)
  · unfold spLRefs at h; split at h; rfl; cases h
  · unfold spLRefs at h
    split at h
    · rename_i s m mo
      obtain ⟨H0, sc, ns, D, hm0, hm1, ho0, ho1, h⟩ := h
      obtain ⟨m, rfl⟩ := Int.eq_ofNat_of_zero_le (Int.le_of_lt hm0)
      refine ⟨_, (pss_one (ps_ret (pe_lc (own := [("k", 3)]) (by rfl) Sc.nd (pi_range1 (by rfl) T.no_range (pa_cons (fe_call H_law_draw (hr.mono (by walk_at "rm")) (by rfl) pass0 (pa_cons (fe_var 0) (pa_cons (fe_var 2) pa_nil))) pa_nil)) (blkOk_by (own := [("k", 3)]) (N := ["state", "many", "most", "k"]) (sc := defScope s_law_refs) (by decide +kernel)) (fun _ _ _ _ _ => (pg_name (i := 3) Sc.nd rfl (.inl rfl))) (fun _ _ _ _ _ => pts_nil) (fun _ _ _ _ _ => (fe_make (k := _) M_Ref (hr.mono (by walk_at "rm")) (by rfl) pass0 (pa_cons (fe_call H_law_draw (hr.mono (by walk_at "rm")) (by rfl) pass0 (pa_cons (fe_var 0) (pa_cons (fe_var 1) pa_nil))) pa_nil)))))), ?_⟩
      walk_at "fx0"
      refine lc_ ?_
      repeat (walk_at "oxs")
      refine ⟨H0, sc, ns, D, ho0, by omega, fun H1 d k1 D1 d0 d1 => ?_⟩
      obtain ⟨cnt, rfl⟩ := Int.eq_ofNat_of_zero_le d0
      refine ⟨_, rfl, by omega, by omega, fun p np => ?_⟩
      have nps := D1.ne2 np
      have n0 : H0 p = none := D1.sm.free np
      rw [Int.toNat_natCast]
      refine lcx_range (RefI K c H0 H1 s sc p ns m) ⟨D1.same (same_new np), Keep.of (same_new np), [], [], upd_same, .nil, rfl, fun _ m => by cases m⟩ ?_ ?_
      · rintro i H2 hi hI
        walk_at "ox"
        repeat (walk_at "oxs")
        refine ⟨H0, sc, ns, hI.1, hm0, by omega, fun H3 z k3 D3 z0 z1 => ?_⟩
        unfold spMk_Ref
        intro r rdx H4 nr s4 er
        exact hI.step np n0 nps (by omega) k3 D3 z0 z1 s4 rdx er
      · rintro H2 ⟨D2, k2, acc, rs, eD, hr2, hl, hm⟩
        have npH : H p = none := by
          cases e : H p with
          | none => rfl
          | some o => rw [k1 _ _ (by simpa using nps) e] at np; cases np
        exact h p H2 acc rs (k1.trans k2) D2 npH eD hr2 (by omega) (fun n mn => by have := hm n mn; omega)
    · cases h
def MG (c : Cs) (y sy fl : Addr) (fs : List V) (H : Hp) : Prop := (∃ dx v1 v2 v3 v4, H y = some (.ins c.Machine dx [("store", .ref sy), ("steps", v1), ("frames", .ref fl), ("state", v2), ("thrown", .non), ("places", v3), ("_code", v4)])) ∧ H fl = some (.lst fs)
theorem MG.gm {y sy fl : Addr} {fs : List V} : ∀ H H', MG c y sy fl fs H → HardStay c H H' → (∀ q ∈ [y, fl], ∀ o, H q = some o → H' q = some o) → MG c y sy fl fs H' := fun H H' h _ k => by
  obtain ⟨⟨dx, v1, v2, v3, v4, e⟩, e2⟩ := h
  exact ⟨⟨dx, v1, v2, v3, v4, k _ (by simp) _ e⟩, k _ (by simp) _ e2⟩
/-- the store of the law's machine -/
structure OkS (S : SV) (m : Nat) : Prop where
  sm : ∀ t ∈ S.things, SmT t ∧ (childT t).length ≤ 2000
  lt : ∀ t ∈ S.things, ∀ n ∈ childT t, n < m
def spLMach (K : PySem.W.Frag) (w : World) (c : Cs) : Sp := fun vs H Q _ => match vs with
  | [.ref s] => ∃ H0 sc ns, Dr K H0 s sc ns H ∧ ∀ y fl fs x S H1, Wd K w c H0 s sc ns x S (MG c y x.y fl fs) [y, fl] H1 → OkS S S.things.length → 2 ≤ S.things.length → S.things.length ≤ 20 → Q (.ref y) H1
  | _ => False
def MchI (K : PySem.W.Frag) (w : World) (c : Cs) (H0 : Hp) (s sc y fl sy : Addr) (ns : List Int) (fs : List V) (m : Nat) (k : Nat) (σ : L2.St) (H : Hp) : Prop := ∃ x S v4 v5 v6 v7, σ = [some (.ref s), some (.ref y), some (.ref sy), some (.int (m : Nat)), v4, v5, v6, v7] ∧ x.y = sy ∧ Wd K w c H0 s sc ns x S (MG c y sy fl fs) [y, fl] H ∧ OkS S m ∧ S.things.length = 1 + k
theorem OkS.add {S : SV} {m : Nat} {t : Th} (h : OkS S m) (h1 : SmT t) (h2 : (childT t).length ≤ 2000) (h3 : ∀ n ∈ childT t, n < m) : OkS (S.add t) m := by
  refine ⟨fun u hu => ?_, fun u hu => ?_⟩ <;> rcases List.mem_append.mp (show u ∈ S.things ++ [t] from hu) with q | q
  · exact h.sm u q
  · rw [List.mem_singleton.mp q]; exact ⟨h1, h2⟩
  · exact h.lt u q
  · rw [List.mem_singleton.mp q]; exact h3
theorem add_len {S : SV} {t : Th} : (S.add t).things.length = S.things.length + 1 := by show (S.things ++ [t]).length = _; simp
set_option maxHeartbeats 8000000 in
theorem ok_lmach (A : At K mg "_law_machine" "_law_machine" s_law_machine ["state"]) (T : Txt K mg c) (H_law_draw : Has P w K mg base CX0 "_law_draw" 2 ["state", "many"] (spDraw K)) (M_Ref : HasC P w K mg base CX0 c.Ref "Ref" 1 ["self", "number"] (spMk_Ref K c)) (M_Chunk : HasCD P w K mg base CX0 c.Chunk "Chunk" 1 ["self", "number", "wanted", "rows", "scopes"] (spMkChunk K c)) (M_Machine : HasC P w K mg base CX0 c.Machine "Machine" 5 ["self", "chunks", "lines"] (spMachine K w c)) (M_Store_make : HasM P w K mg base CX0 c.Store "make" 3 ["self", "thing"] (spMake w c)) (M_Variable : HasC P w K mg base CX0 c.Variable "Variable" 1 ["self", "value"] (spMk_Variable K c)) (M_Instance : HasC P w K mg base CX0 c.Instance "Instance" 1 ["self", "owner"] (spMk_Instance K c)) (M_Closure : HasC P w K mg base CX0 c.Closure "Closure" 1 ["self", "number", "wanted", "scope"] (spMk_Closure K c)) (M_Parts : HasC P w K mg base CX0 c.Parts "Parts" 1 ["self", "held"] (spMk_Parts K c)) : Has P w K mg base CX0 "_law_machine" 7 ["state"] (spLMach K w c) := by
  have Sc := sc_law_machine
  refine has_of A Sc (fun vs H Q E h => ?_) (fun cdv f A outer s H vs Q E hr h => ?_)
  · unfold spLMach at h; split at h; rfl; cases h
  · unfold spLMach at h
    split at h
    · rename_i s
      obtain ⟨H0, sc, ns, D, h⟩ := h
      refine ⟨_, (pss_cons (ps_set (i := 1) Sc.nd rfl (.inl rfl) (fe_make (k := _) M_Machine (hr.mono (by walk_at "rm")) (by rfl) pass0 (pa_cons (fe_lst (pa_cons (fe_makeD (k := _) M_Chunk (hr.mono (by walk_at "rm")) (by rfl) pass0 (pa_cons pe_int (pa_cons pe_int (pa_cons (fe_lst (pa_cons (fe_tup (pa_cons pe_str (pa_cons pe_non pa_nil))) (pa_cons (fe_tup (pa_cons pe_str pa_nil)) pa_nil))) pa_nil)))) pa_nil)) (pa_cons (fe_lst pa_nil) pa_nil))))
      (pss_cons (ps_set (i := 2) Sc.nd rfl (.inl rfl) (fe_fld (fe_var 1) T.pl_store rfl))
      (pss_cons (ps_set (i := 3) Sc.nd rfl (.inr rfl) (pe_op op_fAdd pe_int (fe_call H_law_draw (hr.mono (by walk_at "rm")) (by rfl) pass0 (pa_cons (fe_var 0) (pa_cons pe_int pa_nil)))))
      (pss_cons (ps_for PassesOwn.never rfl (pi_range2 (by rfl) T.no_range (pa_cons pe_int (pa_cons (fe_var 3) pa_nil))) (pg_name (i := 4) Sc.nd rfl (.inl rfl)) (pss_cons (ps_setLc (i := 5) (own := [("j", 7)]) (by rfl) Sc.nd rfl rfl (sw_true rfl rfl rfl (by decide +kernel)) (pi_range1 (by rfl) T.no_range (pa_cons (fe_call H_law_draw (hr.mono (by walk_at "rm")) (by rfl) pass0 (pa_cons (fe_var 0) (pa_cons pe_int pa_nil))) pa_nil)) (blkOk_by (own := [("j", 7)]) (N := ["state", "machine", "store", "many", "k", "refs", "kind", "j"]) (sc := defScope s_law_machine) (by decide +kernel)) (fun _ _ _ _ _ => (pg_name (i := 7) Sc.nd rfl (.inl rfl))) (fun _ _ _ _ _ => pts_nil) (fun _ _ _ _ _ => (fe_make (k := _) M_Ref (hr.mono (by walk_at "rm")) (by rfl) pass0 (pa_cons (fe_call H_law_draw (hr.mono (by walk_at "rm")) (by rfl) pass0 (pa_cons (fe_var 0) (pa_cons (fe_var 3) pa_nil))) pa_nil))))
      (pss_cons (ps_set (i := 6) Sc.nd rfl (.inl rfl) (fe_call H_law_draw (hr.mono (by walk_at "rm")) (by rfl) pass0 (pa_cons (fe_var 0) (pa_cons pe_int pa_nil))))
      (pss_one (ps_if (pt_cmpR (op_fEq hr.units) (fe_var 6) pe_int (nomark _)) (pss_one (ps_expr (fe_meth M_Store_make T.cl_Store (hr.mono (by walk_at "rm")) pass0 (fe_var 2) (pa_cons (fe_make (k := _) M_Variable (hr.mono (by walk_at "rm")) (by rfl) pass0 (pa_cons (fe_make (k := _) M_Ref (hr.mono (by walk_at "rm")) (by rfl) pass0 (pa_cons (fe_call H_law_draw (hr.mono (by walk_at "rm")) (by rfl) pass0 (pa_cons (fe_var 0) (pa_cons (fe_var 3) pa_nil))) pa_nil)) pa_nil)) pa_nil)))) (pss_one (ps_if (pt_cmpR (op_fEq hr.units) (fe_var 6) pe_int (nomark _)) (pss_one (ps_expr (fe_meth M_Store_make T.cl_Store (hr.mono (by walk_at "rm")) pass0 (fe_var 2) (pa_cons (fe_make (k := _) M_Instance (hr.mono (by walk_at "rm")) (by rfl) pass0 (pa_cons (fe_make (k := _) M_Ref (hr.mono (by walk_at "rm")) (by rfl) pass0 (pa_cons (fe_call H_law_draw (hr.mono (by walk_at "rm")) (by rfl) pass0 (pa_cons (fe_var 0) (pa_cons (fe_var 3) pa_nil))) pa_nil)) pa_nil)) pa_nil)))) (pss_one (ps_if (pt_cmpR (op_fEq hr.units) (fe_var 6) pe_int (nomark _)) (pss_one (ps_expr (fe_meth M_Store_make T.cl_Store (hr.mono (by walk_at "rm")) pass0 (fe_var 2) (pa_cons (fe_make (k := _) M_Closure (hr.mono (by walk_at "rm")) (by rfl) pass0 (pa_cons pe_int (pa_cons pe_int (pa_cons (pe_callTy call_fTupOf (by rfl) T.no_tuple (by decide +kernel) (pa_cons (fe_var 5) pa_nil)) pa_nil)))) pa_nil)))) (pss_one (ps_expr (fe_meth M_Store_make T.cl_Store (hr.mono (by walk_at "rm")) pass0 (fe_var 2) (pa_cons (fe_make (k := _) M_Parts (hr.mono (by walk_at "rm")) (by rfl) pass0 (pa_cons (pe_op op_fAdd (fe_var 5) (fe_lst (pa_cons pe_int pa_nil))) pa_nil)) pa_nil)))))))))))))
      (pss_one (ps_ret (fe_var 1))))))), ?_⟩
      walk_at "fx0"
      refine seq_ fun N hN => ?_
      try dsimp only
      repeat (walk_at "oxs")
      intro p1 H1 n1 s1 e1 p2 H2 n2 s2 e2 p3 H3 n3 s3 e3
      unfold spMkChunk
      refine ⟨_, rl_l e3, fun ch cdx q1 q2 H4 n4 s4 e4 _ _ _ _ _ _ _ => ?_⟩
      intro p5 H5 n5 s5 e5 p6 H6 n6 s6 e6
      unfold spMachine
      refine ⟨ch, cdx, _, _, _, s6 _ _ e5, s6 _ _ (s5 _ _ e4), e6, fun y dx x fl pl cd f H7 ny nfl nx s7 St ey nyf nyx nfx efl => hN _ _ ?_⟩
      clear hN N
      have S6 := ((((s1.trans s2).trans s3).trans s4).trans s5).trans s6
      have D6 := D.same S6
      have D7 := D6.same s7
      have W7 : Wd K w c H0 s sc ns x (st0 []) (MG c y x.y fl [f]) [y, fl] H7 := by
        refine ⟨D7, St, ⟨⟨_, _, _, _, _, ey⟩, efl⟩, MG.gm, fun q m => ?_, ?_, fun q m => ?_⟩
        · simp only [List.mem_cons, List.not_mem_nil, or_false] at m
          rcases m with rfl | rfl
          · exact ⟨_, ey⟩
          · exact ⟨_, efl⟩
        · have nsx : s ∉ x.foot := fun m => D6.ne2 (nx s m) rfl
          have nsy : s ≠ y := fun z => D6.ne2 (z ▸ ny) rfl
          have nsf : s ≠ fl := fun z => D6.ne2 (z ▸ nfl) rfl
          rw [List.nodup_cons, List.nodup_append]
          refine ⟨fun m => ?_, St.nd, by simp [nyf], fun a ha b hb z => ?_⟩
          · rcases List.mem_append.mp m with m | m
            · exact nsx m
            · simp only [List.mem_cons, List.not_mem_nil, or_false] at m
              exact m.elim nsy nsf
          · simp only [List.mem_cons, List.not_mem_nil, or_false] at hb
            rcases hb with rfl | rfl
            · exact nyx (z ▸ ha)
            · exact nfx (z ▸ ha)
        · rcases List.mem_cons.mp m with rfl | m
          · exact D.nw
          · rcases List.mem_append.mp m with m | m
            · exact D6.sm.free (nx q m)
            · simp only [List.mem_cons, List.not_mem_nil, or_false] at m
              rcases m with rfl | rfl
              · exact D6.sm.free ny
              · exact D6.sm.free nfl
      have hlen0 : (st0 []).things.length = 1 := rfl
      refine seq_ fun N hN => ?_
      try dsimp only
      repeat (first | walk_at "oxs" | simp only [ey])
      refine hN _ _ ?_
      clear hN N
      refine seq_ fun N hN => ?_
      try dsimp only
      repeat (walk_at "oxs")
      refine ⟨H0, sc, ns, W7.dr, by omega, by omega, fun H8 d k8 D8 d0 d1 => hN _ _ ?_⟩
      clear hN N
      have W8 := W7.draw k8 D8
      obtain ⟨m, hm⟩ := Int.eq_ofNat_of_zero_le (show (0 : Int) ≤ 2 + d by omega)
      rw [hm]
      refine seq_ fun N hN => for_ ?_
      try dsimp only
      repeat (walk_at "oxs")
      refine ⟨by omega, ?_⟩
      refine loop_range (MchI K w c H0 s sc y fl x.y ns [f] m) ⟨x, st0 [], _, _, _, _, rfl, rfl, W8, ⟨fun t ht => ?_, fun t ht n hn => ?_⟩, rfl⟩ ?_ ?_
      · rw [List.mem_singleton.mp ht]; exact ⟨⟨by simp, List.nodup_nil⟩, by decide⟩
      · rw [List.mem_singleton.mp ht] at hn; cases hn
      · rintro k σ H9 hk ⟨x9, S, v4, v5, v6, v7, rfl, ex, W9, hok, hsl⟩
        simp only [gName, List.set_cons_succ, List.set_cons_zero]
        try dsimp only
        refine seq_ fun N1 hN1 => ?_
        try dsimp only
        repeat (walk_at "oxs")
        refine lc_ ?_
        repeat (walk_at "oxs")
        refine ⟨H0, sc, ns, W9.dr, by omega, by omega, fun H10 d9 k10 D10 d90 d91 => ?_⟩
        have W10 := W9.draw k10 D10
        obtain ⟨cnt, rfl⟩ := Int.eq_ofNat_of_zero_le d90
        refine ⟨_, rfl, by omega, by omega, fun p np => ?_⟩
        have nps := D10.ne2 np
        have n0 : H0 p = none := D10.sm.free np
        rw [Int.toNat_natCast]
        refine lcx_range (RefI K c H0 H10 s sc p ns m) ⟨D10.same (same_new np), Keep.of (same_new np), [], [], upd_same, .nil, rfl, fun _ m => by cases m⟩ ?_ ?_
        · rintro i H2 hi hI
          walk_at "ox"
          repeat (walk_at "oxs")
          refine ⟨H0, sc, ns, hI.1, by omega, by omega, fun H3 z k3 D3 z0 z1 => ?_⟩
          unfold spMk_Ref
          intro r rdx H4 nr s4 er
          exact hI.step np n0 nps (by omega) k3 D3 z0 z1 s4 rdx er
        · rintro H11 ⟨D11, k11, acc, rs, eD, hr2, hl, hmr⟩
          refine hN1 _ _ ?_
          clear hN1 N1
          have W11 := W10.draw k11 D11
          refine seq_ fun N1 hN1 => ?_
          try dsimp only
          repeat (walk_at "oxs")
          refine ⟨H0, sc, ns, W11.dr, by omega, by omega, fun H12 kd k12 D12 d20 d21 => hN1 _ _ ?_⟩
          clear hN1 N1
          have W12 := W11.draw k12 D12
          have eD12 := k12 _ _ (by simpa using nps) eD
          have hr12 : RefsAt c H12 acc rs := hr2.hs (.keep k12 D11.soft)
          have fin : ∀ {H13 t a b r vv v7}, SmT t → (childT t).length ≤ 2000 → (∀ n ∈ childT t, n < m) → Wd K w c H0 s sc ns (x9.add a b) (S.add t) (MG c y x.y fl [f]) [y, fl] H13 → MchI K w c H0 s sc y fl x.y ns [f] m (k + 1) [some (.ref s), some (.ref y), some (.ref x.y), some (.int (m : Nat)), r, vv, some (.int kd), v7] H13 := fun {H13 t a b r vv v7} h1 h2 h3 W13 => ⟨x9.add a b, S.add t, _, _, _, _, rfl, ex, W13, hok.add h1 h2 h3, by rw [add_len, hsl]; omega⟩
          rw [← ex] at fin W12 ⊢
          obtain ⟨sdx, es⟩ := W12.st.st
          have hcnt : rs.length ≤ 10 := by omega
          repeat (walk_at "oxs")
          by_cases q0 : kd = 0
          · rw [if_pos q0]
            refine ⟨by rw [es]; exact ⟨rfl, rfl⟩, H0, sc, ns, W12.dr, by omega, by omega, fun H13 z k13 D13 z0 z1 => ?_⟩
            have W13 := W12.draw k13 D13
            obtain ⟨z, rfl⟩ := Int.eq_ofNat_of_zero_le z0
            unfold spMk_Ref
            intro r rdx H14 nr s14 er
            unfold spMk_Variable
            intro v vdx H15 nv s15 ev
            have W14 := W13.same s14
            refine new_make (t := .var (.ob z)) (b := none) W14.st s15 ⟨vdx, _, rfl, ev, r, rfl, rdx, s15 _ _ er⟩ foot_one (free_one nv) (by omega) ?_
            intro r2 a b H16 nr2 nf k16 st16 hr16
            exact fin (t := .var (.ob z)) trivial (by show ([z] : List Nat).length ≤ 2000; rw [List.length_singleton]; omega) (fun n hn => by have : n ∈ [z] := hn; rw [List.mem_singleton.mp this]; omega) (W14.make nf k16 st16)
          · rw [if_neg q0]
            by_cases q1 : kd = 1
            · rw [if_pos q1]
              refine ⟨by rw [es]; exact ⟨rfl, rfl⟩, H0, sc, ns, W12.dr, by omega, by omega, fun H13 z k13 D13 z0 z1 => ?_⟩
              have W13 := W12.draw k13 D13
              obtain ⟨z, rfl⟩ := Int.eq_ofNat_of_zero_le z0
              unfold spMk_Ref
              intro r rdx H14 nr s14 er
              unfold spMk_Instance
              have W14 := W13.same s14
              intro v vdx nm H15 nv s15 ev nnm enm hne
              refine new_make (t := .inst z []) (b := some nm) W14.st s15 ⟨vdx, r, nm, [], rfl, ev, ⟨rdx, s15 _ _ er⟩, enm, .nil⟩ (foot_two hne) (free_two nv nnm) (by omega) ?_
              intro r2 a b H16 nr2 nf k16 st16 hr16
              exact fin (t := .inst z []) ⟨by simp, List.nodup_nil⟩ (by show ([z] : List Nat).length ≤ 2000; rw [List.length_singleton]; omega) (fun n hn => by have : n ∈ [z] := hn; rw [List.mem_singleton.mp this]; omega) (W14.make nf k16 st16)
            · rw [if_neg q1]
              by_cases q2 : kd = 2
              · rw [if_pos q2]
                refine ⟨by rw [es]; exact ⟨rfl, rfl⟩, _, eD12, fun l H13 nl s13 el => ?_⟩
                have W13 := W12.same s13
                unfold spMk_Closure
                intro v vdx H14 nv s14 ev
                refine new_make (t := .clo 0 0 rs) (b := none) W13.st s14 ⟨vdx, l, acc, rfl, ev, s14 _ _ el, hr12.same (s13.trans s14)⟩ foot_one (free_one nv) (by omega) ?_
                intro r2 a b H16 nr2 nf k16 st16 hr16
                exact fin (t := .clo 0 0 rs) (by show rs.length ≤ 1000; omega) (by show rs.length ≤ 2000; omega) (fun n hn => hmr n hn) (W13.make nf k16 st16)
              · rw [if_neg q2]
                refine ⟨by rw [es]; exact ⟨rfl, rfl⟩, fun p1 H13 np1 s13 ep1 => ?_⟩
                have eD13 := s13 _ _ eD12
                simp only [eD13, ep1]
                have lacc : acc.length = rs.length := Paired.length hr2
                refine ⟨by simp only [List.length_singleton]; rw [sizeLine_eq]; omega, fun p2 H14 np2 s14 ep2 => ?_⟩
                have W14 := W12.same (s13.trans s14)
                unfold spMk_Parts
                refine ⟨_, rl_l ep2, fun v vdx hl H15 nv s15 ev nhl ehl hne => ?_⟩
                have hvs : VsAt c H15 (acc ++ [.int 7]) (rs.map RV.ob ++ [.num 7]) := by
                  refine Paired.snoc ?_ rfl
                  exact refsV_vs (hr12.same ((s13.trans s14).trans s15))
                have hch : childT (.parts (rs.map RV.ob ++ [.num 7])) = rs := by
                  show refsR (rs.map RV.ob ++ [.num 7]) = rs
                  rw [refsR_snoc, refsR_ob]
                  exact List.append_nil _
                refine new_make (t := .parts (rs.map RV.ob ++ [.num 7])) (b := some hl) W14.st s15 ⟨vdx, hl, _, rfl, ev, ehl, hvs⟩ (foot_two hne) (free_two nv nhl) (by omega) ?_
                intro r2 a b H16 nr2 nf k16 st16 hr16
                exact fin (t := .parts (rs.map RV.ob ++ [.num 7])) (by show (rs.map RV.ob ++ [RV.num 7]).length ≤ 1000; rw [List.length_append, List.length_map, List.length_singleton]; omega) (by rw [hch]; omega) (by rw [hch]; exact hmr) (W14.make nf k16 st16)
      · rintro σ H9 ⟨x9, S, v4, v5, v6, v7, rfl, ex, W9, hok, hsl⟩
        refine hN _ _ ?_
        walk_at "ox"
        rw [← ex] at W9
        refine h y fl [f] x9 S H9 W9 ?_ (by omega) (by omega)
        rw [hsl]
        have : 1 + ((m : Int) - 1).toNat = m := by omega
        rw [this]; exact hok
    · cases h
end

section
variable {P : Program} {w : World} {K : PySem.W.Frag} {mg : Str → Option Value} {base : Heap} {c : Cs}
/-! ### the law's frames -/
abbrev FA := Addr × Addr × Addr
def FrB (c : Cs) (H : Hp) (q : FA) (F : FrV) : Prop := ∃ dx v1 v2 t xs ys ht it zs, H q.1 = some (.ins c.Frame dx [("number", v1), ("at", v2), ("scope", .ref t), ("stack", .ref q.2.1), ("handlers", .ref q.2.2), ("made", .non)]) ∧ H t = some (.tup xs) ∧ RefsAt c H xs F.sc ∧ H q.2.1 = some (.lst ys) ∧ VsAt c H ys F.st ∧ H q.2.2 = some (.lst [.ref ht]) ∧ H ht = some (.tup [.int 0, .ref it]) ∧ H it = some (.tup zs) ∧ RefsAt c H zs F.hn
def footF (L : List FA) : List Addr := L.flatMap fun q => [q.1, q.2.1, q.2.2]
theorem FrB.mono {H H' : Hp} {q : FA} {F : FrV} (h : FrB c H q F) (s : HardStay c H H') (k : ∀ a ∈ [q.1, q.2.1, q.2.2], ∀ o, H a = some o → H' a = some o) : FrB c H' q F := by
  obtain ⟨dx, v1, v2, t, xs, ys, ht, it, zs, e1, e2, e3, e4, e5, e6, e7, e8, e9⟩ := h
  exact ⟨dx, v1, v2, t, xs, ys, ht, it, zs, k _ (by simp) _ e1, s _ _ e2 (Hard.t _), e3.hs s, k _ (by simp) _ e4, e5.hs s, k _ (by simp) _ e6, s _ _ e7 (Hard.t _), s _ _ e8 (Hard.t _), e9.hs s⟩
def MGF (c : Cs) (y sy fl : Addr) (L : List FA) (Fs : List FrV) (H : Hp) : Prop := MG c y sy fl (L.map fun q => V.ref q.1) H ∧ Paired (FrB c H) L Fs
theorem mem_footF {L : List FA} {q : FA} {a : Addr} (h : q ∈ L) (ha : a ∈ [q.1, q.2.1, q.2.2]) : a ∈ footF L := List.mem_flatMap.mpr ⟨q, h, ha⟩
theorem MGF.gm {y sy fl : Addr} {L : List FA} {Fs : List FrV} : ∀ H H', MGF c y sy fl L Fs H → HardStay c H H' → (∀ q ∈ y :: fl :: footF L, ∀ o, H q = some o → H' q = some o) → MGF c y sy fl L Fs H' := fun H H' h s k =>
  ⟨MG.gm H H' h.1 s fun q m => k q (by rcases List.mem_cons.mp m with rfl | m; exact List.mem_cons_self ..; exact List.mem_cons_of_mem _ (by rw [List.mem_singleton.mp m]; exact List.mem_cons_self ..)),
   Paired.mapP (paired_mem h.2) fun q F z => z.2.mono s fun a m o => k a (List.mem_cons_of_mem _ (List.mem_cons_of_mem _ (mem_footF z.1 m))) o⟩
theorem MGF.mac {H : Hp} {y sy fl : Addr} {L : List FA} {Fs : List FrV} (h : MGF c y sy fl L Fs H) : Mac c H y sy fl Fs := by
  obtain ⟨⟨⟨dx, v1, v2, v3, v4, e⟩, e2⟩, e3⟩ := h
  refine ⟨⟨dx, v1, v2, v3, v4, e⟩, _, e2, ?_⟩
  clear e2
  induction e3 with
  | nil => exact .nil
  | @cons q F L Fs h t ih =>
    obtain ⟨dx, v1, v2, t, xs, ys, ht, it, zs, e1, e2, e3, e4, e5, e6, e7, e8, e9⟩ := h
    exact .cons ⟨q.1, rfl, dx, v1, v2, t, xs, q.2.1, ys, q.2.2, ht, it, zs, e1, e2, e3, e4, e5, e6, e7, e8, e9⟩ ih
structure OkF (F : FrV) (m : Nat) : Prop where
  sm : SmF F
  lt : ∀ n ∈ oneF F, n < m
def spLFrames (K : PySem.W.Frag) (w : World) (c : Cs) : Sp := fun vs H Q _ => match vs with
  | [.ref y, .ref s] => ∃ H0 sc ns x S fl fs, Wd K w c H0 s sc ns x S (MG c y x.y fl fs) [y, fl] H ∧ 2 ≤ S.things.length ∧ S.things.length ≤ 20 ∧
    ∀ tp pr ps L Fs H1, Wd K w c H0 s sc ns x S (MGF c y x.y fl L Fs) (y :: fl :: footF L) H1 → Fs.length ≤ 3 → (∀ F ∈ Fs, OkF F S.things.length) → H1 tp = some (.tup [.ref pr, .ref ps]) → H1 pr = some (.lst (intsN (rootsF Fs))) → pr ≠ s → H1 ps = some (.lst (intsN (scopesF Fs))) → ps ≠ s → Q (.ref tp) H1
  | _ => False
def FrI (K : PySem.W.Frag) (w : World) (c : Cs) (H0 : Hp) (s sc y fl : Addr) (ns : List Int) (x : SA) (S : SV) (k : Nat) (σ : L2.St) (H : Hp) : Prop := ∃ L Fs pr ps v6 v7 v8 v9 v10 v11 v12 v13, σ = [some (.ref y), some (.ref s), some (.int (S.things.length : Nat)), some (.ref pr), some (.ref ps), some (.ref fl), v6, v7, v8, v9, v10, v11, v12, v13] ∧ Wd K w c H0 s sc ns x S (MGF c y x.y fl L Fs) (y :: fl :: footF L) H ∧ Fs.length = k ∧ (∀ F ∈ Fs, OkF F S.things.length) ∧ H pr = some (.lst (intsN (rootsF Fs))) ∧ pr ≠ s ∧ pr ≠ fl ∧ H ps = some (.lst (intsN (scopesF Fs))) ∧ ps ≠ s ∧ ps ≠ fl
theorem pr_app {α β : Type} {F : α → β → Prop} {xs xs' : List α} {ys ys' : List β} (h : Paired F xs ys) (g : Paired F xs' ys') : Paired F (xs ++ xs') (ys ++ ys') := by
  induction h with
  | nil => exact g
  | cons a b ih => exact .cons a ih
/-- the numbers of a row of references -/
def NmI (H0 : Hp) (D : Addr) (rs : List Nat) (i : Nat) (H : Hp) : Prop := Same H0 H ∧ H D = some (.lst (intsN (rs.take i)))
set_option maxHeartbeats 8000000 in
theorem ok_lframes (A : At K mg "_law_frames" "_law_frames" s_law_frames ["machine", "state"]) (T : Txt K mg c) (H_law_draw : Has P w K mg base CX0 "_law_draw" 2 ["state", "many"] (spDraw K)) (H_law_refs : Has P w K mg base CX0 "_law_refs" 3 ["state", "many", "most"] (spLRefs K c)) (M_Frame : HasC P w K mg base CX0 c.Frame "Frame" 1 ["self", "number", "scope"] (spMk_Frame K c)) : Has P w K mg base CX0 "_law_frames" 4 ["machine", "state"] (spLFrames K w c) := by
  have Sc := sc_law_frames
  refine has_of A Sc (fun vs H Q E h => ?_) (fun cdv f A outer s H vs Q E hr h => ?_)
  · unfold spLFrames at h; split at h; rfl; cases h
  · unfold spLFrames at h
    split at h
    · rename_i y s
      obtain ⟨H0, sc, ns, x, S, fl, fs, W, hl2, hl20, h⟩ := h
      obtain ⟨⟨mdx, u1, u2, u3, u4, ey⟩, efl⟩ := W.g
      obtain ⟨sdx, es⟩ := W.st.st
      have hlx : x.L.length = S.things.length := Paired.length W.st.th
      refine ⟨_, (pss_cons (ps_set (i := 2) Sc.nd rfl (.inl rfl) (pe_callB call_fLen (by rfl) T.no_len (by decide +kernel) (pa_cons (fe_fld (fe_fld (fe_var 0) T.pl_store rfl) T.pl_things rfl) pa_nil)))
      (pss_cons (ps_set (i := 3) Sc.nd rfl (.inl rfl) (fe_lst (pa_cons pe_int pa_nil)))
      (pss_cons (ps_set (i := 4) Sc.nd rfl (.inl rfl) (fe_lst pa_nil))
      (pss_cons (ps_set (i := 5) Sc.nd rfl (.inl rfl) (fe_fld (fe_var 0) T.pl_frames rfl))
      (pss_cons (ps_expr (fe_bm0 PySem.F.plainAttrs_list PySem.F.slot_list_clear PySem.F.type_list_clear isLst_ty mt_fClear (fe_var 5)))
      (pss_cons (ps_for PassesOwn.never rfl (pi_range1 (by rfl) T.no_range (pa_cons (fe_call H_law_draw (hr.mono (by walk_at "rm")) (by rfl) pass0 (pa_cons (fe_var 1) (pa_cons pe_int pa_nil))) pa_nil)) (pg_name (i := 6) Sc.nd rfl (.inl rfl)) (pss_cons (ps_set (i := 7) Sc.nd rfl (.inl rfl) (fe_call H_law_refs (hr.mono (by walk_at "rm")) (by rfl) pass0 (pa_cons (fe_var 1) (pa_cons (fe_var 2) (pa_cons pe_int pa_nil)))))
      (pss_cons (ps_set (i := 8) Sc.nd rfl (.inl rfl) (fe_make (k := _) M_Frame (hr.mono (by walk_at "rm")) (by rfl) pass0 (pa_cons pe_int (pa_cons (pe_callTy call_fTupOf (by rfl) T.no_tuple (by decide +kernel) (pa_cons (fe_var 7) pa_nil)) pa_nil))))
      (pss_cons (ps_set (i := 9) Sc.nd rfl (.inl rfl) (fe_call H_law_refs (hr.mono (by walk_at "rm")) (by rfl) pass0 (pa_cons (fe_var 1) (pa_cons (fe_var 2) (pa_cons pe_int pa_nil)))))
      (pss_cons (ps_set (i := 10) Sc.nd rfl (.inl rfl) (fe_call H_law_refs (hr.mono (by walk_at "rm")) (by rfl) pass0 (pa_cons (fe_var 1) (pa_cons (fe_var 2) (pa_cons pe_int pa_nil)))))
      (pss_cons (ps_set (i := 11) Sc.nd rfl (.inl rfl) (fe_fld (fe_var 8) T.pl_stack rfl))
      (pss_cons (ps_expr (fe_bm PySem.F.plainAttrs_list PySem.F.slot_list_extend PySem.F.type_list_extend isLst_ty mt_fExtend (fe_var 11) (pa_cons (pe_op op_fAdd (fe_var 9) (fe_lst (pa_cons pe_non (pa_cons pe_str pa_nil)))) pa_nil)))
      (pss_cons (ps_set (i := 12) Sc.nd rfl (.inl rfl) (fe_fld (fe_var 8) T.pl_handlers rfl))
      (pss_cons (ps_expr (fe_bm PySem.F.plainAttrs_list PySem.F.slot_list_append PySem.F.type_list_append isLst_ty mt_fAppend (fe_var 12) (pa_cons (fe_tup (pa_cons pe_int (pa_cons (pe_callTy call_fTupOf (by rfl) T.no_tuple (by decide +kernel) (pa_cons (fe_var 10) pa_nil)) pa_nil))) pa_nil)))
      (pss_cons (ps_set (i := 3) Sc.nd rfl (.inl rfl) (pe_op op_fAdd (pe_op op_fAdd (pe_op op_fAdd (fe_var 3) (pe_lc (own := [("ref", 13)]) (by rfl) Sc.nd (pi_list (fe_var 7)) (blkOk_by (own := [("ref", 13)]) (N := ["machine", "state", "many", "roots", "scopes", "frames", "k", "scope", "frame", "above", "inner", "stack", "handlers", "ref"]) (sc := defScope s_law_frames) (by decide +kernel)) (fun _ _ _ _ _ => (pg_name (i := 13) Sc.nd rfl (.inl rfl))) (fun _ _ _ _ _ => pts_nil) (fun _ _ _ _ _ => (fe_fld (fe_var 13) T.pl_number rfl)))) (pe_lc (own := [("ref", 13)]) (by rfl) Sc.nd (pi_list (fe_var 9)) (blkOk_by (own := [("ref", 13)]) (N := ["machine", "state", "many", "roots", "scopes", "frames", "k", "scope", "frame", "above", "inner", "stack", "handlers", "ref"]) (sc := defScope s_law_frames) (by decide +kernel)) (fun _ _ _ _ _ => (pg_name (i := 13) Sc.nd rfl (.inl rfl))) (fun _ _ _ _ _ => pts_nil) (fun _ _ _ _ _ => (fe_fld (fe_var 13) T.pl_number rfl)))) (pe_lc (own := [("ref", 13)]) (by rfl) Sc.nd (pi_list (fe_var 10)) (blkOk_by (own := [("ref", 13)]) (N := ["machine", "state", "many", "roots", "scopes", "frames", "k", "scope", "frame", "above", "inner", "stack", "handlers", "ref"]) (sc := defScope s_law_frames) (by decide +kernel)) (fun _ _ _ _ _ => (pg_name (i := 13) Sc.nd rfl (.inl rfl))) (fun _ _ _ _ _ => pts_nil) (fun _ _ _ _ _ => (fe_fld (fe_var 13) T.pl_number rfl)))))
      (pss_cons (ps_expr (fe_bm PySem.F.plainAttrs_list PySem.F.slot_list_append PySem.F.type_list_append isLst_ty mt_fAppend (fe_var 5) (pa_cons (fe_var 8) pa_nil)))
      (pss_one (ps_set (i := 4) Sc.nd rfl (.inl rfl) (pe_op op_fAdd (fe_var 4) (pe_lc (own := [("ref", 13)]) (by rfl) Sc.nd (pi_list (fe_var 7)) (blkOk_by (own := [("ref", 13)]) (N := ["machine", "state", "many", "roots", "scopes", "frames", "k", "scope", "frame", "above", "inner", "stack", "handlers", "ref"]) (sc := defScope s_law_frames) (by decide +kernel)) (fun _ _ _ _ _ => (pg_name (i := 13) Sc.nd rfl (.inl rfl))) (fun _ _ _ _ _ => pts_nil) (fun _ _ _ _ _ => (fe_fld (fe_var 13) T.pl_number rfl)))))))))))))))))
      (pss_one (ps_ret (fe_tup (pa_cons (fe_var 3) (pa_cons (fe_var 4) pa_nil))))))))))), ?_⟩
      walk_at "fx0"
      refine seq_ fun N hN => ?_
      try dsimp only
      repeat (first | walk_at "oxs" | simp only [ey, es])
      refine ⟨_, rl_l W.st.et, hN _ _ ?_⟩
      rw [List.length_map, hlx]
      clear hN N
      refine seq_ fun N hN => ?_
      try dsimp only
      repeat (walk_at "oxs")
      intro pr H1 npr s1 epr
      refine hN _ _ ?_
      clear hN N
      refine seq_ fun N hN => ?_
      try dsimp only
      repeat (walk_at "oxs")
      intro ps H2 nps s2 eps
      refine hN _ _ ?_
      clear hN N
      have S2 := s1.trans s2
      have W2 := W.same S2
      have ey2 := S2 _ _ ey
      have efl2 := S2 _ _ efl
      refine seq_ fun N hN => ?_
      try dsimp only
      repeat (first | walk_at "oxs" | simp only [ey2])
      refine hN _ _ ?_
      clear hN N
      refine seq_ fun N hN => ?_
      try dsimp only
      repeat (first | walk_at "oxs" | simp only [efl2])
      refine hN _ _ ?_
      clear hN N
      have W3 : Wd K w c H0 s sc ns x S (MGF c y x.y fl [] []) (y :: fl :: footF []) (upd H2 fl (.lst [])) := by
        have W3 := W2.own (G' := MG c y x.y fl []) (q := fl) (by simp) (Keep.refl.upd (by simp)) (soft_lst efl2) ⟨_, upd_same⟩ ⟨⟨mdx, u1, u2, u3, u4, (upd_ne (fun z => by rw [z, efl2] at ey2; cases ey2)).trans ey2⟩, upd_same⟩ MG.gm
        exact W3.as (gf' := y :: fl :: footF []) (by exact List.Perm.refl _) (fun H h => ⟨h, .nil⟩) MGF.gm
      have npf : pr ≠ fl := fun z => by rw [z, efl] at npr; cases npr
      have npf2 : ps ≠ fl := fun z => by rw [z, s1 _ _ efl] at nps; cases nps
      have nprs : pr ≠ s := W.dr.ne2 npr
      have npss : ps ≠ s := (W.dr.same s1).ne2 nps
      refine seq_ fun N hN => for_ ?_
      try dsimp only
      repeat (walk_at "oxs")
      refine ⟨H0, sc, ns, W3.dr, by omega, by omega, fun H3 d k3 D3 d0 d1 => ?_⟩
      have W4 := W3.draw k3 D3
      obtain ⟨cnt, rfl⟩ := Int.eq_ofNat_of_zero_le d0
      refine ⟨_, rfl, by omega, by omega, ?_⟩
      rw [Int.toNat_natCast]
      refine loop_range (FrI K w c H0 s sc y fl ns x S) ⟨[], [], pr, ps, _, _, _, _, _, _, _, _, rfl, W4, rfl, fun _ m => (by cases m), k3 _ _ (by simpa using nprs) ((upd_ne npf).trans (s2 _ _ epr)), nprs, npf, k3 _ _ (by simpa using npss) ((upd_ne npf2).trans eps), npss, npf2⟩ ?_ ?_
      · rintro k σ Ha hk ⟨L, Fs, pr, ps, v6, v7, v8, v9, v10, v11, v12, v13, rfl, Wa, hlk, hok, epr, q1, q2, eps, q3, q4⟩
        clear W W2 W3 W4 h hN
        simp only [gName, List.set_cons_succ, List.set_cons_zero]
        try dsimp only
        refine seq_ fun N1 hN1 => ?_
        try dsimp only
        repeat (walk_at "oxs")
        refine ⟨H0, sc, ns, Wa.dr, by omega, by omega, by omega, by omega, fun p1 Hb xs1 rs1 kb Db np1 ep1 hr1 hl1 hm1 => hN1 _ _ ?_⟩
        clear hN1 N1
        refine seq_ fun N1 hN1 => ?_
        try dsimp only
        repeat (walk_at "oxs")
        refine ⟨_, ep1, fun t Hc nt sct et => ?_⟩
        unfold spMk_Frame
        intro f fdx sl hl Hd nf sd ef nsl esl nhl ehl n1 n2 n3
        refine hN1 _ _ ?_
        clear hN1 N1
        have sbd := sct.trans sd
        have Dd := Db.same sbd
        refine seq_ fun N1 hN1 => ?_
        try dsimp only
        repeat (walk_at "oxs")
        refine ⟨H0, sc, ns, Dd, by omega, by omega, by omega, by omega, fun p2 He xs2 rs2 ke De np2 ep2 hr2 hl2' hm2 => hN1 _ _ ?_⟩
        clear hN1 N1
        refine seq_ fun N1 hN1 => ?_
        try dsimp only
        repeat (walk_at "oxs")
        refine ⟨H0, sc, ns, De, by omega, by omega, by omega, by omega, fun p3 Hf xs3 rs3 kf Df np3 ep3 hr3 hl3 hm3 => hN1 _ _ ?_⟩
        clear hN1 N1
        have Kdf : Keep [s] Hd Hf := ke.trans kf
        have nfs : f ≠ s := (Db.same sct).ne2 nf
        have nss : sl ≠ s := (Db.same sct).ne2 nsl
        have nhs : hl ≠ s := (Db.same sct).ne2 nhl
        have nts : t ≠ s := Db.ne2 nt
        have np1s : p1 ≠ s := Wa.dr.ne2 np1
        have np2s : p2 ≠ s := Dd.ne2 np2
        have ef5 := Kdf _ _ (by simpa using nfs) ef
        have esl5 := Kdf _ _ (by simpa using nss) esl
        have ehl5 := Kdf _ _ (by simpa using nhs) ehl
        have et5 := Kdf _ _ (by simpa using nts) (sd _ _ et)
        have ep15 := Kdf _ _ (by simpa using np1s) (sbd _ _ ep1)
        have ep25 := kf _ _ (by simpa using np2s) ep2
        have hs15 : HardStay c Hb Hf := (HardStay.same sbd).trans (.keep Kdf Dd.soft)
        have hr15 : RefsAt c Hf xs1 rs1 := hr1.hs hs15
        have hr25 : RefsAt c Hf xs2 rs2 := hr2.hs (.keep kf De.soft)
        have Kaf : Keep [s] Ha Hf := (kb.trans (Keep.of sbd)).trans Kdf
        have l1 : xs1.length = rs1.length := Paired.length hr1
        have l2 : xs2.length = rs2.length := Paired.length hr2
        have l3 : xs3.length = rs3.length := Paired.length hr3
        have fresh : ∀ {q : Addr}, Hb q = none → q ≠ s → Ha q = none := fun {q} e n => by
          cases z : Ha q with
          | none => rfl
          | some o => rw [kb _ _ (by simpa using n) z] at e; cases e
        have nfa : Ha f = none := fresh (sct.free nf) nfs
        have nsa : Ha sl = none := fresh (sct.free nsl) nss
        have nha : Ha hl = none := fresh (sct.free nhl) nhs
        refine seq_ fun N1 hN1 => ?_
        try dsimp only
        repeat (first | walk_at "oxs" | simp only [ef5])
        refine hN1 _ _ ?_
        clear hN1 N1
        refine seq_ fun N1 hN1 => ?_
        try dsimp only
        repeat (first | walk_at "oxs" | simp only [esl5])
        intro z1 Hg1 nz1 sg1 ez1
        simp only [sg1 _ _ ep25, ez1]
        refine ⟨by simp only [List.length_cons, List.length_nil]; rw [sizeLine_eq]; omega, fun z2 Hg nz2 sg2 ez2 => ?_⟩
        have sg := sg1.trans sg2
        simp only [sg _ _ esl5, ez2]
        refine ⟨by simp only [List.length_append, List.length_cons, List.length_nil]; rw [sizeLine_eq]; omega, hN1 _ _ ?_⟩
        clear hN1 N1
        rw [List.nil_append]
        have Kag : Keep [s] Ha (upd Hg sl (.lst (xs2 ++ [.non, .str "x"]))) := (Kaf.trans (Keep.of sg)).updN nsa
        have n0sl : H0 sl = none := Wa.dr.sm.free nsa
        have n0hl : H0 hl = none := Wa.dr.sm.free nha
        have Dg := (Df.same sg).put (o := .lst (xs2 ++ [.non, .str "x"])) n0sl nss
        have hsg : HardStay c Hf (upd Hg sl (.lst (xs2 ++ [.non, .str "x"]))) := (HardStay.same sg).trans (.keep (ps := [sl]) (Keep.refl.upd (by simp)) fun p m => by rw [List.mem_singleton.mp m]; exact soft_lst (sg _ _ esl5))
        have ng : ∀ {q : Addr} {o : HO}, Hf q = some o → q ≠ sl → upd Hg sl (.lst (xs2 ++ [.non, .str "x"])) q = some o := fun e n => (upd_ne n).trans (sg _ _ e)
        have ef6 := ng ef5 (Ne.symm n1)
        have ehl6 := ng ehl5 n3
        have nps1 : p1 ≠ sl := fun z => by have := sct _ _ ep1; rw [z, nsl] at this; cases this
        have nps2 : p2 ≠ sl := fun z => by rw [z, esl] at np2; cases np2
        have nps3 : p3 ≠ sl := fun z => by rw [z, ke _ _ (by simpa using nss) esl] at np3; cases np3
        have nts1 : t ≠ sl := fun z => by rw [z, nsl] at et; cases et
        have et6 := ng et5 nts1
        have ep16 := ng ep15 nps1
        have ep26 := ng ep25 nps2
        have ep36 := ng ep3 nps3
        have esl6 : upd Hg sl (.lst (xs2 ++ [.non, .str "x"])) sl = some (.lst (xs2 ++ [.non, .str "x"])) := upd_same
        have hr16 := hr15.hs hsg
        have hr26 := hr25.hs hsg
        have hr36 := hr3.hs hsg
        generalize upd Hg sl (.lst (xs2 ++ [.non, .str "x"])) = Hh at Kag Dg hsg ng ef6 ehl6 et6 ep16 ep26 ep36 esl6 hr16 hr26 hr36 ⊢
        refine seq_ fun N1 hN1 => ?_
        try dsimp only
        repeat (first | walk_at "oxs" | simp only [ef6])
        refine hN1 _ _ ?_
        clear hN1 N1
        refine seq_ fun N1 hN1 => ?_
        try dsimp only
        repeat (first | walk_at "oxs" | simp only [ehl6])
        refine ⟨_, ep36, fun it Hi1 nit si1 eit ht Hi nht si2 eht => ?_⟩
        have si := si1.trans si2
        simp only [si _ _ ehl6]
        refine ⟨by decide, hN1 _ _ ?_⟩
        clear hN1 N1
        rw [List.nil_append]
        have Kai : Keep [s] Ha (upd Hi hl (.lst [.ref ht])) := (Kag.trans (Keep.of si)).updN nha
        have Di := (Dg.same si).put (o := .lst [.ref ht]) n0hl nhs
        have hsi : HardStay c Hh (upd Hi hl (.lst [.ref ht])) := (HardStay.same si).trans (.keep (ps := [hl]) (Keep.refl.upd (by simp)) fun p m => by rw [List.mem_singleton.mp m]; exact soft_lst (si _ _ ehl6))
        have ni : ∀ {q : Addr} {o : HO}, Hi q = some o → q ≠ hl → upd Hi hl (.lst [.ref ht]) q = some o := fun e n => (upd_ne n).trans e
        have nph1 : p1 ≠ hl := fun z => by have := sct _ _ ep1; rw [z, nhl] at this; cases this
        have nph2 : p2 ≠ hl := fun z => by rw [z, ehl] at np2; cases np2
        have nph3 : p3 ≠ hl := fun z => by rw [z, ke _ _ (by simpa using nhs) ehl] at np3; cases np3
        have nth1 : t ≠ hl := fun z => by rw [z, nhl] at et; cases et
        have nith : it ≠ hl := fun z => by rw [z, ehl6] at nit; cases nit
        have nhth : ht ≠ hl := fun z => by rw [z, si1 _ _ ehl6] at nht; cases nht
        have ef7 := ni (si _ _ ef6) (Ne.symm n2)
        have et7 := ni (si _ _ et6) nth1
        have ep17 := ni (si _ _ ep16) nph1
        have ep27 := ni (si _ _ ep26) nph2
        have ep37 := ni (si _ _ ep36) nph3
        have esl7 := ni (si _ _ esl6) (Ne.symm n3)
        have eit7 := ni (si2 _ _ eit) nith
        have eht7 := ni eht nhth
        have ehl7 : upd Hi hl (.lst [.ref ht]) hl = some (.lst [.ref ht]) := upd_same
        have hr17 := hr16.hs hsi
        have hr27 := hr26.hs hsi
        have hr37 := hr36.hs hsi
        generalize upd Hi hl (.lst [.ref ht]) = Hj at Kai Di hsi ni ef7 et7 ep17 ep27 ep37 esl7 eit7 eht7 ehl7 hr17 hr27 hr37 ⊢
        let F : FrV := ⟨rs1, rs2.map RV.ob ++ [.nul, .txt "x"], rs3⟩
        have hvF : VsAt c Hj (xs2 ++ [.non, .str "x"]) (rs2.map RV.ob ++ [.nul, .txt "x"]) := pr_app (refsV_vs hr27) (.cons rfl (.cons rfl .nil))
        have hF : FrB c Hj (f, sl, hl) F := ⟨fdx, _, _, t, xs1, _, ht, it, xs3, ef7, et7, hr17, esl7, hvF, ehl7, eht7, eit7, hr37⟩
        have hrF : refsR F.st = rs2 := by
          show refsR (rs2.map RV.ob ++ ([.nul] ++ [.txt "x"])) = rs2
          rw [← List.append_assoc, refsR_snoc, refsR_snoc, refsR_ob]
          show rs2 ++ [] ++ [] = rs2
          rw [List.append_nil, List.append_nil]
        have hoF : oneF F = rs1 ++ rs2 ++ rs3 := by unfold oneF; rw [hrF]
        have okF : OkF F S.things.length := by
          refine ⟨⟨by show rs1.length ≤ 10; omega, by show (rs2.map RV.ob ++ [RV.nul, RV.txt "x"]).length ≤ 10; simp only [List.length_append, List.length_map, List.length_cons, List.length_nil]; omega, by show rs3.length ≤ 10; omega⟩, fun n hn => ?_⟩
          rw [hoF] at hn
          rcases List.mem_append.mp hn with m | m
          · rcases List.mem_append.mp m with m | m
            · have := hm1 n m; omega
            · have := hm2 n m; omega
          · have := hm3 n m; omega
        have Wj := Wa.draw Kai Di
        have eprj := Kai _ _ (by simpa using q1) epr
        have epsj := Kai _ _ (by simpa using q3) eps
        have lpr : (intsN (rootsF Fs)).length ≤ 200 := by
          have h1 := flat_len (f := oneF) (n := 30) (l := Fs) fun F m => (hok F m).sm.one
          rw [intsN_len]; unfold rootsF; rw [List.length_cons]; omega
        have lps : (intsN (scopesF Fs)).length ≤ 200 := by
          have h1 := flat_len (f := fun F : FrV => F.sc) (n := 10) (l := Fs) fun F m => (hok F m).sm.1
          rw [intsN_len]; unfold scopesF; omega
        have hroots : intsN (rootsF (Fs ++ [F])) = intsN (rootsF Fs) ++ intsN rs1 ++ intsN rs2 ++ intsN rs3 := by
          unfold rootsF
          rw [List.flatMap_append, List.flatMap_cons, List.flatMap_nil, List.append_nil, hoF, ← intsN_app, ← intsN_app, ← intsN_app]
          simp
        have hscs : intsN (scopesF (Fs ++ [F])) = intsN (scopesF Fs) ++ intsN rs1 := by
          unfold scopesF
          rw [List.flatMap_append, List.flatMap_cons, List.flatMap_nil, List.append_nil, intsN_app]
        generalize hR : intsN (rootsF Fs) = R at eprj lpr hroots
        generalize hC : intsN (scopesF Fs) = C at epsj lps hscs
        refine seq_ fun N1 hN1 => ?_
        try dsimp only
        repeat (walk_at "oxs")
        refine lc_ ?_
        repeat (walk_at "oxs")
        refine ⟨⟨_, .inl (.inl (ep17))⟩, fun _a n_a => ?_⟩
        refine lcx_list (xs := xs1) (NmI Hj _a rs1) ⟨same_new n_a, upd_same⟩ (fun i H' _ ⟨s1, _⟩ => .inl (.inl (s1 _ _ (ep17)))) ?_ ?_
        · rintro i v H' hv ⟨sx, eD⟩
          obtain ⟨n, en, r, rfl, rdx, er⟩ := paired_get (hr17) hv
          have er' := sx _ _ er
          have hi := (List.getElem?_eq_some_iff.mp en).1
          repeat (first | walk_at "oxs" | simp only [er'])
          exact ⟨_, eD, by rw [intsN_len, List.length_take, sizeLine_eq]; omega, sm_two sx n_a, by rw [upd_same, take_get en, intsN_snoc]⟩
        rintro Hk ⟨s_a, e_a⟩
        rw [Paired.length (hr17), List.take_length] at e_a
        simp only [s_a _ _ eprj, e_a]
        refine ⟨by rw [intsN_len, sizeLine_eq]; omega, fun a1 Ha1 na1 sa1 ea1 => ?_⟩
        refine lc_ ?_
        repeat (walk_at "oxs")
        refine ⟨⟨_, .inl (.inl (sa1 _ _ (s_a _ _ ep27)))⟩, fun _b n_b => ?_⟩
        refine lcx_list (xs := xs2) (NmI Ha1 _b rs2) ⟨same_new n_b, upd_same⟩ (fun i H' _ ⟨s1, _⟩ => .inl (.inl (s1 _ _ (sa1 _ _ (s_a _ _ ep27))))) ?_ ?_
        · rintro i v H' hv ⟨sx, eD⟩
          obtain ⟨n, en, r, rfl, rdx, er⟩ := paired_get ((hr27.same s_a).same sa1) hv
          have er' := sx _ _ er
          have hi := (List.getElem?_eq_some_iff.mp en).1
          repeat (first | walk_at "oxs" | simp only [er'])
          exact ⟨_, eD, by rw [intsN_len, List.length_take, sizeLine_eq]; omega, sm_two sx n_b, by rw [upd_same, take_get en, intsN_snoc]⟩
        rintro Hl ⟨s_b, e_b⟩
        rw [Paired.length ((hr27.same s_a).same sa1), List.take_length] at e_b
        dsimp only
        simp only [s_b _ _ ea1, e_b]
        refine ⟨by simp only [List.length_append, intsN_len]; rw [sizeLine_eq]; omega, fun a2 Ha2 na2 sa2 ea2 => ?_⟩
        have S2 : Same Hj Ha2 := ((s_a.trans sa1).trans s_b).trans sa2
        refine lc_ ?_
        repeat (walk_at "oxs")
        refine ⟨⟨_, .inl (.inl (S2 _ _ ep37))⟩, fun _c n_c => ?_⟩
        refine lcx_list (xs := xs3) (NmI Ha2 _c rs3) ⟨same_new n_c, upd_same⟩ (fun i H' _ ⟨s1, _⟩ => .inl (.inl (s1 _ _ (S2 _ _ ep37)))) ?_ ?_
        · rintro i v H' hv ⟨sx, eD⟩
          obtain ⟨n, en, r, rfl, rdx, er⟩ := paired_get (hr37.same S2) hv
          have er' := sx _ _ er
          have hi := (List.getElem?_eq_some_iff.mp en).1
          repeat (first | walk_at "oxs" | simp only [er'])
          exact ⟨_, eD, by rw [intsN_len, List.length_take, sizeLine_eq]; omega, sm_two sx n_c, by rw [upd_same, take_get en, intsN_snoc]⟩
        rintro Hm ⟨s_c, e_c⟩
        rw [Paired.length (hr37.same S2), List.take_length] at e_c
        dsimp only
        simp only [s_c _ _ ea2, e_c]
        refine ⟨by simp only [List.length_append, intsN_len]; rw [sizeLine_eq]; omega, fun a3 Ha3 na3 sa3 ea3 => hN1 _ _ ?_⟩
        clear hN1 N1
        have S3 : Same Hj Ha3 := (S2.trans s_c).trans sa3
        have W3 := Wj.same S3
        have g3 := W3.g
        have efl3 := g3.1.2
        have na3j : Hj a3 = none := (S2.trans s_c).free na3
        have na3s : a3 ≠ s := Di.ne2 na3j
        have na3f : a3 ≠ fl := fun z => by rw [z, Wj.g.1.2] at na3j; cases na3j
        refine seq_ fun N1 hN1 => ?_
        try dsimp only
        repeat (first | walk_at "oxs" | simp only [efl3])
        refine ⟨by rw [List.length_map, Paired.length g3.2, sizeLine_eq]; omega, hN1 _ _ ?_⟩
        clear hN1 N1
        have out : ∀ q ∈ [f, sl, hl], q ∉ s :: (x.foot ++ (y :: fl :: footF L)) ∧ H0 q = none ∧ ∃ o, Ha3 q = some o := by
          intro q m
          have nq : Ha q = none ∧ ∃ o, Hj q = some o := by
            simp only [List.mem_cons, List.not_mem_nil, or_false] at m
            rcases m with rfl | rfl | rfl
            · exact ⟨nfa, _, ef7⟩
            · exact ⟨nsa, _, esl7⟩
            · exact ⟨nha, _, ehl7⟩
          exact ⟨(fun m => by obtain ⟨o, z⟩ := Wa.live m; rw [nq.1] at z; cases z), Wa.dr.sm.free nq.1, nq.2.imp fun o z => S3 _ _ z⟩
        have hsL : ∀ {q : Addr}, q ∈ [f, sl, hl] → q ≠ fl := fun {q} m z => (out q m).1 (by rw [z]; exact List.mem_cons_of_mem _ (List.mem_append_right _ (List.mem_cons_of_mem _ (List.mem_cons_self ..))))
        have efoot : y :: fl :: footF (L ++ [(f, sl, hl)]) = (y :: fl :: footF L) ++ [f, sl, hl] := by simp [footF]
        have ndg := (List.nodup_append.mp (List.nodup_cons.mp W3.nd).2).2.1
        have W4 : Wd K w c H0 s sc ns x S (fun H => MGF c y x.y fl L Fs H ∧ FrB c H (f, sl, hl) F) (y :: fl :: footF (L ++ [(f, sl, hl)])) Ha3 := by
          refine W3.adopt ⟨g3, hF.mono (.same S3) fun a _ o e => S3 _ _ e⟩ ?_ ?_ ?_
          · intro H H' h hs k
            rw [efoot] at k
            exact ⟨MGF.gm _ _ h.1 hs fun q m => k q (List.mem_append_left _ m), h.2.mono hs fun a m o => k a (List.mem_append_right _ m) o⟩
          · intro q m
            rw [efoot] at m
            rcases List.mem_append.mp m with m | m
            · exact .inl m
            · exact .inr (out q m)
          · rw [efoot, List.nodup_append]
            refine ⟨ndg, by simp [Ne.symm n1, Ne.symm n2, Ne.symm n3], fun a ha b hb z => (out b hb).1 ?_⟩
            rw [← z]
            exact List.mem_cons_of_mem _ (List.mem_append_right _ ha)
        have kk : Keep [fl] Ha3 (upd Ha3 fl (.lst ((L.map fun q => V.ref q.1) ++ [.ref f]))) := Keep.refl.upd (by simp)
        have so3 : ∀ p ∈ [fl], Soft c Ha3 p := fun p m => by rw [List.mem_singleton.mp m]; exact soft_lst efl3
        have ndt := (List.nodup_cons.mp (List.nodup_cons.mp ndg).2).1
        have nyf : y ≠ fl := fun z => (List.nodup_cons.mp ndg).1 (by rw [z]; exact List.mem_cons_self ..)
        have W5 : Wd K w c H0 s sc ns x S (MGF c y x.y fl (L ++ [(f, sl, hl)]) (Fs ++ [F])) (y :: fl :: footF (L ++ [(f, sl, hl)])) (upd Ha3 fl (.lst ((L.map fun q => V.ref q.1) ++ [.ref f]))) := by
          refine W4.own (q := fl) (by simp) kk (soft_lst efl3) ⟨_, upd_same⟩ ⟨⟨?_, ?_⟩, ?_⟩ MGF.gm
          · obtain ⟨dx9, w1, w2, w3, w4, e9⟩ := g3.1.1
            exact ⟨dx9, w1, w2, w3, w4, (upd_ne nyf).trans e9⟩
          · rw [upd_same, List.map_append]; rfl
          · refine Paired.snoc (Paired.mapP (paired_mem g3.2) fun q F' z => z.2.mono (.keep kk so3) fun a m o e => (upd_ne fun z2 => ndt ?_).trans e) ((hF.mono (.same S3) fun a _ o e => S3 _ _ e).mono (.keep kk so3) fun a m o e => (upd_ne (hsL m)).trans e)
            rw [← z2]; exact mem_footF z.1 m
        have ea3' : upd Ha3 fl (.lst ((L.map fun q => V.ref q.1) ++ [.ref f])) a3 = some (.lst (intsN (rootsF (Fs ++ [F])))) := by
          rw [upd_ne na3f, ea3, hroots]
        have epsj' : upd Ha3 fl (.lst ((L.map fun q => V.ref q.1) ++ [.ref f])) ps = some (.lst C) := (upd_ne q4).trans (S3 _ _ epsj)
        have ep1j' : upd Ha3 fl (.lst ((L.map fun q => V.ref q.1) ++ [.ref f])) p1 = some (.lst xs1) := (upd_ne (fun z => by have z1 := S3 _ _ ep17; rw [z, efl3] at z1; have := Wa.g.1.2; rw [z] at np1; rw [this] at np1; cases np1)).trans (S3 _ _ ep17)
        have hr1j' : RefsAt c (upd Ha3 fl (.lst ((L.map fun q => V.ref q.1) ++ [.ref f]))) xs1 rs1 := (hr17.same S3).hs (.keep kk so3)
        generalize upd Ha3 fl (.lst ((L.map fun q => V.ref q.1) ++ [.ref f])) = Hn at W5 ea3' epsj' ep1j' hr1j' ⊢
        repeat (walk_at "oxs")
        refine lc_ ?_
        repeat (walk_at "oxs")
        refine ⟨⟨_, .inl (.inl (ep1j'))⟩, fun _d n_d => ?_⟩
        refine lcx_list (xs := xs1) (NmI Hn _d rs1) ⟨same_new n_d, upd_same⟩ (fun i H' _ ⟨s1, _⟩ => .inl (.inl (s1 _ _ (ep1j')))) ?_ ?_
        · rintro i v H' hv ⟨sx, eD⟩
          obtain ⟨n, en, r, rfl, rdx, er⟩ := paired_get (hr1j') hv
          have er' := sx _ _ er
          have hi := (List.getElem?_eq_some_iff.mp en).1
          repeat (first | walk_at "oxs" | simp only [er'])
          exact ⟨_, eD, by rw [intsN_len, List.length_take, sizeLine_eq]; omega, sm_two sx n_d, by rw [upd_same, take_get en, intsN_snoc]⟩
        rintro Ho ⟨s_d, e_d⟩
        rw [Paired.length (hr1j'), List.take_length] at e_d
        simp only [s_d _ _ epsj', e_d]
        refine ⟨by simp only [List.length_append, intsN_len]; rw [sizeLine_eq]; omega, fun a4 Ha4 na4 sa4 ea4 => ?_⟩
        have S5 := s_d.trans sa4
        have na4n : Hn a4 = none := s_d.free na4
        have W6 := W5.same S5
        refine ⟨L ++ [(f, sl, hl)], Fs ++ [F], a3, a4, _, _, _, _, _, _, _, _, rfl, W6, by rw [List.length_append, List.length_singleton, hlk], fun F' m => ?_, S5 _ _ ea3', na3s, na3f, by rw [ea4, hscs], W5.dr.ne2 na4n, fun z => by rw [z, W5.g.1.2] at na4n; cases na4n⟩
        rcases List.mem_append.mp m with m | m
        · exact hok F' m
        · rw [List.mem_singleton.mp m]; exact okF
      · rintro σ Ha ⟨L, Fs, pr, ps, v6, v7, v8, v9, v10, v11, v12, v13, rfl, Wa, hlk, hok, epr, q1, q2, eps, q3, q4⟩
        refine hN _ _ ?_
        walk_at "ox"
        intro tp Hb ntp sb etp
        exact h tp pr ps L Fs Hb (Wa.same sb) (by omega) hok etp (sb _ _ epr) q1 (sb _ _ eps) q3
    · cases h
end

section
variable {P : Program} {w : World} {K : PySem.W.Frag} {mg : Str → Option Value} {base : Heap} {c : Cs}
theorem intsN_sc {ns : List Nat} : (intsN ns).all scV = true := by
  rw [List.all_eq_true]
  intro v hv
  obtain ⟨n, _, rfl⟩ := List.mem_map.mp hv
  rfl
def spLaw (K : PySem.W.Frag) : Sp := fun vs H Q _ => ∃ (a : Addr) (ns : List Int), vs = [.ref a] ∧ SqL K H a (ns.map V.int) ∧ ns.length ≤ 63 ∧ ∀ H', Q (.bl true) H'
def LawI (H0 : Hp) (sc : Addr) (σ : L2.St) (H : Hp) : Prop := ∃ v1 v2 v3 v4 v5 v6 v7 v8 v9 v10 v11 v12 v13, σ = [some (.ref sc), v1, v2, v3, v4, v5, v6, v7, v8, v9, v10, v11, v12, v13] ∧ Same H0 H
def NrI (K : PySem.W.Frag) (H0 H1 : Hp) (s sc D : Addr) (ns : List Int) (m : Nat) (i : Nat) (H : Hp) : Prop := Dr K H0 s sc ns H ∧ Keep [s] H1 H ∧ ∃ rs, H D = some (.lst (intsN rs)) ∧ rs.length = i ∧ ∀ n ∈ rs, n < m
set_option maxHeartbeats 8000000 in
theorem law_has {fa : Addr} {fd : FuncData} (F : Fun K "law" "law" s_law fa fd) (T : Txt K mg c) (H_law_begin : Has P w K mg base CX0 "_law_begin" 1 ["script", "k"] (spBegin K)) (H_law_draw : Has P w K mg base CX0 "_law_draw" 2 ["state", "many"] (spDraw K)) (H_law_machine : Has P w K mg base CX0 "_law_machine" 7 ["state"] (spLMach K w c)) (H_law_frames : Has P w K mg base CX0 "_law_frames" 4 ["machine", "state"] (spLFrames K w c)) (H_roots_of : Has P w K mg base CX0 "roots_of" 3 ["machine"] (spRoots c)) (H_reached_from : Has P w K mg base CX0 "reached_from" 5 ["store", "numbers"] (spReached w c)) (H_law_closed : Has P w K mg base CX0 "_law_closed" 4 ["store", "numbers"] (spClosed w c)) (H_lost_objects : Has P w K mg base CX0 "lost_objects" 5 ["machine"] (spLost w c)) (H_law_lengths : Has P w K mg base CX0 "_law_lengths" 4 ["store", "scopes"] (spLengths w c)) (H_way_to : Has P w K mg base CX0 "way_to" 5 ["machine", "number"] (spWay w c)) : FnOk P w K mg base CX0 8 fa fd ["script"] (spLaw K) := by
  have Sc := sc_law
  refine F.ok Sc (fun vs H Q E h => ?_) (fun cdv A outer s H vs Q E hr h => ?_)
  · obtain ⟨a, ns, rfl, _⟩ := h; rfl
  · obtain ⟨sc, ns, rfl, hS, hn, hq⟩ := h
    refine ⟨_, (pss_cons (ps_for PassesOwn.never rfl (pi_range1 (by rfl) T.no_range (pa_cons (pe_callB (call_fMin rfl) (by rfl) T.no_min (by decide +kernel) (pa_cons pe_int (pa_cons (pe_callB (call_fMax rfl) (by rfl) T.no_max (by decide +kernel) (pa_cons pe_int (pa_cons (pe_callB call_fLen (by rfl) T.no_len (by decide +kernel) (pa_cons (fe_var 0) pa_nil)) pa_nil))) pa_nil))) pa_nil)) (pg_name (i := 1) Sc.nd rfl (.inl rfl)) (pss_cons (ps_set (i := 2) Sc.nd rfl (.inr rfl) (fe_call H_law_begin (hr.mono (by walk_at "rm")) (by rfl) pass0 (pa_cons (fe_var 0) (pa_cons (pe_op op_fMul pe_int (fe_var 1)) pa_nil))))
      (pss_cons (ps_set (i := 3) Sc.nd rfl (.inl rfl) (fe_call H_law_machine (hr.mono (by walk_at "rm")) (by rfl) pass0 (pa_cons (fe_var 2) pa_nil)))
      (pss_cons (ps_set (i := 4) Sc.nd rfl (.inr rfl) (fe_fld (fe_var 3) T.pl_store rfl))
      (pss_cons (ps_asg (fe_call H_law_frames (hr.mono (by walk_at "rm")) (by rfl) pass0 (pa_cons (fe_var 3) (pa_cons (fe_var 2) pa_nil))) (pg_tup (n := 2) rfl (pgs_cons (pg_name (i := 5) Sc.nd rfl (.inl rfl)) (pgs_cons (pg_name (i := 6) Sc.nd rfl (.inl rfl)) pgs_nil))))
      (pss_cons (ps_set (i := 7) Sc.nd rfl (.inr rfl) (pe_callB call_fLen (by rfl) T.no_len (by decide +kernel) (pa_cons (fe_fld (fe_var 4) T.pl_things rfl) pa_nil)))
      (pss_cons (ps_set (i := 8) Sc.nd rfl (.inl rfl) (fe_call H_roots_of (hr.mono (by walk_at "rm")) (by rfl) pass0 (pa_cons (fe_var 3) pa_nil)))
      (pss_cons (ps_if (PW.pt (pw_or (pt_not (pt_val (pe_callB (call_fIsiA T.kit) (by rfl) T.no_isinstance (by decide +kernel) (pa_cons (fe_var 8) (pa_cons (fe_ty (n := "list") (by rfl) T.no_list (by decide +kernel)) pa_nil))))) (pw_or1 (pt_cmpR (op_fNe hr.units) (fe_var 8) (fe_var 5) (nomark _))))) (pss_one (ps_ret pe_bl)) pss_nil)
      (pss_cons (ps_set (i := 9) Sc.nd rfl (.inr rfl) (pe_lc (own := [("j", 13)]) (by rfl) Sc.nd (pi_range1 (by rfl) T.no_range (pa_cons (fe_call H_law_draw (hr.mono (by walk_at "rm")) (by rfl) pass0 (pa_cons (fe_var 2) (pa_cons pe_int pa_nil))) pa_nil)) (blkOk_by (own := [("j", 13)]) (N := ["script", "k", "state", "machine", "store", "roots", "scopes", "many", "told", "numbers", "due", "ways", "number", "j"]) (sc := defScope s_law) (by decide +kernel)) (fun _ _ _ _ _ => (pg_name (i := 13) Sc.nd rfl (.inl rfl))) (fun _ _ _ _ _ => pts_nil) (fun _ _ _ _ _ => (fe_call H_law_draw (hr.mono (by walk_at "rm")) (by rfl) pass0 (pa_cons (fe_var 2) (pa_cons (fe_var 7) pa_nil))))))
      (pss_cons (ps_set (i := 8) Sc.nd rfl (.inl rfl) (fe_call H_reached_from (hr.mono (by walk_at "rm")) (by rfl) pass0 (pa_cons (fe_var 4) (pa_cons (pe_callTy call_fListOf (by rfl) T.no_list (by decide +kernel) (pa_cons (fe_var 9) pa_nil)) pa_nil))))
      (pss_cons (ps_if (PW.pt (pw_or (pt_not (pt_val (pe_callB (call_fIsiA T.kit) (by rfl) T.no_isinstance (by decide +kernel) (pa_cons (fe_var 8) (pa_cons (fe_ty (n := "list") (by rfl) T.no_list (by decide +kernel)) pa_nil))))) (pw_or1 (pt_cmpR (op_fNe hr.units) (fe_var 8) (pe_lc (own := [("number", 12)]) (by rfl) Sc.nd (pi_range1 (by rfl) T.no_range (pa_cons (fe_var 7) pa_nil)) (blkOk_by (own := [("number", 12)]) (N := ["script", "k", "state", "machine", "store", "roots", "scopes", "many", "told", "numbers", "due", "ways", "number", "j"]) (sc := defScope s_law) (by decide +kernel)) (fun _ _ _ _ _ => (pg_name (i := 12) Sc.nd rfl (.inl rfl))) (fun _ _ _ _ _ => (pts_one (pt_cmpR (op_fInK' (K := K) rfl) (fe_var 12) (fe_call H_law_closed (hr.mono (by walk_at "rm")) (by rfl) pass0 (pa_cons (fe_var 4) (pa_cons (fe_var 9) pa_nil))) (by with_unfolding_all rfl)))) (fun _ _ _ _ _ => (fe_var 12))) (nomark _))))) (pss_one (ps_ret pe_bl)) pss_nil)
      (pss_cons (ps_set (i := 10) Sc.nd rfl (.inr rfl) (fe_call H_law_closed (hr.mono (by walk_at "rm")) (by rfl) pass0 (pa_cons (fe_var 4) (pa_cons (fe_var 5) pa_nil))))
      (pss_cons (ps_set (i := 8) Sc.nd rfl (.inl rfl) (fe_call H_lost_objects (hr.mono (by walk_at "rm")) (by rfl) pass0 (pa_cons (fe_var 3) pa_nil)))
      (pss_cons (ps_if (PW.pt (pw_or (pt_not (pt_val (pe_callB (call_fIsiA T.kit) (by rfl) T.no_isinstance (by decide +kernel) (pa_cons (fe_var 8) (pa_cons (fe_ty (n := "list") (by rfl) T.no_list (by decide +kernel)) pa_nil))))) (pw_or1 (pt_cmpR (op_fNe hr.units) (fe_var 8) (pe_lc (own := [("number", 12)]) (by rfl) Sc.nd (pi_range1 (by rfl) T.no_range (pa_cons (fe_var 7) pa_nil)) (blkOk_by (own := [("number", 12)]) (N := ["script", "k", "state", "machine", "store", "roots", "scopes", "many", "told", "numbers", "due", "ways", "number", "j"]) (sc := defScope s_law) (by decide +kernel)) (fun _ _ _ _ _ => (pg_name (i := 12) Sc.nd rfl (.inl rfl))) (fun _ _ _ _ _ => (pts_one (pt_cmpR (op_fNotInK' (K := K) rfl) (fe_var 12) (fe_var 10) (by with_unfolding_all rfl)))) (fun _ _ _ _ _ => (fe_var 12))) (nomark _))))) (pss_one (ps_ret pe_bl)) pss_nil)
      (pss_cons (ps_set (i := 11) Sc.nd rfl (.inl rfl) (fe_call H_law_lengths (hr.mono (by walk_at "rm")) (by rfl) pass0 (pa_cons (fe_var 4) (pa_cons (fe_var 6) pa_nil))))
      (pss_cons (ps_for PassesOwn.never rfl (pi_range1 (by rfl) T.no_range (pa_cons (fe_var 7) pa_nil)) (pg_name (i := 12) Sc.nd rfl (.inl rfl)) (pss_one (ps_if (pt_cmpR (op_fNe hr.units) (fe_call H_way_to (hr.mono (by walk_at "rm")) (by rfl) pass0 (pa_cons (fe_var 3) (pa_cons (fe_var 12) pa_nil))) (pe_get1 (hu_of hr) (fe_var 11) (fe_var 12) ⟨by rfl, by rfl, by rfl, by rfl⟩) (nomark _)) (pss_one (ps_ret pe_bl)) pss_nil)))
      (pss_one (ps_if (PW.pt (pw_or (pt_cmpR (op_fNe hr.units) (pe_callB call_fLen (by rfl) T.no_len (by decide +kernel) (pa_cons (fe_fld (fe_var 4) T.pl_things rfl) pa_nil)) (fe_var 7) (nomark _)) (pw_or1 (pt_cmpR (op_fNe hr.units) (fe_call H_roots_of (hr.mono (by walk_at "rm")) (by rfl) pass0 (pa_cons (fe_var 3) pa_nil)) (fe_var 5) (nomark _))))) (pss_one (ps_ret pe_bl)) pss_nil))))))))))))))))))
      (pss_one (ps_ret pe_bl))), ?_⟩
    walk_at "fx0"
    refine seq_ fun N hN => for_ ?_
    repeat (walk_at "oxs")
    refine ⟨_, .inl hS, ?_⟩
    rw [List.length_map]
    generalize hm : (if (if (ns.length : Int) > 1 then (ns.length : Int) else 1) < 3 then (if (ns.length : Int) > 1 then (ns.length : Int) else 1) else 3) = m
    have hm9 : 0 ≤ m ∧ m ≤ 3 := by
      rw [← hm]
      split <;> split <;> omega
    refine ⟨by omega, by omega, ?_⟩
    refine loop_range (fun _ => LawI H sc) ⟨_, _, _, _, _, _, _, _, _, _, _, _, _, rfl, fun _ _ h => h⟩ ?_ ?_
    · rintro k σ H1 hk ⟨v1, v2, v3, v4, v5, v6, v7, v8, v9, v10, v11, v12, v13, rfl, s1⟩
      simp only [gName, List.set_cons_succ, List.set_cons_zero]
      try dsimp only
      refine seq_ fun N1 hN1 => ?_
      try dsimp only
      repeat (walk_at "oxs")
      refine ⟨mul_left (by decide) (by decide), by omega, fun s H2 ns2 s2 es => hN1 _ _ ?_⟩
      clear hN1 N1
      have D2 : Dr K H s sc ns H2 := ⟨⟨0, _, es, by decide, by omega⟩, hS, s1.trans s2, s1.free ns2, hn⟩
      refine seq_ fun N1 hN1 => ?_
      try dsimp only
      repeat (walk_at "oxs")
      refine ⟨H, sc, ns, D2, fun y fl fs x S H3 W3 hok h2 h20 => hN1 _ _ ?_⟩
      clear hN1 N1
      obtain ⟨⟨mdx, u1, u2, u3, u4, ey⟩, efl⟩ := W3.g
      refine seq_ fun N1 hN1 => ?_
      try dsimp only
      repeat (first | walk_at "oxs" | simp only [ey])
      refine hN1 _ _ ?_
      clear hN1 N1
      refine seq_ fun N1 hN1 => ?_
      try dsimp only
      repeat (walk_at "oxs")
      refine ⟨H, sc, ns, x, S, fl, fs, W3, h2, h20, fun tp pr ps L Fs H4 W4 hl3 hokF etp epr nprs eps npss => ?_⟩
      clear W3 ey efl
      refine ⟨tp, rfl, _, .inl (.inl etp), rfl, _, _, rfl, _, _, rfl, rfl, hN1 _ _ ?_⟩
      clear hN1 N1
      have M4 := W4.g.mac
      have hlx : x.L.length = S.things.length := Paired.length W4.st.th
      have hC : Clo S := ⟨hok.sm, fun n hn m hm => by
        unfold chS at hm
        rw [List.getElem?_eq_getElem hn] at hm
        exact hok.lt _ (List.getElem_mem hn) m hm, by omega⟩
      have hrt : ∀ n ∈ rootsF Fs, n < S.things.length := fun n hn => by
        rcases List.mem_cons.mp hn with rfl | hn
        · omega
        · obtain ⟨F, m1, m2⟩ := List.mem_flatMap.mp hn
          exact (hokF F m1).lt n m2
      have hsc : ∀ n ∈ scopesF Fs, n < S.things.length := fun n hn => by
        obtain ⟨F, m1, m2⟩ := List.mem_flatMap.mp hn
        exact (hokF F m1).lt n (List.mem_append_left _ (List.mem_append_left _ m2))
      have hsmF : ∀ F ∈ Fs, SmF F := fun F m => (hokF F m).sm
      obtain ⟨sdx, es4⟩ := W4.st.st
      have St4 := W4.st
      have D4 := W4.dr
      clear hokF hok
      refine seq_ fun N1 hN1 => ?_
      try dsimp only
      repeat (first | walk_at "oxs" | simp only [es4])
      refine ⟨_, rl_l St4.et, ?_⟩
      rw [List.length_map, hlx]
      refine hN1 _ _ ?_
      clear hN1 N1
      refine seq_ fun N1 hN1 => ?_
      try dsimp only
      repeat (walk_at "oxs")
      refine ⟨_, _, _, M4, by omega, hsmF, fun p5 H5 np5 s5 ep5 => hN1 _ _ ?_⟩
      clear hN1 N1
      refine seq_ fun N1 hN1 => ifs_ ?_
      try dsimp only
      repeat (first | walk_at "oxs" | simp only [ep5])
      refine ⟨_, .lst (.inl (.inl ep5)) (dpAll_sc intsN_sc), _, .lst (.inl (.inl (s5 _ _ epr))) (dpAll_sc intsN_sc), lst_okd intsN_sc, lst_okd intsN_sc, ?_⟩
      rw [lst_eqv intsN_sc, if_neg (by simp)]
      refine hN1 _ _ ?_
      clear hN1 N1
      have D5 := D4.same s5
      refine seq_ fun N1 hN1 => ?_
      try dsimp only
      repeat (walk_at "oxs")
      refine lc_ ?_
      repeat (walk_at "oxs")
      refine ⟨H, sc, ns, D5, by omega, by omega, fun H6 d6 k6 D6 d60 d61 => ?_⟩
      obtain ⟨cnt, rfl⟩ := Int.eq_ofNat_of_zero_le d60
      refine ⟨_, rfl, by omega, by omega, fun p np => ?_⟩
      have nps := D6.ne2 np
      have n0 : H p = none := D6.sm.free np
      rw [Int.toNat_natCast]
      refine lcx_range (NrI K H H6 s sc p ns S.things.length) ⟨D6.same (same_new np), Keep.of (same_new np), [], upd_same, rfl, fun _ m => by cases m⟩ ?_ ?_
      · rintro i H7 hi ⟨D7, k7, rs, eD, hl, hm⟩
        walk_at "ox"
        repeat (walk_at "oxs")
        refine ⟨H, sc, ns, D7, by omega, by omega, fun H8 z k8 D8 z0 z1 => ?_⟩
        obtain ⟨z, rfl⟩ := Int.eq_ofNat_of_zero_le z0
        have eD8 := k8 _ _ (by simpa using nps) eD
        refine ⟨_, eD8, by rw [intsN_len, sizeLine_eq]; omega, D8.put n0 nps, (k7.trans k8).updN np, rs ++ [z], by rw [upd_same, intsN_snoc], by rw [List.length_append, List.length_singleton, hl], fun n m => ?_⟩
        rcases List.mem_append.mp m with m | m
        · exact hm n m
        · rw [List.mem_singleton.mp m]; omega
      · rintro H7 ⟨D7, k7, rs, eP, hl, hmr⟩
        refine hN1 _ _ ?_
        clear hN1 N1
        have k47 : Keep [s] H4 H7 := ((Keep.of s5).trans k6).trans k7
        have hs47 : HardStay c H4 H7 := .keep k47 D4.soft
        have W7 := (W4.same s5).draw (k6.trans k7) D7
        have M7 := W7.g.mac
        have St7 := W7.st
        obtain ⟨sdx, es7⟩ := W7.st.st
        have epr7 := k47 _ _ (by simpa using nprs) epr
        have eps7 := k47 _ _ (by simpa using npss) eps
        have hN20 : S.things.length ≤ 20 := h20
        clear W4 W7 k47 hs47 k6 k7 es4 St4 M4 ep5 s5 np5 etp epr eps
        refine seq_ fun N1 hN1 => ?_
        try dsimp only
        repeat (walk_at "oxs")
        refine ⟨_, .inl (.inl (.inl eP)), fun p8 H8 np8 s8 ep8 => ?_⟩
        refine ⟨x, S, rs, rfl, St7.same s8, hC, ep8, hmr, fun p9 H9 np9 s9 ep9 => hN1 _ _ ?_⟩
        clear hN1 N1
        have S9 := s8.trans s9
        refine seq_ fun N1 hN1 => ifs_ ?_
        try dsimp only
        repeat (first | walk_at "oxs" | simp only [ep9])
        refine lc_ ?_
        repeat (walk_at "oxs")
        refine ⟨by omega, by omega, fun D nD => ?_⟩
        refine lcx_range (fun i H' => Same H9 H' ∧ H' D = some (.lst (intsN (inK i (keysB (bfs S rs)))))) ⟨same_new nD, upd_same⟩ ?_ ?_
        · rintro i H' hi ⟨sx, eD⟩
          walk_at "ox"
          repeat (walk_at "oxs")
          have Sx := S9.trans sx
          refine ⟨x, S, rs, rfl, St7.same Sx, hC, Sx _ _ eP, hmr, fun q H'' nq sq eq => ?_⟩
          refine ⟨_, .inl (.inl (.inl eq)), rfl, flat_N, ?_⟩
          rw [inV_N]
          have nqD : q ≠ D := fun z => by rw [z, eD] at nq; cases nq
          have eD' := sq _ _ eD
          have hfl := filt_len (i := i) (f := fun n => decide (n ∈ keysB (bfs S rs)))
          unfold inK at eD eD' ⊢
          rw [filt_snoc (N := 0)]
          by_cases hm : i ∈ keysB (bfs S rs)
          · rw [if_pos (by simp [hm])]
            refine ⟨_, eD', by rw [intsN_len, sizeLine_eq]; omega, sm_two (sx.trans sq) nD, ?_⟩
            rw [if_pos (by simp [hm]), intsN_snoc]
          · rw [if_neg (by simp [hm])]
            refine ⟨sx.trans sq, ?_⟩
            rw [eD', if_neg (by simp [hm]), List.append_nil]
        rintro H10 ⟨s10, eD10⟩
        refine ⟨_, .lst (.inl (.inl (s10 _ _ ep9))) (dpAll_sc intsN_sc), _, .lst (.inl (.inl eD10)) (dpAll_sc intsN_sc), lst_okd intsN_sc, lst_okd intsN_sc, ?_⟩
        rw [lst_eqv intsN_sc, if_neg (by simp)]
        refine hN1 _ _ ?_
        clear hN1 N1
        have S10 := S9.trans s10
        refine seq_ fun N1 hN1 => ?_
        try dsimp only
        repeat (walk_at "oxs")
        refine ⟨x, S, _, rfl, St7.same S10, hC, S10 _ _ epr7, hrt, fun du H11 ndu s11 edu => hN1 _ _ ?_⟩
        clear hN1 N1
        have S11 := S10.trans s11
        refine seq_ fun N1 hN1 => ?_
        try dsimp only
        repeat (walk_at "oxs")
        refine ⟨x, S, fl, Fs, M7.same S11, by omega, hsmF, St7.same S11, hC, hrt, fun lo H12 nlo s12 elo => hN1 _ _ ?_⟩
        clear hN1 N1
        have S12 := S11.trans s12
        refine seq_ fun N1 hN1 => ifs_ ?_
        try dsimp only
        repeat (first | walk_at "oxs" | simp only [elo])
        refine lc_ ?_
        repeat (walk_at "oxs")
        refine ⟨by omega, by omega, fun D2 nD2 => ?_⟩
        have edu12 := s12 _ _ edu
        refine lcx_range (fun i H' => Same H12 H' ∧ H' D2 = some (.lst (intsN (outK i (keysB (bfs S (rootsF Fs))))))) ⟨same_new nD2, upd_same⟩ ?_ ?_
        · rintro i H' hi ⟨sx, eD⟩
          walk_at "ox"
          repeat (walk_at "oxs")
          refine ⟨_, .inl (.inl (.inl (sx _ _ edu12))), flat_N, ?_⟩
          rw [inV_N]
          have hfl := filt_len (i := i) (f := fun n => !decide (n ∈ keysB (bfs S (rootsF Fs))))
          unfold outK at eD ⊢
          rw [filt_snoc (N := 0)]
          by_cases hm : i ∈ keysB (bfs S (rootsF Fs))
          · rw [if_neg (by simp [hm])]
            refine ⟨sx, ?_⟩
            rw [eD, if_neg (by simp [hm]), List.append_nil]
          · rw [if_pos (by simp [hm])]
            refine ⟨_, eD, by rw [intsN_len, sizeLine_eq]; omega, sm_two sx nD2, ?_⟩
            rw [if_pos (by simp [hm]), intsN_snoc]
        rintro H13 ⟨s13, eD13⟩
        refine ⟨_, .lst (.inl (.inl (s13 _ _ elo))) (dpAll_sc intsN_sc), _, .lst (.inl (.inl eD13)) (dpAll_sc intsN_sc), lst_okd intsN_sc, lst_okd intsN_sc, ?_⟩
        rw [lst_eqv intsN_sc, if_neg (by simp)]
        refine hN1 _ _ ?_
        clear hN1 N1
        have S13 := S12.trans s13
        refine seq_ fun N1 hN1 => ?_
        try dsimp only
        repeat (walk_at "oxs")
        refine ⟨x, S, _, rfl, St7.same S13, hC, S13 _ _ eps7, hsc, fun wd H14 nwd s14 hwd => hN1 _ _ ?_⟩
        clear hN1 N1
        have S14 := S13.trans s14
        obtain ⟨kvs, ekv, hkv⟩ := hwd
        refine seq_ fun N1 hN1 => for_ ?_
        try dsimp only
        repeat (walk_at "oxs")
        refine ⟨by omega, by omega, ?_⟩
        refine loop_range (fun i σ H' => Same H14 H' ∧ ∃ v12 v13, σ = [some (.ref sc), some (.int (k : Nat)), some (.ref s), some (.ref y), some (.ref x.y), some (.ref pr), some (.ref ps), some (.int (S.things.length : Nat)), some (.ref lo), some (.ref p), some (.ref du), some (.ref wd), v12, v13]) ⟨Same.refl _, _, _, rfl⟩ ?_ ?_
        · rintro i σ H15 hi ⟨s15, v12, v13, rfl⟩
          simp only [gName, List.set_cons_succ, List.set_cons_zero]
          try dsimp only
          refine ifs_ ?_
          repeat (walk_at "oxs")
          have S15 := S14.trans s15
          have hi2 := hkv i
          refine ⟨x, S, fl, Fs, i, rfl, M7.same S15, by omega, hsmF, St7.same S15, hC, hsc, ?_⟩
          cases hw : wayOf (bfs S (scopesF Fs)) i with
          | none =>
            rw [hw] at hi2
            dsimp only at hi2 ⊢
            intro H16 s16
            refine ⟨⟨_, .inl (s16 _ _ (s15 _ _ ekv))⟩, _, .inl (s16 _ _ (s15 _ _ ekv)), ?_⟩
            rw [hi2]
            dsimp only [Option.getD_none]
            rw [if_pos rfl, if_neg (by simp)]
            exact ⟨s15.trans s16, _, rfl⟩
          | some wy =>
            rw [hw] at hi2
            obtain ⟨a, g1, g2⟩ := hi2
            dsimp only
            intro q H16 nq s16 eq
            refine ⟨⟨_, .inl (s16 _ _ (s15 _ _ ekv))⟩, _, .inl (s16 _ _ (s15 _ _ ekv)), ?_⟩
            rw [g1]
            dsimp only [Option.getD_some]
            rw [if_neg (by decide)]
            refine ⟨_, .lst (.inl (.inl eq)) (dpAll_sc intsN_sc), _, .lst (.inl (.inl (s16 _ _ (s15 _ _ g2)))) (dpAll_sc intsN_sc), lst_okd intsN_sc, lst_okd intsN_sc, ?_⟩
            rw [lst_eqv intsN_sc, if_neg (by simp)]
            exact ⟨s15.trans s16, _, rfl⟩
        · rintro σ H15 ⟨s15, v12, v13, rfl⟩
          have S15 := S14.trans s15
          refine hN1 _ _ ?_
          clear hN1 N1
          refine ifs_ ?_
          repeat (first | walk_at "oxs" | simp only [S15 _ _ es7])
          refine ⟨_, rl_l (S15 _ _ St7.et), ?_⟩
          rw [List.length_map, hlx, if_neg (by simp)]
          refine ⟨_, _, _, M7.same S15, by omega, hsmF, fun q H16 nq s16 eq => ?_⟩
          refine ⟨_, .lst (.inl (.inl eq)) (dpAll_sc intsN_sc), _, .lst (.inl (.inl (s16 _ _ (S15 _ _ epr7)))) (dpAll_sc intsN_sc), lst_okd intsN_sc, lst_okd intsN_sc, ?_⟩
          rw [lst_eqv intsN_sc, if_neg (by simp)]
          exact ⟨_, _, _, _, _, _, _, _, _, _, _, _, _, rfl, (D7.sm.trans S15).trans s16⟩
    · rintro σ H1 ⟨v1, v2, v3, v4, v5, v6, v7, v8, v9, v10, v11, v12, v13, rfl, s1⟩
      refine hN _ _ ?_
      walk_at "ox"
      exact hq _
end

section
variable {P : Program} {w : World} {K : PySem.W.Frag} {mg : Str → Option Value} {base : Heap} {c : Cs}
theorem law_fn {fa : Addr} {fd : FuncData} (F : Fun K "law" "law" s_law fa fd) (T : Txt K mg c)
    (a_law_cell : At K mg "_law_cell" "_law_cell" s_law_cell ["script", "k"])
    (a_law_begin : At K mg "_law_begin" "_law_begin" s_law_begin ["script", "k"])
    (a_law_draw : At K mg "_law_draw" "_law_draw" s_law_draw ["state", "many"])
    (a_Ref___init__ : AtM K c.Ref "__init__" "Ref.__init__" s_Ref___init__ ["self", "number"])
    (a_Instance___init__ : AtM K c.Instance "__init__" "Instance.__init__" s_Instance___init__ ["self", "owner"])
    (a_Kin___init__ : AtM K c.Kin "__init__" "Kin.__init__" s_Kin___init__ ["self", "name", "parent"])
    (a_Parts___init__ : AtM K c.Parts "__init__" "Parts.__init__" s_Parts___init__ ["self", "held"])
    (a_Closure___init__ : AtM K c.Closure "__init__" "Closure.__init__" s_Closure___init__ ["self", "number", "wanted", "scope"])
    (a_Variable___init__ : AtM K c.Variable "__init__" "Variable.__init__" s_Variable___init__ ["self", "value"])
    (a_Frame___init__ : AtM K c.Frame "__init__" "Frame.__init__" s_Frame___init__ ["self", "number", "scope"])
    (a_Chunk___init__ : AtD K c.Chunk "__init__" "Chunk.__init__" s_Chunk___init__ ["self", "number", "wanted", "rows", "scopes"])
    (a_Table_pairs : AtM K c.Table "pairs" "Table.pairs" s_Table_pairs ["self"])
    (a_Store___init__ : AtM K c.Store "__init__" "Store.__init__" s_Store___init__ ["self", "lines"])
    (a_Store_make : AtM K c.Store "make" "Store.make" s_Store_make ["self", "thing"])
    (a_numbers_in : At K mg "numbers_in" "numbers_in" s_numbers_in ["values"])
    (a_values_of : At K mg "values_of" "values_of" s_values_of ["thing"])
    (a_children_of : At K mg "children_of" "children_of" s_children_of ["store", "number"])
    (a_found_from : At K mg "found_from" "found_from" s_found_from ["store", "numbers"])
    (a_roots_of : At K mg "roots_of" "roots_of" s_roots_of ["machine"])
    (a_reached_from : At K mg "reached_from" "reached_from" s_reached_from ["store", "numbers"])
    (a_lost_objects : At K mg "lost_objects" "lost_objects" s_lost_objects ["machine"])
    (a_way_to : At K mg "way_to" "way_to" s_way_to ["machine", "number"])
    (a_Machine___init__ : AtM K c.Machine "__init__" "Machine.__init__" s_Machine___init__ ["self", "chunks", "lines"])
    (a_law_closed : At K mg "_law_closed" "_law_closed" s_law_closed ["store", "numbers"])
    (a_law_lengths : At K mg "_law_lengths" "_law_lengths" s_law_lengths ["store", "scopes"])
    (a_law_refs : At K mg "_law_refs" "_law_refs" s_law_refs ["state", "many", "most"])
    (a_law_machine : At K mg "_law_machine" "_law_machine" s_law_machine ["state"])
    (a_law_frames : At K mg "_law_frames" "_law_frames" s_law_frames ["machine", "state"]) :
    FnOk P w K mg base CX0 8 fa fd ["script"] (spLaw K) := by
  have H_law_cell := ok_cell (P := P) (w := w) (base := base) a_law_cell T 
  have H_law_begin := ok_begin (P := P) (w := w) (base := base) a_law_begin T 
  have H_law_draw := ok_draw (P := P) (w := w) (base := base) a_law_draw T H_law_cell
  have M_Ref := mk_Ref (P := P) (w := w) (base := base) a_Ref___init__ T 
  have M_Instance := mk_Instance (P := P) (w := w) (base := base) a_Instance___init__ T 
  have M_Kin := mk_Kin (P := P) (w := w) (base := base) a_Kin___init__ T 
  have M_Parts := mk_Parts (P := P) (w := w) (base := base) a_Parts___init__ T 
  have M_Closure := mk_Closure (P := P) (w := w) (base := base) a_Closure___init__ T 
  have M_Variable := mk_Variable (P := P) (w := w) (base := base) a_Variable___init__ T 
  have M_Frame := mk_Frame (P := P) (w := w) (base := base) a_Frame___init__ T 
  have M_Chunk := mk_Chunk (P := P) (w := w) (base := base) a_Chunk___init__ T 
  have M_Table_pairs := ok_pairs (P := P) (w := w) (base := base) a_Table_pairs T 
  have M_Store := ok_store (P := P) (w := w) (base := base) a_Store___init__ T M_Kin
  have M_Store_make := ok_make (P := P) (w := w) (base := base) a_Store_make T M_Ref
  have H_numbers_in := ok_nums (P := P) (w := w) (base := base) a_numbers_in T 
  have H_values_of := ok_valsof (P := P) (w := w) (base := base) a_values_of T M_Table_pairs
  have H_children_of := ok_children (P := P) (w := w) (base := base) a_children_of T H_numbers_in H_values_of
  have H_found_from := ok_found (P := P) (w := w) (base := base) a_found_from T H_children_of
  have H_roots_of := ok_roots (P := P) (w := w) (base := base) a_roots_of T H_numbers_in
  have H_reached_from := ok_reached (P := P) (w := w) (base := base) a_reached_from T H_found_from
  have H_lost_objects := ok_lost (P := P) (w := w) (base := base) a_lost_objects T H_found_from H_roots_of
  have H_way_to := ok_way (P := P) (w := w) (base := base) a_way_to T H_found_from H_numbers_in
  have M_Machine := ok_machine (P := P) (w := w) (base := base) a_Machine___init__ T M_Store M_Frame
  have H_law_closed := ok_lclosed (P := P) (w := w) (base := base) a_law_closed T H_children_of
  have H_law_lengths := ok_llengths (P := P) (w := w) (base := base) a_law_lengths T H_children_of
  have H_law_refs := ok_lrefs (P := P) (w := w) (base := base) a_law_refs T H_law_draw M_Ref
  have H_law_machine := ok_lmach (P := P) (w := w) (base := base) a_law_machine T H_law_draw M_Ref M_Chunk M_Machine M_Store_make M_Variable M_Instance M_Closure M_Parts
  have H_law_frames := ok_lframes (P := P) (w := w) (base := base) a_law_frames T H_law_draw H_law_refs M_Frame
  exact law_has F T H_law_begin H_law_draw H_law_machine H_law_frames H_roots_of H_reached_from H_law_closed H_lost_objects H_law_lengths H_way_to
end
theorem all_mk {P : Program} {w : World} {K : PySem.W.Frag} {h : Heap} {mg : Str → Option Value} {fa : Addr} {C_Ref C_Parts C_Table C_Instance C_Kin C_Closure C_Variable C_Cursor C_Chunk C_Frame C_Store C_Machine : Addr} (X : K.In h) (G : h.Ns mainGlobals mg) (hfa : mg "law" = some (.ref fa))
    (n_Ref : PySem.W.nsIn K mainGlobals "Ref" = some (some (.ref C_Ref)))
    (n_Parts : PySem.W.nsIn K mainGlobals "Parts" = some (some (.ref C_Parts)))
    (n_Table : PySem.W.nsIn K mainGlobals "Table" = some (some (.ref C_Table)))
    (n_Instance : PySem.W.nsIn K mainGlobals "Instance" = some (some (.ref C_Instance)))
    (n_Kin : PySem.W.nsIn K mainGlobals "Kin" = some (some (.ref C_Kin)))
    (n_Closure : PySem.W.nsIn K mainGlobals "Closure" = some (some (.ref C_Closure)))
    (n_Variable : PySem.W.nsIn K mainGlobals "Variable" = some (some (.ref C_Variable)))
    (n_Cursor : PySem.W.nsIn K mainGlobals "Cursor" = some (some (.ref C_Cursor)))
    (n_Chunk : PySem.W.nsIn K mainGlobals "Chunk" = some (some (.ref C_Chunk)))
    (n_Frame : PySem.W.nsIn K mainGlobals "Frame" = some (some (.ref C_Frame)))
    (n_Store : PySem.W.nsIn K mainGlobals "Store" = some (some (.ref C_Store)))
    (n_Machine : PySem.W.nsIn K mainGlobals "Machine" = some (some (.ref C_Machine)))
    (x_Ref : ClsFact K C_Ref)
    (x_Parts : ClsFact K C_Parts)
    (x_Table : ClsFact K C_Table)
    (x_Instance : ClsFact K C_Instance)
    (x_Kin : ClsFact K C_Kin)
    (x_Closure : ClsFact K C_Closure)
    (x_Variable : ClsFact K C_Variable)
    (x_Cursor : ClsFact K C_Cursor)
    (x_Chunk : ClsFact K C_Chunk)
    (x_Frame : ClsFact K C_Frame)
    (x_Store : ClsFact K C_Store)
    (x_Machine : ClsFact K C_Machine)
    (ob : ObjFact K)
    (na__code_Machine : PySem.W.findIn K (.ref C_Machine) "_code" = some none)
    (na__rows_Table : PySem.W.findIn K (.ref C_Table) "_rows" = some none)
    (na_at_Frame : PySem.W.findIn K (.ref C_Frame) "at" = some none)
    (na_frames_Machine : PySem.W.findIn K (.ref C_Machine) "frames" = some none)
    (na_handlers_Frame : PySem.W.findIn K (.ref C_Frame) "handlers" = some none)
    (na_held_Parts : PySem.W.findIn K (.ref C_Parts) "held" = some none)
    (na_lines_Store : PySem.W.findIn K (.ref C_Store) "lines" = some none)
    (na_made_Frame : PySem.W.findIn K (.ref C_Frame) "made" = some none)
    (na_methods_Kin : PySem.W.findIn K (.ref C_Kin) "methods" = some none)
    (na_name_Kin : PySem.W.findIn K (.ref C_Kin) "name" = some none)
    (na_named_Instance : PySem.W.findIn K (.ref C_Instance) "named" = some none)
    (na_number_Ref : PySem.W.findIn K (.ref C_Ref) "number" = some none)
    (na_number_Closure : PySem.W.findIn K (.ref C_Closure) "number" = some none)
    (na_number_Chunk : PySem.W.findIn K (.ref C_Chunk) "number" = some none)
    (na_number_Frame : PySem.W.findIn K (.ref C_Frame) "number" = some none)
    (na_output_Store : PySem.W.findIn K (.ref C_Store) "output" = some none)
    (na_owner_Instance : PySem.W.findIn K (.ref C_Instance) "owner" = some none)
    (na_parent_Kin : PySem.W.findIn K (.ref C_Kin) "parent" = some none)
    (na_places_Machine : PySem.W.findIn K (.ref C_Machine) "places" = some none)
    (na_rest_Cursor : PySem.W.findIn K (.ref C_Cursor) "rest" = some none)
    (na_rows_Chunk : PySem.W.findIn K (.ref C_Chunk) "rows" = some none)
    (na_scope_Closure : PySem.W.findIn K (.ref C_Closure) "scope" = some none)
    (na_scope_Frame : PySem.W.findIn K (.ref C_Frame) "scope" = some none)
    (na_scopes_Chunk : PySem.W.findIn K (.ref C_Chunk) "scopes" = some none)
    (na_stack_Frame : PySem.W.findIn K (.ref C_Frame) "stack" = some none)
    (na_state_Machine : PySem.W.findIn K (.ref C_Machine) "state" = some none)
    (na_steps_Machine : PySem.W.findIn K (.ref C_Machine) "steps" = some none)
    (na_store_Machine : PySem.W.findIn K (.ref C_Machine) "store" = some none)
    (na_taken_Store : PySem.W.findIn K (.ref C_Store) "taken" = some none)
    (na_things_Store : PySem.W.findIn K (.ref C_Store) "things" = some none)
    (na_thrown_Machine : PySem.W.findIn K (.ref C_Machine) "thrown" = some none)
    (na_value_Variable : PySem.W.findIn K (.ref C_Variable) "value" = some none)
    (na_wanted_Closure : PySem.W.findIn K (.ref C_Closure) "wanted" = some none)
    (na_wanted_Chunk : PySem.W.findIn K (.ref C_Chunk) "wanted" = some none)
    (oo_Ref_Table : PySem.W.kitOne K (.ref C_Ref) (.ref C_Table) = some (decide (C_Ref = C_Table)))
    (oo_Ref_Variable : PySem.W.kitOne K (.ref C_Ref) (.ref C_Variable) = some (decide (C_Ref = C_Variable)))
    (oo_Ref_Parts : PySem.W.kitOne K (.ref C_Ref) (.ref C_Parts) = some (decide (C_Ref = C_Parts)))
    (oo_Ref_Cursor : PySem.W.kitOne K (.ref C_Ref) (.ref C_Cursor) = some (decide (C_Ref = C_Cursor)))
    (oo_Ref_Instance : PySem.W.kitOne K (.ref C_Ref) (.ref C_Instance) = some (decide (C_Ref = C_Instance)))
    (oo_Ref_Kin : PySem.W.kitOne K (.ref C_Ref) (.ref C_Kin) = some (decide (C_Ref = C_Kin)))
    (oo_Ref_Closure : PySem.W.kitOne K (.ref C_Ref) (.ref C_Closure) = some (decide (C_Ref = C_Closure)))
    (oo_Ref_Ref : PySem.W.kitOne K (.ref C_Ref) (.ref C_Ref) = some (decide (C_Ref = C_Ref)))
    (oo_Ref_Chunk : PySem.W.kitOne K (.ref C_Ref) (.ref C_Chunk) = some (decide (C_Ref = C_Chunk)))
    (oo_Parts_Table : PySem.W.kitOne K (.ref C_Parts) (.ref C_Table) = some (decide (C_Parts = C_Table)))
    (oo_Parts_Variable : PySem.W.kitOne K (.ref C_Parts) (.ref C_Variable) = some (decide (C_Parts = C_Variable)))
    (oo_Parts_Parts : PySem.W.kitOne K (.ref C_Parts) (.ref C_Parts) = some (decide (C_Parts = C_Parts)))
    (oo_Parts_Cursor : PySem.W.kitOne K (.ref C_Parts) (.ref C_Cursor) = some (decide (C_Parts = C_Cursor)))
    (oo_Parts_Instance : PySem.W.kitOne K (.ref C_Parts) (.ref C_Instance) = some (decide (C_Parts = C_Instance)))
    (oo_Parts_Kin : PySem.W.kitOne K (.ref C_Parts) (.ref C_Kin) = some (decide (C_Parts = C_Kin)))
    (oo_Parts_Closure : PySem.W.kitOne K (.ref C_Parts) (.ref C_Closure) = some (decide (C_Parts = C_Closure)))
    (oo_Parts_Ref : PySem.W.kitOne K (.ref C_Parts) (.ref C_Ref) = some (decide (C_Parts = C_Ref)))
    (oo_Parts_Chunk : PySem.W.kitOne K (.ref C_Parts) (.ref C_Chunk) = some (decide (C_Parts = C_Chunk)))
    (oo_Table_Table : PySem.W.kitOne K (.ref C_Table) (.ref C_Table) = some (decide (C_Table = C_Table)))
    (oo_Table_Variable : PySem.W.kitOne K (.ref C_Table) (.ref C_Variable) = some (decide (C_Table = C_Variable)))
    (oo_Table_Parts : PySem.W.kitOne K (.ref C_Table) (.ref C_Parts) = some (decide (C_Table = C_Parts)))
    (oo_Table_Cursor : PySem.W.kitOne K (.ref C_Table) (.ref C_Cursor) = some (decide (C_Table = C_Cursor)))
    (oo_Table_Instance : PySem.W.kitOne K (.ref C_Table) (.ref C_Instance) = some (decide (C_Table = C_Instance)))
    (oo_Table_Kin : PySem.W.kitOne K (.ref C_Table) (.ref C_Kin) = some (decide (C_Table = C_Kin)))
    (oo_Table_Closure : PySem.W.kitOne K (.ref C_Table) (.ref C_Closure) = some (decide (C_Table = C_Closure)))
    (oo_Table_Ref : PySem.W.kitOne K (.ref C_Table) (.ref C_Ref) = some (decide (C_Table = C_Ref)))
    (oo_Table_Chunk : PySem.W.kitOne K (.ref C_Table) (.ref C_Chunk) = some (decide (C_Table = C_Chunk)))
    (oo_Instance_Table : PySem.W.kitOne K (.ref C_Instance) (.ref C_Table) = some (decide (C_Instance = C_Table)))
    (oo_Instance_Variable : PySem.W.kitOne K (.ref C_Instance) (.ref C_Variable) = some (decide (C_Instance = C_Variable)))
    (oo_Instance_Parts : PySem.W.kitOne K (.ref C_Instance) (.ref C_Parts) = some (decide (C_Instance = C_Parts)))
    (oo_Instance_Cursor : PySem.W.kitOne K (.ref C_Instance) (.ref C_Cursor) = some (decide (C_Instance = C_Cursor)))
    (oo_Instance_Instance : PySem.W.kitOne K (.ref C_Instance) (.ref C_Instance) = some (decide (C_Instance = C_Instance)))
    (oo_Instance_Kin : PySem.W.kitOne K (.ref C_Instance) (.ref C_Kin) = some (decide (C_Instance = C_Kin)))
    (oo_Instance_Closure : PySem.W.kitOne K (.ref C_Instance) (.ref C_Closure) = some (decide (C_Instance = C_Closure)))
    (oo_Instance_Ref : PySem.W.kitOne K (.ref C_Instance) (.ref C_Ref) = some (decide (C_Instance = C_Ref)))
    (oo_Instance_Chunk : PySem.W.kitOne K (.ref C_Instance) (.ref C_Chunk) = some (decide (C_Instance = C_Chunk)))
    (oo_Kin_Table : PySem.W.kitOne K (.ref C_Kin) (.ref C_Table) = some (decide (C_Kin = C_Table)))
    (oo_Kin_Variable : PySem.W.kitOne K (.ref C_Kin) (.ref C_Variable) = some (decide (C_Kin = C_Variable)))
    (oo_Kin_Parts : PySem.W.kitOne K (.ref C_Kin) (.ref C_Parts) = some (decide (C_Kin = C_Parts)))
    (oo_Kin_Cursor : PySem.W.kitOne K (.ref C_Kin) (.ref C_Cursor) = some (decide (C_Kin = C_Cursor)))
    (oo_Kin_Instance : PySem.W.kitOne K (.ref C_Kin) (.ref C_Instance) = some (decide (C_Kin = C_Instance)))
    (oo_Kin_Kin : PySem.W.kitOne K (.ref C_Kin) (.ref C_Kin) = some (decide (C_Kin = C_Kin)))
    (oo_Kin_Closure : PySem.W.kitOne K (.ref C_Kin) (.ref C_Closure) = some (decide (C_Kin = C_Closure)))
    (oo_Kin_Ref : PySem.W.kitOne K (.ref C_Kin) (.ref C_Ref) = some (decide (C_Kin = C_Ref)))
    (oo_Kin_Chunk : PySem.W.kitOne K (.ref C_Kin) (.ref C_Chunk) = some (decide (C_Kin = C_Chunk)))
    (oo_Closure_Table : PySem.W.kitOne K (.ref C_Closure) (.ref C_Table) = some (decide (C_Closure = C_Table)))
    (oo_Closure_Variable : PySem.W.kitOne K (.ref C_Closure) (.ref C_Variable) = some (decide (C_Closure = C_Variable)))
    (oo_Closure_Parts : PySem.W.kitOne K (.ref C_Closure) (.ref C_Parts) = some (decide (C_Closure = C_Parts)))
    (oo_Closure_Cursor : PySem.W.kitOne K (.ref C_Closure) (.ref C_Cursor) = some (decide (C_Closure = C_Cursor)))
    (oo_Closure_Instance : PySem.W.kitOne K (.ref C_Closure) (.ref C_Instance) = some (decide (C_Closure = C_Instance)))
    (oo_Closure_Kin : PySem.W.kitOne K (.ref C_Closure) (.ref C_Kin) = some (decide (C_Closure = C_Kin)))
    (oo_Closure_Closure : PySem.W.kitOne K (.ref C_Closure) (.ref C_Closure) = some (decide (C_Closure = C_Closure)))
    (oo_Closure_Ref : PySem.W.kitOne K (.ref C_Closure) (.ref C_Ref) = some (decide (C_Closure = C_Ref)))
    (oo_Closure_Chunk : PySem.W.kitOne K (.ref C_Closure) (.ref C_Chunk) = some (decide (C_Closure = C_Chunk)))
    (oo_Variable_Table : PySem.W.kitOne K (.ref C_Variable) (.ref C_Table) = some (decide (C_Variable = C_Table)))
    (oo_Variable_Variable : PySem.W.kitOne K (.ref C_Variable) (.ref C_Variable) = some (decide (C_Variable = C_Variable)))
    (oo_Variable_Parts : PySem.W.kitOne K (.ref C_Variable) (.ref C_Parts) = some (decide (C_Variable = C_Parts)))
    (oo_Variable_Cursor : PySem.W.kitOne K (.ref C_Variable) (.ref C_Cursor) = some (decide (C_Variable = C_Cursor)))
    (oo_Variable_Instance : PySem.W.kitOne K (.ref C_Variable) (.ref C_Instance) = some (decide (C_Variable = C_Instance)))
    (oo_Variable_Kin : PySem.W.kitOne K (.ref C_Variable) (.ref C_Kin) = some (decide (C_Variable = C_Kin)))
    (oo_Variable_Closure : PySem.W.kitOne K (.ref C_Variable) (.ref C_Closure) = some (decide (C_Variable = C_Closure)))
    (oo_Variable_Ref : PySem.W.kitOne K (.ref C_Variable) (.ref C_Ref) = some (decide (C_Variable = C_Ref)))
    (oo_Variable_Chunk : PySem.W.kitOne K (.ref C_Variable) (.ref C_Chunk) = some (decide (C_Variable = C_Chunk)))
    (oo_Cursor_Table : PySem.W.kitOne K (.ref C_Cursor) (.ref C_Table) = some (decide (C_Cursor = C_Table)))
    (oo_Cursor_Variable : PySem.W.kitOne K (.ref C_Cursor) (.ref C_Variable) = some (decide (C_Cursor = C_Variable)))
    (oo_Cursor_Parts : PySem.W.kitOne K (.ref C_Cursor) (.ref C_Parts) = some (decide (C_Cursor = C_Parts)))
    (oo_Cursor_Cursor : PySem.W.kitOne K (.ref C_Cursor) (.ref C_Cursor) = some (decide (C_Cursor = C_Cursor)))
    (oo_Cursor_Instance : PySem.W.kitOne K (.ref C_Cursor) (.ref C_Instance) = some (decide (C_Cursor = C_Instance)))
    (oo_Cursor_Kin : PySem.W.kitOne K (.ref C_Cursor) (.ref C_Kin) = some (decide (C_Cursor = C_Kin)))
    (oo_Cursor_Closure : PySem.W.kitOne K (.ref C_Cursor) (.ref C_Closure) = some (decide (C_Cursor = C_Closure)))
    (oo_Cursor_Ref : PySem.W.kitOne K (.ref C_Cursor) (.ref C_Ref) = some (decide (C_Cursor = C_Ref)))
    (oo_Cursor_Chunk : PySem.W.kitOne K (.ref C_Cursor) (.ref C_Chunk) = some (decide (C_Cursor = C_Chunk)))
    (oo_Chunk_Table : PySem.W.kitOne K (.ref C_Chunk) (.ref C_Table) = some (decide (C_Chunk = C_Table)))
    (oo_Chunk_Variable : PySem.W.kitOne K (.ref C_Chunk) (.ref C_Variable) = some (decide (C_Chunk = C_Variable)))
    (oo_Chunk_Parts : PySem.W.kitOne K (.ref C_Chunk) (.ref C_Parts) = some (decide (C_Chunk = C_Parts)))
    (oo_Chunk_Cursor : PySem.W.kitOne K (.ref C_Chunk) (.ref C_Cursor) = some (decide (C_Chunk = C_Cursor)))
    (oo_Chunk_Instance : PySem.W.kitOne K (.ref C_Chunk) (.ref C_Instance) = some (decide (C_Chunk = C_Instance)))
    (oo_Chunk_Kin : PySem.W.kitOne K (.ref C_Chunk) (.ref C_Kin) = some (decide (C_Chunk = C_Kin)))
    (oo_Chunk_Closure : PySem.W.kitOne K (.ref C_Chunk) (.ref C_Closure) = some (decide (C_Chunk = C_Closure)))
    (oo_Chunk_Ref : PySem.W.kitOne K (.ref C_Chunk) (.ref C_Ref) = some (decide (C_Chunk = C_Ref)))
    (oo_Chunk_Chunk : PySem.W.kitOne K (.ref C_Chunk) (.ref C_Chunk) = some (decide (C_Chunk = C_Chunk)))
    (oo_Frame_Table : PySem.W.kitOne K (.ref C_Frame) (.ref C_Table) = some (decide (C_Frame = C_Table)))
    (oo_Frame_Variable : PySem.W.kitOne K (.ref C_Frame) (.ref C_Variable) = some (decide (C_Frame = C_Variable)))
    (oo_Frame_Parts : PySem.W.kitOne K (.ref C_Frame) (.ref C_Parts) = some (decide (C_Frame = C_Parts)))
    (oo_Frame_Cursor : PySem.W.kitOne K (.ref C_Frame) (.ref C_Cursor) = some (decide (C_Frame = C_Cursor)))
    (oo_Frame_Instance : PySem.W.kitOne K (.ref C_Frame) (.ref C_Instance) = some (decide (C_Frame = C_Instance)))
    (oo_Frame_Kin : PySem.W.kitOne K (.ref C_Frame) (.ref C_Kin) = some (decide (C_Frame = C_Kin)))
    (oo_Frame_Closure : PySem.W.kitOne K (.ref C_Frame) (.ref C_Closure) = some (decide (C_Frame = C_Closure)))
    (oo_Frame_Ref : PySem.W.kitOne K (.ref C_Frame) (.ref C_Ref) = some (decide (C_Frame = C_Ref)))
    (oo_Frame_Chunk : PySem.W.kitOne K (.ref C_Frame) (.ref C_Chunk) = some (decide (C_Frame = C_Chunk)))
    (oo_Store_Table : PySem.W.kitOne K (.ref C_Store) (.ref C_Table) = some (decide (C_Store = C_Table)))
    (oo_Store_Variable : PySem.W.kitOne K (.ref C_Store) (.ref C_Variable) = some (decide (C_Store = C_Variable)))
    (oo_Store_Parts : PySem.W.kitOne K (.ref C_Store) (.ref C_Parts) = some (decide (C_Store = C_Parts)))
    (oo_Store_Cursor : PySem.W.kitOne K (.ref C_Store) (.ref C_Cursor) = some (decide (C_Store = C_Cursor)))
    (oo_Store_Instance : PySem.W.kitOne K (.ref C_Store) (.ref C_Instance) = some (decide (C_Store = C_Instance)))
    (oo_Store_Kin : PySem.W.kitOne K (.ref C_Store) (.ref C_Kin) = some (decide (C_Store = C_Kin)))
    (oo_Store_Closure : PySem.W.kitOne K (.ref C_Store) (.ref C_Closure) = some (decide (C_Store = C_Closure)))
    (oo_Store_Ref : PySem.W.kitOne K (.ref C_Store) (.ref C_Ref) = some (decide (C_Store = C_Ref)))
    (oo_Store_Chunk : PySem.W.kitOne K (.ref C_Store) (.ref C_Chunk) = some (decide (C_Store = C_Chunk)))
    (oo_Machine_Table : PySem.W.kitOne K (.ref C_Machine) (.ref C_Table) = some (decide (C_Machine = C_Table)))
    (oo_Machine_Variable : PySem.W.kitOne K (.ref C_Machine) (.ref C_Variable) = some (decide (C_Machine = C_Variable)))
    (oo_Machine_Parts : PySem.W.kitOne K (.ref C_Machine) (.ref C_Parts) = some (decide (C_Machine = C_Parts)))
    (oo_Machine_Cursor : PySem.W.kitOne K (.ref C_Machine) (.ref C_Cursor) = some (decide (C_Machine = C_Cursor)))
    (oo_Machine_Instance : PySem.W.kitOne K (.ref C_Machine) (.ref C_Instance) = some (decide (C_Machine = C_Instance)))
    (oo_Machine_Kin : PySem.W.kitOne K (.ref C_Machine) (.ref C_Kin) = some (decide (C_Machine = C_Kin)))
    (oo_Machine_Closure : PySem.W.kitOne K (.ref C_Machine) (.ref C_Closure) = some (decide (C_Machine = C_Closure)))
    (oo_Machine_Ref : PySem.W.kitOne K (.ref C_Machine) (.ref C_Ref) = some (decide (C_Machine = C_Ref)))
    (oo_Machine_Chunk : PySem.W.kitOne K (.ref C_Machine) (.ref C_Chunk) = some (decide (C_Machine = C_Chunk)))
    (bo_NoneType_Table : PySem.W.kitOne K (.type "NoneType") (.ref C_Table) = some false)
    (bo_NoneType_Variable : PySem.W.kitOne K (.type "NoneType") (.ref C_Variable) = some false)
    (bo_NoneType_Parts : PySem.W.kitOne K (.type "NoneType") (.ref C_Parts) = some false)
    (bo_NoneType_Cursor : PySem.W.kitOne K (.type "NoneType") (.ref C_Cursor) = some false)
    (bo_NoneType_Instance : PySem.W.kitOne K (.type "NoneType") (.ref C_Instance) = some false)
    (bo_NoneType_Kin : PySem.W.kitOne K (.type "NoneType") (.ref C_Kin) = some false)
    (bo_NoneType_Closure : PySem.W.kitOne K (.type "NoneType") (.ref C_Closure) = some false)
    (bo_NoneType_Ref : PySem.W.kitOne K (.type "NoneType") (.ref C_Ref) = some false)
    (bo_NoneType_Chunk : PySem.W.kitOne K (.type "NoneType") (.ref C_Chunk) = some false)
    (bo_bool_Table : PySem.W.kitOne K (.type "bool") (.ref C_Table) = some false)
    (bo_bool_Variable : PySem.W.kitOne K (.type "bool") (.ref C_Variable) = some false)
    (bo_bool_Parts : PySem.W.kitOne K (.type "bool") (.ref C_Parts) = some false)
    (bo_bool_Cursor : PySem.W.kitOne K (.type "bool") (.ref C_Cursor) = some false)
    (bo_bool_Instance : PySem.W.kitOne K (.type "bool") (.ref C_Instance) = some false)
    (bo_bool_Kin : PySem.W.kitOne K (.type "bool") (.ref C_Kin) = some false)
    (bo_bool_Closure : PySem.W.kitOne K (.type "bool") (.ref C_Closure) = some false)
    (bo_bool_Ref : PySem.W.kitOne K (.type "bool") (.ref C_Ref) = some false)
    (bo_bool_Chunk : PySem.W.kitOne K (.type "bool") (.ref C_Chunk) = some false)
    (bo_int_Table : PySem.W.kitOne K (.type "int") (.ref C_Table) = some false)
    (bo_int_Variable : PySem.W.kitOne K (.type "int") (.ref C_Variable) = some false)
    (bo_int_Parts : PySem.W.kitOne K (.type "int") (.ref C_Parts) = some false)
    (bo_int_Cursor : PySem.W.kitOne K (.type "int") (.ref C_Cursor) = some false)
    (bo_int_Instance : PySem.W.kitOne K (.type "int") (.ref C_Instance) = some false)
    (bo_int_Kin : PySem.W.kitOne K (.type "int") (.ref C_Kin) = some false)
    (bo_int_Closure : PySem.W.kitOne K (.type "int") (.ref C_Closure) = some false)
    (bo_int_Ref : PySem.W.kitOne K (.type "int") (.ref C_Ref) = some false)
    (bo_int_Chunk : PySem.W.kitOne K (.type "int") (.ref C_Chunk) = some false)
    (bo_str_Table : PySem.W.kitOne K (.type "str") (.ref C_Table) = some false)
    (bo_str_Variable : PySem.W.kitOne K (.type "str") (.ref C_Variable) = some false)
    (bo_str_Parts : PySem.W.kitOne K (.type "str") (.ref C_Parts) = some false)
    (bo_str_Cursor : PySem.W.kitOne K (.type "str") (.ref C_Cursor) = some false)
    (bo_str_Instance : PySem.W.kitOne K (.type "str") (.ref C_Instance) = some false)
    (bo_str_Kin : PySem.W.kitOne K (.type "str") (.ref C_Kin) = some false)
    (bo_str_Closure : PySem.W.kitOne K (.type "str") (.ref C_Closure) = some false)
    (bo_str_Ref : PySem.W.kitOne K (.type "str") (.ref C_Ref) = some false)
    (bo_str_Chunk : PySem.W.kitOne K (.type "str") (.ref C_Chunk) = some false)
    (bo_list_Table : PySem.W.kitOne K (.type "list") (.ref C_Table) = some false)
    (bo_list_Variable : PySem.W.kitOne K (.type "list") (.ref C_Variable) = some false)
    (bo_list_Parts : PySem.W.kitOne K (.type "list") (.ref C_Parts) = some false)
    (bo_list_Cursor : PySem.W.kitOne K (.type "list") (.ref C_Cursor) = some false)
    (bo_list_Instance : PySem.W.kitOne K (.type "list") (.ref C_Instance) = some false)
    (bo_list_Kin : PySem.W.kitOne K (.type "list") (.ref C_Kin) = some false)
    (bo_list_Closure : PySem.W.kitOne K (.type "list") (.ref C_Closure) = some false)
    (bo_list_Ref : PySem.W.kitOne K (.type "list") (.ref C_Ref) = some false)
    (bo_list_Chunk : PySem.W.kitOne K (.type "list") (.ref C_Chunk) = some false)
    (bo_tuple_Table : PySem.W.kitOne K (.type "tuple") (.ref C_Table) = some false)
    (bo_tuple_Variable : PySem.W.kitOne K (.type "tuple") (.ref C_Variable) = some false)
    (bo_tuple_Parts : PySem.W.kitOne K (.type "tuple") (.ref C_Parts) = some false)
    (bo_tuple_Cursor : PySem.W.kitOne K (.type "tuple") (.ref C_Cursor) = some false)
    (bo_tuple_Instance : PySem.W.kitOne K (.type "tuple") (.ref C_Instance) = some false)
    (bo_tuple_Kin : PySem.W.kitOne K (.type "tuple") (.ref C_Kin) = some false)
    (bo_tuple_Closure : PySem.W.kitOne K (.type "tuple") (.ref C_Closure) = some false)
    (bo_tuple_Ref : PySem.W.kitOne K (.type "tuple") (.ref C_Ref) = some false)
    (bo_tuple_Chunk : PySem.W.kitOne K (.type "tuple") (.ref C_Chunk) = some false)
    (bo_dict_Table : PySem.W.kitOne K (.type "dict") (.ref C_Table) = some false)
    (bo_dict_Variable : PySem.W.kitOne K (.type "dict") (.ref C_Variable) = some false)
    (bo_dict_Parts : PySem.W.kitOne K (.type "dict") (.ref C_Parts) = some false)
    (bo_dict_Cursor : PySem.W.kitOne K (.type "dict") (.ref C_Cursor) = some false)
    (bo_dict_Instance : PySem.W.kitOne K (.type "dict") (.ref C_Instance) = some false)
    (bo_dict_Kin : PySem.W.kitOne K (.type "dict") (.ref C_Kin) = some false)
    (bo_dict_Closure : PySem.W.kitOne K (.type "dict") (.ref C_Closure) = some false)
    (bo_dict_Ref : PySem.W.kitOne K (.type "dict") (.ref C_Ref) = some false)
    (bo_dict_Chunk : PySem.W.kitOne K (.type "dict") (.ref C_Chunk) = some false)
    (ob_Ref_bool : PySem.W.kitOne K (.ref C_Ref) (.type "bool") = some false)
    (ob_Ref_int : PySem.W.kitOne K (.ref C_Ref) (.type "int") = some false)
    (ob_Ref_str : PySem.W.kitOne K (.ref C_Ref) (.type "str") = some false)
    (ob_Ref_list : PySem.W.kitOne K (.ref C_Ref) (.type "list") = some false)
    (ob_Ref_tuple : PySem.W.kitOne K (.ref C_Ref) (.type "tuple") = some false)
    (ob_Ref_dict : PySem.W.kitOne K (.ref C_Ref) (.type "dict") = some false)
    (ob_Parts_bool : PySem.W.kitOne K (.ref C_Parts) (.type "bool") = some false)
    (ob_Parts_int : PySem.W.kitOne K (.ref C_Parts) (.type "int") = some false)
    (ob_Parts_str : PySem.W.kitOne K (.ref C_Parts) (.type "str") = some false)
    (ob_Parts_list : PySem.W.kitOne K (.ref C_Parts) (.type "list") = some false)
    (ob_Parts_tuple : PySem.W.kitOne K (.ref C_Parts) (.type "tuple") = some false)
    (ob_Parts_dict : PySem.W.kitOne K (.ref C_Parts) (.type "dict") = some false)
    (ob_Table_bool : PySem.W.kitOne K (.ref C_Table) (.type "bool") = some false)
    (ob_Table_int : PySem.W.kitOne K (.ref C_Table) (.type "int") = some false)
    (ob_Table_str : PySem.W.kitOne K (.ref C_Table) (.type "str") = some false)
    (ob_Table_list : PySem.W.kitOne K (.ref C_Table) (.type "list") = some false)
    (ob_Table_tuple : PySem.W.kitOne K (.ref C_Table) (.type "tuple") = some false)
    (ob_Table_dict : PySem.W.kitOne K (.ref C_Table) (.type "dict") = some false)
    (ob_Instance_bool : PySem.W.kitOne K (.ref C_Instance) (.type "bool") = some false)
    (ob_Instance_int : PySem.W.kitOne K (.ref C_Instance) (.type "int") = some false)
    (ob_Instance_str : PySem.W.kitOne K (.ref C_Instance) (.type "str") = some false)
    (ob_Instance_list : PySem.W.kitOne K (.ref C_Instance) (.type "list") = some false)
    (ob_Instance_tuple : PySem.W.kitOne K (.ref C_Instance) (.type "tuple") = some false)
    (ob_Instance_dict : PySem.W.kitOne K (.ref C_Instance) (.type "dict") = some false)
    (ob_Kin_bool : PySem.W.kitOne K (.ref C_Kin) (.type "bool") = some false)
    (ob_Kin_int : PySem.W.kitOne K (.ref C_Kin) (.type "int") = some false)
    (ob_Kin_str : PySem.W.kitOne K (.ref C_Kin) (.type "str") = some false)
    (ob_Kin_list : PySem.W.kitOne K (.ref C_Kin) (.type "list") = some false)
    (ob_Kin_tuple : PySem.W.kitOne K (.ref C_Kin) (.type "tuple") = some false)
    (ob_Kin_dict : PySem.W.kitOne K (.ref C_Kin) (.type "dict") = some false)
    (ob_Closure_bool : PySem.W.kitOne K (.ref C_Closure) (.type "bool") = some false)
    (ob_Closure_int : PySem.W.kitOne K (.ref C_Closure) (.type "int") = some false)
    (ob_Closure_str : PySem.W.kitOne K (.ref C_Closure) (.type "str") = some false)
    (ob_Closure_list : PySem.W.kitOne K (.ref C_Closure) (.type "list") = some false)
    (ob_Closure_tuple : PySem.W.kitOne K (.ref C_Closure) (.type "tuple") = some false)
    (ob_Closure_dict : PySem.W.kitOne K (.ref C_Closure) (.type "dict") = some false)
    (ob_Variable_bool : PySem.W.kitOne K (.ref C_Variable) (.type "bool") = some false)
    (ob_Variable_int : PySem.W.kitOne K (.ref C_Variable) (.type "int") = some false)
    (ob_Variable_str : PySem.W.kitOne K (.ref C_Variable) (.type "str") = some false)
    (ob_Variable_list : PySem.W.kitOne K (.ref C_Variable) (.type "list") = some false)
    (ob_Variable_tuple : PySem.W.kitOne K (.ref C_Variable) (.type "tuple") = some false)
    (ob_Variable_dict : PySem.W.kitOne K (.ref C_Variable) (.type "dict") = some false)
    (ob_Cursor_bool : PySem.W.kitOne K (.ref C_Cursor) (.type "bool") = some false)
    (ob_Cursor_int : PySem.W.kitOne K (.ref C_Cursor) (.type "int") = some false)
    (ob_Cursor_str : PySem.W.kitOne K (.ref C_Cursor) (.type "str") = some false)
    (ob_Cursor_list : PySem.W.kitOne K (.ref C_Cursor) (.type "list") = some false)
    (ob_Cursor_tuple : PySem.W.kitOne K (.ref C_Cursor) (.type "tuple") = some false)
    (ob_Cursor_dict : PySem.W.kitOne K (.ref C_Cursor) (.type "dict") = some false)
    (ob_Chunk_bool : PySem.W.kitOne K (.ref C_Chunk) (.type "bool") = some false)
    (ob_Chunk_int : PySem.W.kitOne K (.ref C_Chunk) (.type "int") = some false)
    (ob_Chunk_str : PySem.W.kitOne K (.ref C_Chunk) (.type "str") = some false)
    (ob_Chunk_list : PySem.W.kitOne K (.ref C_Chunk) (.type "list") = some false)
    (ob_Chunk_tuple : PySem.W.kitOne K (.ref C_Chunk) (.type "tuple") = some false)
    (ob_Chunk_dict : PySem.W.kitOne K (.ref C_Chunk) (.type "dict") = some false)
    (ob_Frame_bool : PySem.W.kitOne K (.ref C_Frame) (.type "bool") = some false)
    (ob_Frame_int : PySem.W.kitOne K (.ref C_Frame) (.type "int") = some false)
    (ob_Frame_str : PySem.W.kitOne K (.ref C_Frame) (.type "str") = some false)
    (ob_Frame_list : PySem.W.kitOne K (.ref C_Frame) (.type "list") = some false)
    (ob_Frame_tuple : PySem.W.kitOne K (.ref C_Frame) (.type "tuple") = some false)
    (ob_Frame_dict : PySem.W.kitOne K (.ref C_Frame) (.type "dict") = some false)
    (ob_Store_bool : PySem.W.kitOne K (.ref C_Store) (.type "bool") = some false)
    (ob_Store_int : PySem.W.kitOne K (.ref C_Store) (.type "int") = some false)
    (ob_Store_str : PySem.W.kitOne K (.ref C_Store) (.type "str") = some false)
    (ob_Store_list : PySem.W.kitOne K (.ref C_Store) (.type "list") = some false)
    (ob_Store_tuple : PySem.W.kitOne K (.ref C_Store) (.type "tuple") = some false)
    (ob_Store_dict : PySem.W.kitOne K (.ref C_Store) (.type "dict") = some false)
    (ob_Machine_bool : PySem.W.kitOne K (.ref C_Machine) (.type "bool") = some false)
    (ob_Machine_int : PySem.W.kitOne K (.ref C_Machine) (.type "int") = some false)
    (ob_Machine_str : PySem.W.kitOne K (.ref C_Machine) (.type "str") = some false)
    (ob_Machine_list : PySem.W.kitOne K (.ref C_Machine) (.type "list") = some false)
    (ob_Machine_tuple : PySem.W.kitOne K (.ref C_Machine) (.type "tuple") = some false)
    (ob_Machine_dict : PySem.W.kitOne K (.ref C_Machine) (.type "dict") = some false)
    (ne_Ref_Parts : C_Ref ≠ C_Parts)
    (ne_Ref_Table : C_Ref ≠ C_Table)
    (ne_Ref_Instance : C_Ref ≠ C_Instance)
    (ne_Ref_Kin : C_Ref ≠ C_Kin)
    (ne_Ref_Closure : C_Ref ≠ C_Closure)
    (ne_Ref_Variable : C_Ref ≠ C_Variable)
    (ne_Ref_Cursor : C_Ref ≠ C_Cursor)
    (ne_Ref_Chunk : C_Ref ≠ C_Chunk)
    (ne_Ref_Frame : C_Ref ≠ C_Frame)
    (ne_Ref_Store : C_Ref ≠ C_Store)
    (ne_Ref_Machine : C_Ref ≠ C_Machine)
    (ne_Parts_Table : C_Parts ≠ C_Table)
    (ne_Parts_Instance : C_Parts ≠ C_Instance)
    (ne_Parts_Kin : C_Parts ≠ C_Kin)
    (ne_Parts_Closure : C_Parts ≠ C_Closure)
    (ne_Parts_Variable : C_Parts ≠ C_Variable)
    (ne_Parts_Cursor : C_Parts ≠ C_Cursor)
    (ne_Parts_Chunk : C_Parts ≠ C_Chunk)
    (ne_Parts_Frame : C_Parts ≠ C_Frame)
    (ne_Parts_Store : C_Parts ≠ C_Store)
    (ne_Parts_Machine : C_Parts ≠ C_Machine)
    (ne_Table_Instance : C_Table ≠ C_Instance)
    (ne_Table_Kin : C_Table ≠ C_Kin)
    (ne_Table_Closure : C_Table ≠ C_Closure)
    (ne_Table_Variable : C_Table ≠ C_Variable)
    (ne_Table_Cursor : C_Table ≠ C_Cursor)
    (ne_Table_Chunk : C_Table ≠ C_Chunk)
    (ne_Table_Frame : C_Table ≠ C_Frame)
    (ne_Table_Store : C_Table ≠ C_Store)
    (ne_Table_Machine : C_Table ≠ C_Machine)
    (ne_Instance_Kin : C_Instance ≠ C_Kin)
    (ne_Instance_Closure : C_Instance ≠ C_Closure)
    (ne_Instance_Variable : C_Instance ≠ C_Variable)
    (ne_Instance_Cursor : C_Instance ≠ C_Cursor)
    (ne_Instance_Chunk : C_Instance ≠ C_Chunk)
    (ne_Instance_Frame : C_Instance ≠ C_Frame)
    (ne_Instance_Store : C_Instance ≠ C_Store)
    (ne_Instance_Machine : C_Instance ≠ C_Machine)
    (ne_Kin_Closure : C_Kin ≠ C_Closure)
    (ne_Kin_Variable : C_Kin ≠ C_Variable)
    (ne_Kin_Cursor : C_Kin ≠ C_Cursor)
    (ne_Kin_Chunk : C_Kin ≠ C_Chunk)
    (ne_Kin_Frame : C_Kin ≠ C_Frame)
    (ne_Kin_Store : C_Kin ≠ C_Store)
    (ne_Kin_Machine : C_Kin ≠ C_Machine)
    (ne_Closure_Variable : C_Closure ≠ C_Variable)
    (ne_Closure_Cursor : C_Closure ≠ C_Cursor)
    (ne_Closure_Chunk : C_Closure ≠ C_Chunk)
    (ne_Closure_Frame : C_Closure ≠ C_Frame)
    (ne_Closure_Store : C_Closure ≠ C_Store)
    (ne_Closure_Machine : C_Closure ≠ C_Machine)
    (ne_Variable_Cursor : C_Variable ≠ C_Cursor)
    (ne_Variable_Chunk : C_Variable ≠ C_Chunk)
    (ne_Variable_Frame : C_Variable ≠ C_Frame)
    (ne_Variable_Store : C_Variable ≠ C_Store)
    (ne_Variable_Machine : C_Variable ≠ C_Machine)
    (ne_Cursor_Chunk : C_Cursor ≠ C_Chunk)
    (ne_Cursor_Frame : C_Cursor ≠ C_Frame)
    (ne_Cursor_Store : C_Cursor ≠ C_Store)
    (ne_Cursor_Machine : C_Cursor ≠ C_Machine)
    (ne_Chunk_Frame : C_Chunk ≠ C_Frame)
    (ne_Chunk_Store : C_Chunk ≠ C_Store)
    (ne_Chunk_Machine : C_Chunk ≠ C_Machine)
    (ne_Frame_Store : C_Frame ≠ C_Store)
    (ne_Frame_Machine : C_Frame ≠ C_Machine)
    (ne_Store_Machine : C_Store ≠ C_Machine)
    (f0 : FnFact K "_law_cell" "_law_cell" s_law_cell) (f1 : FnFact K "_law_begin" "_law_begin" s_law_begin) (f2 : FnFact K "_law_draw" "_law_draw" s_law_draw) (f3 : MFact K C_Ref "__init__" "Ref.__init__" s_Ref___init__) (f4 : MFact K C_Instance "__init__" "Instance.__init__" s_Instance___init__) (f5 : MFact K C_Kin "__init__" "Kin.__init__" s_Kin___init__) (f6 : MFact K C_Parts "__init__" "Parts.__init__" s_Parts___init__) (f7 : MFact K C_Closure "__init__" "Closure.__init__" s_Closure___init__) (f8 : MFact K C_Variable "__init__" "Variable.__init__" s_Variable___init__) (f9 : MFact K C_Frame "__init__" "Frame.__init__" s_Frame___init__) (f10 : MFactD K C_Chunk "__init__" "Chunk.__init__" s_Chunk___init__) (f11 : MFact K C_Table "pairs" "Table.pairs" s_Table_pairs) (f12 : MFact K C_Store "__init__" "Store.__init__" s_Store___init__) (f13 : MFact K C_Store "make" "Store.make" s_Store_make) (f14 : FnFact K "numbers_in" "numbers_in" s_numbers_in) (f15 : FnFact K "values_of" "values_of" s_values_of) (f16 : FnFact K "children_of" "children_of" s_children_of) (f17 : FnFact K "found_from" "found_from" s_found_from) (f18 : FnFact K "roots_of" "roots_of" s_roots_of) (f19 : FnFact K "reached_from" "reached_from" s_reached_from) (f20 : FnFact K "lost_objects" "lost_objects" s_lost_objects) (f21 : FnFact K "way_to" "way_to" s_way_to) (f22 : MFact K C_Machine "__init__" "Machine.__init__" s_Machine___init__) (f23 : FnFact K "_law_closed" "_law_closed" s_law_closed) (f24 : FnFact K "_law_lengths" "_law_lengths" s_law_lengths) (f25 : FnFact K "_law_refs" "_law_refs" s_law_refs) (f26 : FnFact K "_law_machine" "_law_machine" s_law_machine) (f27 : FnFact K "_law_frames" "_law_frames" s_law_frames) (f28 : FnFact K "law" "law" s_law)
    (z_abs : PySem.W.nsIn K mainGlobals "abs" = some none) (z_bool : PySem.W.nsIn K mainGlobals "bool" = some none) (z_dict : PySem.W.nsIn K mainGlobals "dict" = some none) (z_int : PySem.W.nsIn K mainGlobals "int" = some none) (z_isinstance : PySem.W.nsIn K mainGlobals "isinstance" = some none) (z_len : PySem.W.nsIn K mainGlobals "len" = some none) (z_list : PySem.W.nsIn K mainGlobals "list" = some none) (z_max : PySem.W.nsIn K mainGlobals "max" = some none) (z_min : PySem.W.nsIn K mainGlobals "min" = some none) (z_range : PySem.W.nsIn K mainGlobals "range" = some none) (z_sorted : PySem.W.nsIn K mainGlobals "sorted" = some none) (z_str : PySem.W.nsIn K mainGlobals "str" = some none) (z_sum : PySem.W.nsIn K mainGlobals "sum" = some none) (z_tuple : PySem.W.nsIn K mainGlobals "tuple" = some none)
    (q_ERROR : ∃ t, PySem.W.nsIn K mainGlobals "ERROR" = some (some (.str "Error" t))) :
    ∃ fd : FuncData, (∀ (s : Shared) (v : Value), BindsTo s fd ⟨[v], []⟩ [("script", v)]) ∧ ∀ base : Heap, K.In base → base.Ns mainGlobals mg → FnOk P w K mg base CX0 8 fa fd ["script"] (spLaw K) := by
  have T : Txt K mg ⟨C_Ref, C_Parts, C_Table, C_Instance, C_Kin, C_Closure, C_Variable, C_Cursor, C_Chunk, C_Frame, C_Store, C_Machine⟩ := ⟨PySem.W.mg_none_of X G z_abs,
    PySem.W.mg_none_of X G z_bool,
    PySem.W.mg_none_of X G z_dict,
    PySem.W.mg_none_of X G z_int,
    PySem.W.mg_none_of X G z_isinstance,
    PySem.W.mg_none_of X G z_len,
    PySem.W.mg_none_of X G z_list,
    PySem.W.mg_none_of X G z_max,
    PySem.W.mg_none_of X G z_min,
    PySem.W.mg_none_of X G z_range,
    PySem.W.mg_none_of X G z_sorted,
    PySem.W.mg_none_of X G z_str,
    PySem.W.mg_none_of X G z_sum,
    PySem.W.mg_none_of X G z_tuple,
    (let ⟨t, h⟩ := q_ERROR; ⟨t, PySem.W.mg_of X G h⟩),
    PySem.W.mg_of X G n_Ref,
    x_Ref.cls,
    ⟨x_Ref.mks, x_Ref.kp, PySem.W.mg_of X G n_Ref⟩,
    PySem.W.mg_of X G n_Parts,
    x_Parts.cls,
    ⟨x_Parts.mks, x_Parts.kp, PySem.W.mg_of X G n_Parts⟩,
    PySem.W.mg_of X G n_Table,
    x_Table.cls,
    ⟨x_Table.mks, x_Table.kp, PySem.W.mg_of X G n_Table⟩,
    PySem.W.mg_of X G n_Instance,
    x_Instance.cls,
    ⟨x_Instance.mks, x_Instance.kp, PySem.W.mg_of X G n_Instance⟩,
    PySem.W.mg_of X G n_Kin,
    x_Kin.cls,
    ⟨x_Kin.mks, x_Kin.kp, PySem.W.mg_of X G n_Kin⟩,
    PySem.W.mg_of X G n_Closure,
    x_Closure.cls,
    ⟨x_Closure.mks, x_Closure.kp, PySem.W.mg_of X G n_Closure⟩,
    PySem.W.mg_of X G n_Variable,
    x_Variable.cls,
    ⟨x_Variable.mks, x_Variable.kp, PySem.W.mg_of X G n_Variable⟩,
    PySem.W.mg_of X G n_Cursor,
    x_Cursor.cls,
    ⟨x_Cursor.mks, x_Cursor.kp, PySem.W.mg_of X G n_Cursor⟩,
    PySem.W.mg_of X G n_Chunk,
    x_Chunk.cls,
    ⟨x_Chunk.mks, x_Chunk.kp, PySem.W.mg_of X G n_Chunk⟩,
    PySem.W.mg_of X G n_Frame,
    x_Frame.cls,
    ⟨x_Frame.mks, x_Frame.kp, PySem.W.mg_of X G n_Frame⟩,
    PySem.W.mg_of X G n_Store,
    x_Store.cls,
    ⟨x_Store.mks, x_Store.kp, PySem.W.mg_of X G n_Store⟩,
    PySem.W.mg_of X G n_Machine,
    x_Machine.cls,
    ⟨x_Machine.mks, x_Machine.kp, PySem.W.mg_of X G n_Machine⟩,
    (all_cons ⟨x_Machine.cls, na__code_Machine⟩ all_nil),
    (all_cons ⟨x_Table.cls, na__rows_Table⟩ all_nil),
    (all_cons ⟨x_Frame.cls, na_at_Frame⟩ all_nil),
    (all_cons ⟨x_Machine.cls, na_frames_Machine⟩ all_nil),
    all_nil,
    (all_cons ⟨x_Frame.cls, na_handlers_Frame⟩ all_nil),
    (all_cons ⟨x_Parts.cls, na_held_Parts⟩ all_nil),
    (all_cons ⟨x_Store.cls, na_lines_Store⟩ all_nil),
    (all_cons ⟨x_Frame.cls, na_made_Frame⟩ all_nil),
    (all_cons ⟨x_Kin.cls, na_methods_Kin⟩ all_nil),
    (all_cons ⟨x_Kin.cls, na_name_Kin⟩ all_nil),
    (all_cons ⟨x_Instance.cls, na_named_Instance⟩ all_nil),
    (all_cons ⟨x_Ref.cls, na_number_Ref⟩ (all_cons ⟨x_Closure.cls, na_number_Closure⟩ (all_cons ⟨x_Chunk.cls, na_number_Chunk⟩ (all_cons ⟨x_Frame.cls, na_number_Frame⟩ all_nil)))),
    (all_cons ⟨x_Store.cls, na_output_Store⟩ all_nil),
    (all_cons ⟨x_Instance.cls, na_owner_Instance⟩ all_nil),
    (all_cons ⟨x_Kin.cls, na_parent_Kin⟩ all_nil),
    (all_cons ⟨x_Machine.cls, na_places_Machine⟩ all_nil),
    (all_cons ⟨x_Cursor.cls, na_rest_Cursor⟩ all_nil),
    (all_cons ⟨x_Chunk.cls, na_rows_Chunk⟩ all_nil),
    (all_cons ⟨x_Closure.cls, na_scope_Closure⟩ (all_cons ⟨x_Frame.cls, na_scope_Frame⟩ all_nil)),
    (all_cons ⟨x_Chunk.cls, na_scopes_Chunk⟩ all_nil),
    (all_cons ⟨x_Frame.cls, na_stack_Frame⟩ all_nil),
    (all_cons ⟨x_Machine.cls, na_state_Machine⟩ all_nil),
    (all_cons ⟨x_Machine.cls, na_steps_Machine⟩ all_nil),
    (all_cons ⟨x_Machine.cls, na_store_Machine⟩ all_nil),
    (all_cons ⟨x_Store.cls, na_taken_Store⟩ all_nil),
    (all_cons ⟨x_Store.cls, na_things_Store⟩ all_nil),
    (all_cons ⟨x_Machine.cls, na_thrown_Machine⟩ all_nil),
    (all_cons ⟨x_Variable.cls, na_value_Variable⟩ all_nil),
    (all_cons ⟨x_Closure.cls, na_wanted_Closure⟩ (all_cons ⟨x_Chunk.cls, na_wanted_Chunk⟩ all_nil)),
    ob,
    ⟨(all_cons (x_Ref.ocls ob) (all_cons (x_Parts.ocls ob) (all_cons (x_Table.ocls ob) (all_cons (x_Instance.ocls ob) (all_cons (x_Kin.ocls ob) (all_cons (x_Closure.ocls ob) (all_cons (x_Variable.ocls ob) (all_cons (x_Cursor.ocls ob) (all_cons (x_Chunk.ocls ob) (all_cons (x_Frame.ocls ob) (all_cons (x_Store.ocls ob) (all_cons (x_Machine.ocls ob) all_nil)))))))))))), (all_cons (all_cons oo_Ref_Table (all_cons oo_Ref_Variable (all_cons oo_Ref_Parts (all_cons oo_Ref_Cursor (all_cons oo_Ref_Instance (all_cons oo_Ref_Kin (all_cons oo_Ref_Closure (all_cons oo_Ref_Ref (all_cons oo_Ref_Chunk all_nil))))))))) (all_cons (all_cons oo_Parts_Table (all_cons oo_Parts_Variable (all_cons oo_Parts_Parts (all_cons oo_Parts_Cursor (all_cons oo_Parts_Instance (all_cons oo_Parts_Kin (all_cons oo_Parts_Closure (all_cons oo_Parts_Ref (all_cons oo_Parts_Chunk all_nil))))))))) (all_cons (all_cons oo_Table_Table (all_cons oo_Table_Variable (all_cons oo_Table_Parts (all_cons oo_Table_Cursor (all_cons oo_Table_Instance (all_cons oo_Table_Kin (all_cons oo_Table_Closure (all_cons oo_Table_Ref (all_cons oo_Table_Chunk all_nil))))))))) (all_cons (all_cons oo_Instance_Table (all_cons oo_Instance_Variable (all_cons oo_Instance_Parts (all_cons oo_Instance_Cursor (all_cons oo_Instance_Instance (all_cons oo_Instance_Kin (all_cons oo_Instance_Closure (all_cons oo_Instance_Ref (all_cons oo_Instance_Chunk all_nil))))))))) (all_cons (all_cons oo_Kin_Table (all_cons oo_Kin_Variable (all_cons oo_Kin_Parts (all_cons oo_Kin_Cursor (all_cons oo_Kin_Instance (all_cons oo_Kin_Kin (all_cons oo_Kin_Closure (all_cons oo_Kin_Ref (all_cons oo_Kin_Chunk all_nil))))))))) (all_cons (all_cons oo_Closure_Table (all_cons oo_Closure_Variable (all_cons oo_Closure_Parts (all_cons oo_Closure_Cursor (all_cons oo_Closure_Instance (all_cons oo_Closure_Kin (all_cons oo_Closure_Closure (all_cons oo_Closure_Ref (all_cons oo_Closure_Chunk all_nil))))))))) (all_cons (all_cons oo_Variable_Table (all_cons oo_Variable_Variable (all_cons oo_Variable_Parts (all_cons oo_Variable_Cursor (all_cons oo_Variable_Instance (all_cons oo_Variable_Kin (all_cons oo_Variable_Closure (all_cons oo_Variable_Ref (all_cons oo_Variable_Chunk all_nil))))))))) (all_cons (all_cons oo_Cursor_Table (all_cons oo_Cursor_Variable (all_cons oo_Cursor_Parts (all_cons oo_Cursor_Cursor (all_cons oo_Cursor_Instance (all_cons oo_Cursor_Kin (all_cons oo_Cursor_Closure (all_cons oo_Cursor_Ref (all_cons oo_Cursor_Chunk all_nil))))))))) (all_cons (all_cons oo_Chunk_Table (all_cons oo_Chunk_Variable (all_cons oo_Chunk_Parts (all_cons oo_Chunk_Cursor (all_cons oo_Chunk_Instance (all_cons oo_Chunk_Kin (all_cons oo_Chunk_Closure (all_cons oo_Chunk_Ref (all_cons oo_Chunk_Chunk all_nil))))))))) (all_cons (all_cons oo_Frame_Table (all_cons oo_Frame_Variable (all_cons oo_Frame_Parts (all_cons oo_Frame_Cursor (all_cons oo_Frame_Instance (all_cons oo_Frame_Kin (all_cons oo_Frame_Closure (all_cons oo_Frame_Ref (all_cons oo_Frame_Chunk all_nil))))))))) (all_cons (all_cons oo_Store_Table (all_cons oo_Store_Variable (all_cons oo_Store_Parts (all_cons oo_Store_Cursor (all_cons oo_Store_Instance (all_cons oo_Store_Kin (all_cons oo_Store_Closure (all_cons oo_Store_Ref (all_cons oo_Store_Chunk all_nil))))))))) (all_cons (all_cons oo_Machine_Table (all_cons oo_Machine_Variable (all_cons oo_Machine_Parts (all_cons oo_Machine_Cursor (all_cons oo_Machine_Instance (all_cons oo_Machine_Kin (all_cons oo_Machine_Closure (all_cons oo_Machine_Ref (all_cons oo_Machine_Chunk all_nil))))))))) all_nil)))))))))))), (all_cons (all_cons bo_NoneType_Table (all_cons bo_NoneType_Variable (all_cons bo_NoneType_Parts (all_cons bo_NoneType_Cursor (all_cons bo_NoneType_Instance (all_cons bo_NoneType_Kin (all_cons bo_NoneType_Closure (all_cons bo_NoneType_Ref (all_cons bo_NoneType_Chunk all_nil))))))))) (all_cons (all_cons bo_bool_Table (all_cons bo_bool_Variable (all_cons bo_bool_Parts (all_cons bo_bool_Cursor (all_cons bo_bool_Instance (all_cons bo_bool_Kin (all_cons bo_bool_Closure (all_cons bo_bool_Ref (all_cons bo_bool_Chunk all_nil))))))))) (all_cons (all_cons bo_int_Table (all_cons bo_int_Variable (all_cons bo_int_Parts (all_cons bo_int_Cursor (all_cons bo_int_Instance (all_cons bo_int_Kin (all_cons bo_int_Closure (all_cons bo_int_Ref (all_cons bo_int_Chunk all_nil))))))))) (all_cons (all_cons bo_str_Table (all_cons bo_str_Variable (all_cons bo_str_Parts (all_cons bo_str_Cursor (all_cons bo_str_Instance (all_cons bo_str_Kin (all_cons bo_str_Closure (all_cons bo_str_Ref (all_cons bo_str_Chunk all_nil))))))))) (all_cons (all_cons bo_list_Table (all_cons bo_list_Variable (all_cons bo_list_Parts (all_cons bo_list_Cursor (all_cons bo_list_Instance (all_cons bo_list_Kin (all_cons bo_list_Closure (all_cons bo_list_Ref (all_cons bo_list_Chunk all_nil))))))))) (all_cons (all_cons bo_tuple_Table (all_cons bo_tuple_Variable (all_cons bo_tuple_Parts (all_cons bo_tuple_Cursor (all_cons bo_tuple_Instance (all_cons bo_tuple_Kin (all_cons bo_tuple_Closure (all_cons bo_tuple_Ref (all_cons bo_tuple_Chunk all_nil))))))))) (all_cons (all_cons bo_dict_Table (all_cons bo_dict_Variable (all_cons bo_dict_Parts (all_cons bo_dict_Cursor (all_cons bo_dict_Instance (all_cons bo_dict_Kin (all_cons bo_dict_Closure (all_cons bo_dict_Ref (all_cons bo_dict_Chunk all_nil))))))))) all_nil))))))), (all_cons (all_cons ob_Ref_bool (all_cons ob_Ref_int (all_cons ob_Ref_str (all_cons ob_Ref_list (all_cons ob_Ref_tuple (all_cons ob_Ref_dict all_nil)))))) (all_cons (all_cons ob_Parts_bool (all_cons ob_Parts_int (all_cons ob_Parts_str (all_cons ob_Parts_list (all_cons ob_Parts_tuple (all_cons ob_Parts_dict all_nil)))))) (all_cons (all_cons ob_Table_bool (all_cons ob_Table_int (all_cons ob_Table_str (all_cons ob_Table_list (all_cons ob_Table_tuple (all_cons ob_Table_dict all_nil)))))) (all_cons (all_cons ob_Instance_bool (all_cons ob_Instance_int (all_cons ob_Instance_str (all_cons ob_Instance_list (all_cons ob_Instance_tuple (all_cons ob_Instance_dict all_nil)))))) (all_cons (all_cons ob_Kin_bool (all_cons ob_Kin_int (all_cons ob_Kin_str (all_cons ob_Kin_list (all_cons ob_Kin_tuple (all_cons ob_Kin_dict all_nil)))))) (all_cons (all_cons ob_Closure_bool (all_cons ob_Closure_int (all_cons ob_Closure_str (all_cons ob_Closure_list (all_cons ob_Closure_tuple (all_cons ob_Closure_dict all_nil)))))) (all_cons (all_cons ob_Variable_bool (all_cons ob_Variable_int (all_cons ob_Variable_str (all_cons ob_Variable_list (all_cons ob_Variable_tuple (all_cons ob_Variable_dict all_nil)))))) (all_cons (all_cons ob_Cursor_bool (all_cons ob_Cursor_int (all_cons ob_Cursor_str (all_cons ob_Cursor_list (all_cons ob_Cursor_tuple (all_cons ob_Cursor_dict all_nil)))))) (all_cons (all_cons ob_Chunk_bool (all_cons ob_Chunk_int (all_cons ob_Chunk_str (all_cons ob_Chunk_list (all_cons ob_Chunk_tuple (all_cons ob_Chunk_dict all_nil)))))) (all_cons (all_cons ob_Frame_bool (all_cons ob_Frame_int (all_cons ob_Frame_str (all_cons ob_Frame_list (all_cons ob_Frame_tuple (all_cons ob_Frame_dict all_nil)))))) (all_cons (all_cons ob_Store_bool (all_cons ob_Store_int (all_cons ob_Store_str (all_cons ob_Store_list (all_cons ob_Store_tuple (all_cons ob_Store_dict all_nil)))))) (all_cons (all_cons ob_Machine_bool (all_cons ob_Machine_int (all_cons ob_Machine_str (all_cons ob_Machine_list (all_cons ob_Machine_tuple (all_cons ob_Machine_dict all_nil)))))) all_nil))))))))))))⟩,
    ⟨eq_false ne_Ref_Parts, eq_false ne_Ref_Table, eq_false ne_Ref_Instance, eq_false ne_Ref_Kin, eq_false ne_Ref_Closure, eq_false ne_Ref_Variable, eq_false ne_Ref_Cursor, eq_false ne_Ref_Chunk, eq_false ne_Ref_Frame, eq_false ne_Ref_Store, eq_false ne_Ref_Machine, eq_false (fun h => ne_Ref_Parts h.symm), eq_false ne_Parts_Table, eq_false ne_Parts_Instance, eq_false ne_Parts_Kin, eq_false ne_Parts_Closure, eq_false ne_Parts_Variable, eq_false ne_Parts_Cursor, eq_false ne_Parts_Chunk, eq_false ne_Parts_Frame, eq_false ne_Parts_Store, eq_false ne_Parts_Machine, eq_false (fun h => ne_Ref_Table h.symm), eq_false (fun h => ne_Parts_Table h.symm), eq_false ne_Table_Instance, eq_false ne_Table_Kin, eq_false ne_Table_Closure, eq_false ne_Table_Variable, eq_false ne_Table_Cursor, eq_false ne_Table_Chunk, eq_false ne_Table_Frame, eq_false ne_Table_Store, eq_false ne_Table_Machine, eq_false (fun h => ne_Ref_Instance h.symm), eq_false (fun h => ne_Parts_Instance h.symm), eq_false (fun h => ne_Table_Instance h.symm), eq_false ne_Instance_Kin, eq_false ne_Instance_Closure, eq_false ne_Instance_Variable, eq_false ne_Instance_Cursor, eq_false ne_Instance_Chunk, eq_false ne_Instance_Frame, eq_false ne_Instance_Store, eq_false ne_Instance_Machine, eq_false (fun h => ne_Ref_Kin h.symm), eq_false (fun h => ne_Parts_Kin h.symm), eq_false (fun h => ne_Table_Kin h.symm), eq_false (fun h => ne_Instance_Kin h.symm), eq_false ne_Kin_Closure, eq_false ne_Kin_Variable, eq_false ne_Kin_Cursor, eq_false ne_Kin_Chunk, eq_false ne_Kin_Frame, eq_false ne_Kin_Store, eq_false ne_Kin_Machine, eq_false (fun h => ne_Ref_Closure h.symm), eq_false (fun h => ne_Parts_Closure h.symm), eq_false (fun h => ne_Table_Closure h.symm), eq_false (fun h => ne_Instance_Closure h.symm), eq_false (fun h => ne_Kin_Closure h.symm), eq_false ne_Closure_Variable, eq_false ne_Closure_Cursor, eq_false ne_Closure_Chunk, eq_false ne_Closure_Frame, eq_false ne_Closure_Store, eq_false ne_Closure_Machine, eq_false (fun h => ne_Ref_Variable h.symm), eq_false (fun h => ne_Parts_Variable h.symm), eq_false (fun h => ne_Table_Variable h.symm), eq_false (fun h => ne_Instance_Variable h.symm), eq_false (fun h => ne_Kin_Variable h.symm), eq_false (fun h => ne_Closure_Variable h.symm), eq_false ne_Variable_Cursor, eq_false ne_Variable_Chunk, eq_false ne_Variable_Frame, eq_false ne_Variable_Store, eq_false ne_Variable_Machine, eq_false (fun h => ne_Ref_Cursor h.symm), eq_false (fun h => ne_Parts_Cursor h.symm), eq_false (fun h => ne_Table_Cursor h.symm), eq_false (fun h => ne_Instance_Cursor h.symm), eq_false (fun h => ne_Kin_Cursor h.symm), eq_false (fun h => ne_Closure_Cursor h.symm), eq_false (fun h => ne_Variable_Cursor h.symm), eq_false ne_Cursor_Chunk, eq_false ne_Cursor_Frame, eq_false ne_Cursor_Store, eq_false ne_Cursor_Machine, eq_false (fun h => ne_Ref_Chunk h.symm), eq_false (fun h => ne_Parts_Chunk h.symm), eq_false (fun h => ne_Table_Chunk h.symm), eq_false (fun h => ne_Instance_Chunk h.symm), eq_false (fun h => ne_Kin_Chunk h.symm), eq_false (fun h => ne_Closure_Chunk h.symm), eq_false (fun h => ne_Variable_Chunk h.symm), eq_false (fun h => ne_Cursor_Chunk h.symm), eq_false ne_Chunk_Frame, eq_false ne_Chunk_Store, eq_false ne_Chunk_Machine, eq_false (fun h => ne_Ref_Frame h.symm), eq_false (fun h => ne_Parts_Frame h.symm), eq_false (fun h => ne_Table_Frame h.symm), eq_false (fun h => ne_Instance_Frame h.symm), eq_false (fun h => ne_Kin_Frame h.symm), eq_false (fun h => ne_Closure_Frame h.symm), eq_false (fun h => ne_Variable_Frame h.symm), eq_false (fun h => ne_Cursor_Frame h.symm), eq_false (fun h => ne_Chunk_Frame h.symm), eq_false ne_Frame_Store, eq_false ne_Frame_Machine, eq_false (fun h => ne_Ref_Store h.symm), eq_false (fun h => ne_Parts_Store h.symm), eq_false (fun h => ne_Table_Store h.symm), eq_false (fun h => ne_Instance_Store h.symm), eq_false (fun h => ne_Kin_Store h.symm), eq_false (fun h => ne_Closure_Store h.symm), eq_false (fun h => ne_Variable_Store h.symm), eq_false (fun h => ne_Cursor_Store h.symm), eq_false (fun h => ne_Chunk_Store h.symm), eq_false (fun h => ne_Frame_Store h.symm), eq_false ne_Store_Machine, eq_false (fun h => ne_Ref_Machine h.symm), eq_false (fun h => ne_Parts_Machine h.symm), eq_false (fun h => ne_Table_Machine h.symm), eq_false (fun h => ne_Instance_Machine h.symm), eq_false (fun h => ne_Kin_Machine h.symm), eq_false (fun h => ne_Closure_Machine h.symm), eq_false (fun h => ne_Variable_Machine h.symm), eq_false (fun h => ne_Cursor_Machine h.symm), eq_false (fun h => ne_Chunk_Machine h.symm), eq_false (fun h => ne_Frame_Machine h.symm), eq_false (fun h => ne_Store_Machine h.symm)⟩⟩
  have a0 : At K mg "_law_cell" "_law_cell" s_law_cell ["script", "k"] := At.of X G f0 fun _ _ _ _ _ _ us hl => match us, hl with | [_, _], _ => rfl
  have a1 : At K mg "_law_begin" "_law_begin" s_law_begin ["script", "k"] := At.of X G f1 fun _ _ _ _ _ _ us hl => match us, hl with | [_, _], _ => rfl
  have a2 : At K mg "_law_draw" "_law_draw" s_law_draw ["state", "many"] := At.of X G f2 fun _ _ _ _ _ _ us hl => match us, hl with | [_, _], _ => rfl
  have a3 : AtM K C_Ref "__init__" "Ref.__init__" s_Ref___init__ ["self", "number"] := AtM.of f3 fun _ _ _ _ _ _ us hl => match us, hl with | [_, _], _ => rfl
  have a4 : AtM K C_Instance "__init__" "Instance.__init__" s_Instance___init__ ["self", "owner"] := AtM.of f4 fun _ _ _ _ _ _ us hl => match us, hl with | [_, _], _ => rfl
  have a5 : AtM K C_Kin "__init__" "Kin.__init__" s_Kin___init__ ["self", "name", "parent"] := AtM.of f5 fun _ _ _ _ _ _ us hl => match us, hl with | [_, _, _], _ => rfl
  have a6 : AtM K C_Parts "__init__" "Parts.__init__" s_Parts___init__ ["self", "held"] := AtM.of f6 fun _ _ _ _ _ _ us hl => match us, hl with | [_, _], _ => rfl
  have a7 : AtM K C_Closure "__init__" "Closure.__init__" s_Closure___init__ ["self", "number", "wanted", "scope"] := AtM.of f7 fun _ _ _ _ _ _ us hl => match us, hl with | [_, _, _, _], _ => rfl
  have a8 : AtM K C_Variable "__init__" "Variable.__init__" s_Variable___init__ ["self", "value"] := AtM.of f8 fun _ _ _ _ _ _ us hl => match us, hl with | [_, _], _ => rfl
  have a9 : AtM K C_Frame "__init__" "Frame.__init__" s_Frame___init__ ["self", "number", "scope"] := AtM.of f9 fun _ _ _ _ _ _ us hl => match us, hl with | [_, _, _], _ => rfl
  have a10 : AtD K C_Chunk "__init__" "Chunk.__init__" s_Chunk___init__ ["self", "number", "wanted", "rows", "scopes"] := AtD.of (n := 4) f10 rfl fun T kV doc pm an cdv ct us its hl hi => match us, its, hl, hi with | [_, _, _, _], [_], _, _ => ⟨_, rfl, rfl⟩
  have a11 : AtM K C_Table "pairs" "Table.pairs" s_Table_pairs ["self"] := AtM.of f11 fun _ _ _ _ _ _ us hl => match us, hl with | [_], _ => rfl
  have a12 : AtM K C_Store "__init__" "Store.__init__" s_Store___init__ ["self", "lines"] := AtM.of f12 fun _ _ _ _ _ _ us hl => match us, hl with | [_, _], _ => rfl
  have a13 : AtM K C_Store "make" "Store.make" s_Store_make ["self", "thing"] := AtM.of f13 fun _ _ _ _ _ _ us hl => match us, hl with | [_, _], _ => rfl
  have a14 : At K mg "numbers_in" "numbers_in" s_numbers_in ["values"] := At.of X G f14 fun _ _ _ _ _ _ us hl => match us, hl with | [_], _ => rfl
  have a15 : At K mg "values_of" "values_of" s_values_of ["thing"] := At.of X G f15 fun _ _ _ _ _ _ us hl => match us, hl with | [_], _ => rfl
  have a16 : At K mg "children_of" "children_of" s_children_of ["store", "number"] := At.of X G f16 fun _ _ _ _ _ _ us hl => match us, hl with | [_, _], _ => rfl
  have a17 : At K mg "found_from" "found_from" s_found_from ["store", "numbers"] := At.of X G f17 fun _ _ _ _ _ _ us hl => match us, hl with | [_, _], _ => rfl
  have a18 : At K mg "roots_of" "roots_of" s_roots_of ["machine"] := At.of X G f18 fun _ _ _ _ _ _ us hl => match us, hl with | [_], _ => rfl
  have a19 : At K mg "reached_from" "reached_from" s_reached_from ["store", "numbers"] := At.of X G f19 fun _ _ _ _ _ _ us hl => match us, hl with | [_, _], _ => rfl
  have a20 : At K mg "lost_objects" "lost_objects" s_lost_objects ["machine"] := At.of X G f20 fun _ _ _ _ _ _ us hl => match us, hl with | [_], _ => rfl
  have a21 : At K mg "way_to" "way_to" s_way_to ["machine", "number"] := At.of X G f21 fun _ _ _ _ _ _ us hl => match us, hl with | [_, _], _ => rfl
  have a22 : AtM K C_Machine "__init__" "Machine.__init__" s_Machine___init__ ["self", "chunks", "lines"] := AtM.of f22 fun _ _ _ _ _ _ us hl => match us, hl with | [_, _, _], _ => rfl
  have a23 : At K mg "_law_closed" "_law_closed" s_law_closed ["store", "numbers"] := At.of X G f23 fun _ _ _ _ _ _ us hl => match us, hl with | [_, _], _ => rfl
  have a24 : At K mg "_law_lengths" "_law_lengths" s_law_lengths ["store", "scopes"] := At.of X G f24 fun _ _ _ _ _ _ us hl => match us, hl with | [_, _], _ => rfl
  have a25 : At K mg "_law_refs" "_law_refs" s_law_refs ["state", "many", "most"] := At.of X G f25 fun _ _ _ _ _ _ us hl => match us, hl with | [_, _, _], _ => rfl
  have a26 : At K mg "_law_machine" "_law_machine" s_law_machine ["state"] := At.of X G f26 fun _ _ _ _ _ _ us hl => match us, hl with | [_], _ => rfl
  have a27 : At K mg "_law_frames" "_law_frames" s_law_frames ["machine", "state"] := At.of X G f27 fun _ _ _ _ _ _ us hl => match us, hl with | [_, _], _ => rfl
  obtain ⟨f, oc, od, an, sl, kV, dc, pm, cd, ct, a, l, cc, k⟩ := f28.ex
  have e := hfa.symm.trans (PySem.W.mg_of X G a)
  cases e
  have F1 := fun_mk (st := s_law) l cc k
  have al : At K mg "law" "law" s_law ["script"] := ⟨_, _, F1, F1.binds fun _ _ _ _ _ _ us hl => match us, hl with | [_], _ => rfl, PySem.W.mg_of X G a⟩
  refine ⟨PySem.W.fnOf "law" "law" (defArgs s_law) (defBody s_law) (defScope s_law) .none kV dc pm an cd ct, fun s v => .of_eq rfl, fun base _ _ => ?_⟩
  exact law_fn F1 T a0 a1 a2 a3 a4 a5 a6 a7 a8 a9 a10 a11 a12 a13 a14 a15 a16 a17 a18 a19 a20 a21 a22 a23 a24 a25 a26 a27
end My
namespace My
open PySem PySem.Spec PyProof.Rows L2 Fx
set_option maxHeartbeats 0
theorem facts {P : Program} {w : World} {K : PySem.W.Frag} {h : Heap} {mg : Str → Option Value} {f : Addr} (KX : K.In h) (G : h.Ns mainGlobals mg) (hfa : mg ("law" : Str) = some (.ref f)) (c : Hd.Says fas fns dcs w K) :
    ∃ fd : FuncData, (∀ (s : Shared) (v : Value), BindsTo s fd ⟨[v], []⟩ [("script", v)]) ∧ ∀ base : Heap, K.In base → base.Ns mainGlobals mg → FnOk P w K mg base CX0 8 f fd ["script"] (spLaw K) :=
  all_mk KX G hfa
    (Hd.glo_ (c.fact 0 rfl))
    (Hd.glo_ (c.fact 1 rfl))
    (Hd.glo_ (c.fact 2 rfl))
    (Hd.glo_ (c.fact 3 rfl))
    (Hd.glo_ (c.fact 4 rfl))
    (Hd.glo_ (c.fact 5 rfl))
    (Hd.glo_ (c.fact 6 rfl))
    (Hd.glo_ (c.fact 7 rfl))
    (Hd.glo_ (c.fact 8 rfl))
    (Hd.glo_ (c.fact 9 rfl))
    (Hd.glo_ (c.fact 10 rfl))
    (Hd.glo_ (c.fact 11 rfl))
    (Hd.cls_ (c.fact 12 rfl))
    (Hd.cls_ (c.fact 13 rfl))
    (Hd.cls_ (c.fact 14 rfl))
    (Hd.cls_ (c.fact 15 rfl))
    (Hd.cls_ (c.fact 16 rfl))
    (Hd.cls_ (c.fact 17 rfl))
    (Hd.cls_ (c.fact 18 rfl))
    (Hd.cls_ (c.fact 19 rfl))
    (Hd.cls_ (c.fact 20 rfl))
    (Hd.cls_ (c.fact 21 rfl))
    (Hd.cls_ (c.fact 22 rfl))
    (Hd.cls_ (c.fact 23 rfl))
    (Hd.obj_ (c.fact 24 rfl))
    (Hd.noat_ (c.fact 25 rfl))
    (Hd.noat_ (c.fact 26 rfl))
    (Hd.noat_ (c.fact 27 rfl))
    (Hd.noat_ (c.fact 28 rfl))
    (Hd.noat_ (c.fact 29 rfl))
    (Hd.noat_ (c.fact 30 rfl))
    (Hd.noat_ (c.fact 31 rfl))
    (Hd.noat_ (c.fact 32 rfl))
    (Hd.noat_ (c.fact 33 rfl))
    (Hd.noat_ (c.fact 34 rfl))
    (Hd.noat_ (c.fact 35 rfl))
    (Hd.noat_ (c.fact 36 rfl))
    (Hd.noat_ (c.fact 37 rfl))
    (Hd.noat_ (c.fact 38 rfl))
    (Hd.noat_ (c.fact 39 rfl))
    (Hd.noat_ (c.fact 40 rfl))
    (Hd.noat_ (c.fact 41 rfl))
    (Hd.noat_ (c.fact 42 rfl))
    (Hd.noat_ (c.fact 43 rfl))
    (Hd.noat_ (c.fact 44 rfl))
    (Hd.noat_ (c.fact 45 rfl))
    (Hd.noat_ (c.fact 46 rfl))
    (Hd.noat_ (c.fact 47 rfl))
    (Hd.noat_ (c.fact 48 rfl))
    (Hd.noat_ (c.fact 49 rfl))
    (Hd.noat_ (c.fact 50 rfl))
    (Hd.noat_ (c.fact 51 rfl))
    (Hd.noat_ (c.fact 52 rfl))
    (Hd.noat_ (c.fact 53 rfl))
    (Hd.noat_ (c.fact 54 rfl))
    (Hd.noat_ (c.fact 55 rfl))
    (Hd.noat_ (c.fact 56 rfl))
    (Hd.noat_ (c.fact 57 rfl))
    (Hd.noat_ (c.fact 58 rfl))
    (Hd.kio_ (c.fact 59 rfl))
    (Hd.kio_ (c.fact 60 rfl))
    (Hd.kio_ (c.fact 61 rfl))
    (Hd.kio_ (c.fact 62 rfl))
    (Hd.kio_ (c.fact 63 rfl))
    (Hd.kio_ (c.fact 64 rfl))
    (Hd.kio_ (c.fact 65 rfl))
    (Hd.kio_ (c.fact 66 rfl))
    (Hd.kio_ (c.fact 67 rfl))
    (Hd.kio_ (c.fact 68 rfl))
    (Hd.kio_ (c.fact 69 rfl))
    (Hd.kio_ (c.fact 70 rfl))
    (Hd.kio_ (c.fact 71 rfl))
    (Hd.kio_ (c.fact 72 rfl))
    (Hd.kio_ (c.fact 73 rfl))
    (Hd.kio_ (c.fact 74 rfl))
    (Hd.kio_ (c.fact 75 rfl))
    (Hd.kio_ (c.fact 76 rfl))
    (Hd.kio_ (c.fact 77 rfl))
    (Hd.kio_ (c.fact 78 rfl))
    (Hd.kio_ (c.fact 79 rfl))
    (Hd.kio_ (c.fact 80 rfl))
    (Hd.kio_ (c.fact 81 rfl))
    (Hd.kio_ (c.fact 82 rfl))
    (Hd.kio_ (c.fact 83 rfl))
    (Hd.kio_ (c.fact 84 rfl))
    (Hd.kio_ (c.fact 85 rfl))
    (Hd.kio_ (c.fact 86 rfl))
    (Hd.kio_ (c.fact 87 rfl))
    (Hd.kio_ (c.fact 88 rfl))
    (Hd.kio_ (c.fact 89 rfl))
    (Hd.kio_ (c.fact 90 rfl))
    (Hd.kio_ (c.fact 91 rfl))
    (Hd.kio_ (c.fact 92 rfl))
    (Hd.kio_ (c.fact 93 rfl))
    (Hd.kio_ (c.fact 94 rfl))
    (Hd.kio_ (c.fact 95 rfl))
    (Hd.kio_ (c.fact 96 rfl))
    (Hd.kio_ (c.fact 97 rfl))
    (Hd.kio_ (c.fact 98 rfl))
    (Hd.kio_ (c.fact 99 rfl))
    (Hd.kio_ (c.fact 100 rfl))
    (Hd.kio_ (c.fact 101 rfl))
    (Hd.kio_ (c.fact 102 rfl))
    (Hd.kio_ (c.fact 103 rfl))
    (Hd.kio_ (c.fact 104 rfl))
    (Hd.kio_ (c.fact 105 rfl))
    (Hd.kio_ (c.fact 106 rfl))
    (Hd.kio_ (c.fact 107 rfl))
    (Hd.kio_ (c.fact 108 rfl))
    (Hd.kio_ (c.fact 109 rfl))
    (Hd.kio_ (c.fact 110 rfl))
    (Hd.kio_ (c.fact 111 rfl))
    (Hd.kio_ (c.fact 112 rfl))
    (Hd.kio_ (c.fact 113 rfl))
    (Hd.kio_ (c.fact 114 rfl))
    (Hd.kio_ (c.fact 115 rfl))
    (Hd.kio_ (c.fact 116 rfl))
    (Hd.kio_ (c.fact 117 rfl))
    (Hd.kio_ (c.fact 118 rfl))
    (Hd.kio_ (c.fact 119 rfl))
    (Hd.kio_ (c.fact 120 rfl))
    (Hd.kio_ (c.fact 121 rfl))
    (Hd.kio_ (c.fact 122 rfl))
    (Hd.kio_ (c.fact 123 rfl))
    (Hd.kio_ (c.fact 124 rfl))
    (Hd.kio_ (c.fact 125 rfl))
    (Hd.kio_ (c.fact 126 rfl))
    (Hd.kio_ (c.fact 127 rfl))
    (Hd.kio_ (c.fact 128 rfl))
    (Hd.kio_ (c.fact 129 rfl))
    (Hd.kio_ (c.fact 130 rfl))
    (Hd.kio_ (c.fact 131 rfl))
    (Hd.kio_ (c.fact 132 rfl))
    (Hd.kio_ (c.fact 133 rfl))
    (Hd.kio_ (c.fact 134 rfl))
    (Hd.kio_ (c.fact 135 rfl))
    (Hd.kio_ (c.fact 136 rfl))
    (Hd.kio_ (c.fact 137 rfl))
    (Hd.kio_ (c.fact 138 rfl))
    (Hd.kio_ (c.fact 139 rfl))
    (Hd.kio_ (c.fact 140 rfl))
    (Hd.kio_ (c.fact 141 rfl))
    (Hd.kio_ (c.fact 142 rfl))
    (Hd.kio_ (c.fact 143 rfl))
    (Hd.kio_ (c.fact 144 rfl))
    (Hd.kio_ (c.fact 145 rfl))
    (Hd.kio_ (c.fact 146 rfl))
    (Hd.kio_ (c.fact 147 rfl))
    (Hd.kio_ (c.fact 148 rfl))
    (Hd.kio_ (c.fact 149 rfl))
    (Hd.kio_ (c.fact 150 rfl))
    (Hd.kio_ (c.fact 151 rfl))
    (Hd.kio_ (c.fact 152 rfl))
    (Hd.kio_ (c.fact 153 rfl))
    (Hd.kio_ (c.fact 154 rfl))
    (Hd.kio_ (c.fact 155 rfl))
    (Hd.kio_ (c.fact 156 rfl))
    (Hd.kio_ (c.fact 157 rfl))
    (Hd.kio_ (c.fact 158 rfl))
    (Hd.kio_ (c.fact 159 rfl))
    (Hd.kio_ (c.fact 160 rfl))
    (Hd.kio_ (c.fact 161 rfl))
    (Hd.kio_ (c.fact 162 rfl))
    (Hd.kio_ (c.fact 163 rfl))
    (Hd.kio_ (c.fact 164 rfl))
    (Hd.kio_ (c.fact 165 rfl))
    (Hd.kio_ (c.fact 166 rfl))
    (Hd.kib_ (c.fact 167 rfl))
    (Hd.kib_ (c.fact 168 rfl))
    (Hd.kib_ (c.fact 169 rfl))
    (Hd.kib_ (c.fact 170 rfl))
    (Hd.kib_ (c.fact 171 rfl))
    (Hd.kib_ (c.fact 172 rfl))
    (Hd.kib_ (c.fact 173 rfl))
    (Hd.kib_ (c.fact 174 rfl))
    (Hd.kib_ (c.fact 175 rfl))
    (Hd.kib_ (c.fact 176 rfl))
    (Hd.kib_ (c.fact 177 rfl))
    (Hd.kib_ (c.fact 178 rfl))
    (Hd.kib_ (c.fact 179 rfl))
    (Hd.kib_ (c.fact 180 rfl))
    (Hd.kib_ (c.fact 181 rfl))
    (Hd.kib_ (c.fact 182 rfl))
    (Hd.kib_ (c.fact 183 rfl))
    (Hd.kib_ (c.fact 184 rfl))
    (Hd.kib_ (c.fact 185 rfl))
    (Hd.kib_ (c.fact 186 rfl))
    (Hd.kib_ (c.fact 187 rfl))
    (Hd.kib_ (c.fact 188 rfl))
    (Hd.kib_ (c.fact 189 rfl))
    (Hd.kib_ (c.fact 190 rfl))
    (Hd.kib_ (c.fact 191 rfl))
    (Hd.kib_ (c.fact 192 rfl))
    (Hd.kib_ (c.fact 193 rfl))
    (Hd.kib_ (c.fact 194 rfl))
    (Hd.kib_ (c.fact 195 rfl))
    (Hd.kib_ (c.fact 196 rfl))
    (Hd.kib_ (c.fact 197 rfl))
    (Hd.kib_ (c.fact 198 rfl))
    (Hd.kib_ (c.fact 199 rfl))
    (Hd.kib_ (c.fact 200 rfl))
    (Hd.kib_ (c.fact 201 rfl))
    (Hd.kib_ (c.fact 202 rfl))
    (Hd.kib_ (c.fact 203 rfl))
    (Hd.kib_ (c.fact 204 rfl))
    (Hd.kib_ (c.fact 205 rfl))
    (Hd.kib_ (c.fact 206 rfl))
    (Hd.kib_ (c.fact 207 rfl))
    (Hd.kib_ (c.fact 208 rfl))
    (Hd.kib_ (c.fact 209 rfl))
    (Hd.kib_ (c.fact 210 rfl))
    (Hd.kib_ (c.fact 211 rfl))
    (Hd.kib_ (c.fact 212 rfl))
    (Hd.kib_ (c.fact 213 rfl))
    (Hd.kib_ (c.fact 214 rfl))
    (Hd.kib_ (c.fact 215 rfl))
    (Hd.kib_ (c.fact 216 rfl))
    (Hd.kib_ (c.fact 217 rfl))
    (Hd.kib_ (c.fact 218 rfl))
    (Hd.kib_ (c.fact 219 rfl))
    (Hd.kib_ (c.fact 220 rfl))
    (Hd.kib_ (c.fact 221 rfl))
    (Hd.kib_ (c.fact 222 rfl))
    (Hd.kib_ (c.fact 223 rfl))
    (Hd.kib_ (c.fact 224 rfl))
    (Hd.kib_ (c.fact 225 rfl))
    (Hd.kib_ (c.fact 226 rfl))
    (Hd.kib_ (c.fact 227 rfl))
    (Hd.kib_ (c.fact 228 rfl))
    (Hd.kib_ (c.fact 229 rfl))
    (Hd.kob_ (c.fact 230 rfl))
    (Hd.kob_ (c.fact 231 rfl))
    (Hd.kob_ (c.fact 232 rfl))
    (Hd.kob_ (c.fact 233 rfl))
    (Hd.kob_ (c.fact 234 rfl))
    (Hd.kob_ (c.fact 235 rfl))
    (Hd.kob_ (c.fact 236 rfl))
    (Hd.kob_ (c.fact 237 rfl))
    (Hd.kob_ (c.fact 238 rfl))
    (Hd.kob_ (c.fact 239 rfl))
    (Hd.kob_ (c.fact 240 rfl))
    (Hd.kob_ (c.fact 241 rfl))
    (Hd.kob_ (c.fact 242 rfl))
    (Hd.kob_ (c.fact 243 rfl))
    (Hd.kob_ (c.fact 244 rfl))
    (Hd.kob_ (c.fact 245 rfl))
    (Hd.kob_ (c.fact 246 rfl))
    (Hd.kob_ (c.fact 247 rfl))
    (Hd.kob_ (c.fact 248 rfl))
    (Hd.kob_ (c.fact 249 rfl))
    (Hd.kob_ (c.fact 250 rfl))
    (Hd.kob_ (c.fact 251 rfl))
    (Hd.kob_ (c.fact 252 rfl))
    (Hd.kob_ (c.fact 253 rfl))
    (Hd.kob_ (c.fact 254 rfl))
    (Hd.kob_ (c.fact 255 rfl))
    (Hd.kob_ (c.fact 256 rfl))
    (Hd.kob_ (c.fact 257 rfl))
    (Hd.kob_ (c.fact 258 rfl))
    (Hd.kob_ (c.fact 259 rfl))
    (Hd.kob_ (c.fact 260 rfl))
    (Hd.kob_ (c.fact 261 rfl))
    (Hd.kob_ (c.fact 262 rfl))
    (Hd.kob_ (c.fact 263 rfl))
    (Hd.kob_ (c.fact 264 rfl))
    (Hd.kob_ (c.fact 265 rfl))
    (Hd.kob_ (c.fact 266 rfl))
    (Hd.kob_ (c.fact 267 rfl))
    (Hd.kob_ (c.fact 268 rfl))
    (Hd.kob_ (c.fact 269 rfl))
    (Hd.kob_ (c.fact 270 rfl))
    (Hd.kob_ (c.fact 271 rfl))
    (Hd.kob_ (c.fact 272 rfl))
    (Hd.kob_ (c.fact 273 rfl))
    (Hd.kob_ (c.fact 274 rfl))
    (Hd.kob_ (c.fact 275 rfl))
    (Hd.kob_ (c.fact 276 rfl))
    (Hd.kob_ (c.fact 277 rfl))
    (Hd.kob_ (c.fact 278 rfl))
    (Hd.kob_ (c.fact 279 rfl))
    (Hd.kob_ (c.fact 280 rfl))
    (Hd.kob_ (c.fact 281 rfl))
    (Hd.kob_ (c.fact 282 rfl))
    (Hd.kob_ (c.fact 283 rfl))
    (Hd.kob_ (c.fact 284 rfl))
    (Hd.kob_ (c.fact 285 rfl))
    (Hd.kob_ (c.fact 286 rfl))
    (Hd.kob_ (c.fact 287 rfl))
    (Hd.kob_ (c.fact 288 rfl))
    (Hd.kob_ (c.fact 289 rfl))
    (Hd.kob_ (c.fact 290 rfl))
    (Hd.kob_ (c.fact 291 rfl))
    (Hd.kob_ (c.fact 292 rfl))
    (Hd.kob_ (c.fact 293 rfl))
    (Hd.kob_ (c.fact 294 rfl))
    (Hd.kob_ (c.fact 295 rfl))
    (Hd.kob_ (c.fact 296 rfl))
    (Hd.kob_ (c.fact 297 rfl))
    (Hd.kob_ (c.fact 298 rfl))
    (Hd.kob_ (c.fact 299 rfl))
    (Hd.kob_ (c.fact 300 rfl))
    (Hd.kob_ (c.fact 301 rfl))
    (Hd.ne_ (c.fact 302 rfl))
    (Hd.ne_ (c.fact 303 rfl))
    (Hd.ne_ (c.fact 304 rfl))
    (Hd.ne_ (c.fact 305 rfl))
    (Hd.ne_ (c.fact 306 rfl))
    (Hd.ne_ (c.fact 307 rfl))
    (Hd.ne_ (c.fact 308 rfl))
    (Hd.ne_ (c.fact 309 rfl))
    (Hd.ne_ (c.fact 310 rfl))
    (Hd.ne_ (c.fact 311 rfl))
    (Hd.ne_ (c.fact 312 rfl))
    (Hd.ne_ (c.fact 313 rfl))
    (Hd.ne_ (c.fact 314 rfl))
    (Hd.ne_ (c.fact 315 rfl))
    (Hd.ne_ (c.fact 316 rfl))
    (Hd.ne_ (c.fact 317 rfl))
    (Hd.ne_ (c.fact 318 rfl))
    (Hd.ne_ (c.fact 319 rfl))
    (Hd.ne_ (c.fact 320 rfl))
    (Hd.ne_ (c.fact 321 rfl))
    (Hd.ne_ (c.fact 322 rfl))
    (Hd.ne_ (c.fact 323 rfl))
    (Hd.ne_ (c.fact 324 rfl))
    (Hd.ne_ (c.fact 325 rfl))
    (Hd.ne_ (c.fact 326 rfl))
    (Hd.ne_ (c.fact 327 rfl))
    (Hd.ne_ (c.fact 328 rfl))
    (Hd.ne_ (c.fact 329 rfl))
    (Hd.ne_ (c.fact 330 rfl))
    (Hd.ne_ (c.fact 331 rfl))
    (Hd.ne_ (c.fact 332 rfl))
    (Hd.ne_ (c.fact 333 rfl))
    (Hd.ne_ (c.fact 334 rfl))
    (Hd.ne_ (c.fact 335 rfl))
    (Hd.ne_ (c.fact 336 rfl))
    (Hd.ne_ (c.fact 337 rfl))
    (Hd.ne_ (c.fact 338 rfl))
    (Hd.ne_ (c.fact 339 rfl))
    (Hd.ne_ (c.fact 340 rfl))
    (Hd.ne_ (c.fact 341 rfl))
    (Hd.ne_ (c.fact 342 rfl))
    (Hd.ne_ (c.fact 343 rfl))
    (Hd.ne_ (c.fact 344 rfl))
    (Hd.ne_ (c.fact 345 rfl))
    (Hd.ne_ (c.fact 346 rfl))
    (Hd.ne_ (c.fact 347 rfl))
    (Hd.ne_ (c.fact 348 rfl))
    (Hd.ne_ (c.fact 349 rfl))
    (Hd.ne_ (c.fact 350 rfl))
    (Hd.ne_ (c.fact 351 rfl))
    (Hd.ne_ (c.fact 352 rfl))
    (Hd.ne_ (c.fact 353 rfl))
    (Hd.ne_ (c.fact 354 rfl))
    (Hd.ne_ (c.fact 355 rfl))
    (Hd.ne_ (c.fact 356 rfl))
    (Hd.ne_ (c.fact 357 rfl))
    (Hd.ne_ (c.fact 358 rfl))
    (Hd.ne_ (c.fact 359 rfl))
    (Hd.ne_ (c.fact 360 rfl))
    (Hd.ne_ (c.fact 361 rfl))
    (Hd.ne_ (c.fact 362 rfl))
    (Hd.ne_ (c.fact 363 rfl))
    (Hd.ne_ (c.fact 364 rfl))
    (Hd.ne_ (c.fact 365 rfl))
    (Hd.ne_ (c.fact 366 rfl))
    (Hd.ne_ (c.fact 367 rfl))
    (Hd.fn_ c 0 368 369 rfl rfl rfl)
    (Hd.fn_ c 1 370 371 rfl rfl rfl)
    (Hd.fn_ c 2 372 373 rfl rfl rfl)
    (Hd.meth_ c 3 374 rfl rfl)
    (Hd.meth_ c 4 375 rfl rfl)
    (Hd.meth_ c 5 376 rfl rfl)
    (Hd.meth_ c 6 377 rfl rfl)
    (Hd.meth_ c 7 378 rfl rfl)
    (Hd.meth_ c 8 379 rfl rfl)
    (Hd.meth_ c 9 380 rfl rfl)
    (Hd.methD_ c 10 381 rfl rfl)
    (Hd.meth_ c 11 382 rfl rfl)
    (Hd.meth_ c 12 383 rfl rfl)
    (Hd.meth_ c 13 384 rfl rfl)
    (Hd.fn_ c 14 385 386 rfl rfl rfl)
    (Hd.fn_ c 15 387 388 rfl rfl rfl)
    (Hd.fn_ c 16 389 390 rfl rfl rfl)
    (Hd.fn_ c 17 391 392 rfl rfl rfl)
    (Hd.fn_ c 18 393 394 rfl rfl rfl)
    (Hd.fn_ c 19 395 396 rfl rfl rfl)
    (Hd.fn_ c 20 397 398 rfl rfl rfl)
    (Hd.fn_ c 21 399 400 rfl rfl rfl)
    (Hd.meth_ c 22 401 rfl rfl)
    (Hd.fn_ c 23 402 403 rfl rfl rfl)
    (Hd.fn_ c 24 404 405 rfl rfl rfl)
    (Hd.fn_ c 25 406 407 rfl rfl rfl)
    (Hd.fn_ c 26 408 409 rfl rfl rfl)
    (Hd.fn_ c 27 410 411 rfl rfl rfl)
    (Hd.fn_ c 28 412 413 rfl rfl rfl)
    (Hd.free_ (c.fact 414 rfl))
    (Hd.free_ (c.fact 415 rfl))
    (Hd.free_ (c.fact 416 rfl))
    (Hd.free_ (c.fact 417 rfl))
    (Hd.free_ (c.fact 418 rfl))
    (Hd.free_ (c.fact 419 rfl))
    (Hd.free_ (c.fact 420 rfl))
    (Hd.free_ (c.fact 421 rfl))
    (Hd.free_ (c.fact 422 rfl))
    (Hd.free_ (c.fact 423 rfl))
    (Hd.free_ (c.fact 424 rfl))
    (Hd.free_ (c.fact 425 rfl))
    (Hd.free_ (c.fact 426 rfl))
    (Hd.free_ (c.fact 427 rfl))
    (Hd.str_ (c.fact 428 rfl))
end My
open PySem PySem.W PySem.Calls PyProof.Rows
set_option maxRecDepth 100000 in
set_option maxHeartbeats 0 in
theorem PySem.Challenge.cw_livequill_k71_what_is_reached_holds : PySem.Challenge.rw_livequill_k71_what_is_reached.Holds := by
  w_on; o_law
  refine HandSHeadRun.head_any (r := OpenLaw.row PySem.Challenge.rw_livequill_k71_what_is_reached) (q := view (OpenLaw.row PySem.Challenge.rw_livequill_k71_what_is_reached).prog [44]) (H := My.hk) (ob := My.ob) (M := 300000) (loose := My.nms) (d := HandSHeadRun.topDef (OpenLaw.row PySem.Challenge.rw_livequill_k71_what_is_reached).prog 44) (kwd := []) My.ob_eq
    (by kernel_rfl) (fun s => by kernel_rfl) My.run (by kernel_rfl) (by kernel_rfl) (by kernel_rfl) (by rfl) (by first | assumption | decide +kernel) (by decide +kernel) ⟨rfl, rfl, rfl, rfl, rfl, by decide +kernel⟩ ?hw ?hc
  case hw => w_witness2
  case hc =>
    refine L2.walk_ofE (l := PySem.Challenge.rw_livequill_k71_what_is_reached) (n := 63) (k := 8) (x := "script") (CX := L2.CX0) rfl (by decide) (by kernel_rfl) ⟨rfl, by decide, by decide⟩ ?F (fun _ _ _ _ z => z)
    intro w mg fa h Y G hmg0
    obtain ⟨K, KX, c⟩ := Y
    have hmg : mg ("law" : PySem.Str) = some (.ref fa) := by
      have e : (HandSHeadRun.topDef (OpenLaw.row PySem.Challenge.rw_livequill_k71_what_is_reached).prog 44).name = ("law" : PySem.Str) := by kernel_rfl
      rw [← e]
      exact hmg0
    obtain ⟨fd, hb, hF⟩ := My.facts (P := (PySem.Challenge.rw_livequill_k71_what_is_reached).prog) (w := w) KX G hmg c
    exact ⟨K, fd, My.spLaw K, KX, hb, fun H a ns hl hO hS => ⟨a, ns, rfl, hS, hl, fun _ => rfl⟩, hF⟩
